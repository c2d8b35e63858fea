/- Words of the print, as this seat's own text. No conditions. -/
import Derived.Test.YtbbhacpahnnlcaaVInv
import Derived.Test.YtbbhacpahnnlcaaVFootNe
namespace Go.Proofs.YtbbhacpahnnlcaaV.PrintWords
open Go.RowKit
end Go.Proofs.YtbbhacpahnnlcaaV.PrintWords
namespace Go.Proofs.YtbbhacpahnnlcaaV.PrintLast
section
end
end Go.Proofs.YtbbhacpahnnlcaaV.PrintLast
