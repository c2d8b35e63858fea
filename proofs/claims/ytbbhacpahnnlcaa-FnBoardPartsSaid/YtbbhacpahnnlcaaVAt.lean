/- Words of the print, as this seat's own text. No conditions. -/
import Derived.Test.YtbbhacpahnnlcaaVFootNe
namespace Go.Proofs.YtbbhacpahnnlcaaV.PrintWords
open Go.RowKit
section
end
namespace Kd
section
end
end Kd
end Go.Proofs.YtbbhacpahnnlcaaV.PrintWords
