/- Words of the print, as this seat's own text. No conditions. -/
import Derived.Test.YtbbhacpahnnlcaaVWords
namespace Go.Proofs.YtbbhacpahnnlcaaV.PrintWords
open Go.RowKit
section
end
end Go.Proofs.YtbbhacpahnnlcaaV.PrintWords
