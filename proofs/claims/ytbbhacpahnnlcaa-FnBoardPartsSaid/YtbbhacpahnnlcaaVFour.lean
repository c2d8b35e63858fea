/- Words of the print, as this seat's own text. No conditions. -/
import Derived.Test.YtbbhacpahnnlcaaVTab
namespace Go.Proofs.YtbbhacpahnnlcaaV.PrintLast
section
end
end Go.Proofs.YtbbhacpahnnlcaaV.PrintLast
