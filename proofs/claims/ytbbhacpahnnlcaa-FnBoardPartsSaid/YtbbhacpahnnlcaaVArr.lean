/- Words of the print, as this seat's own text. No conditions. -/
import Derived.Test.YtbbhacpahnnlcaaVWords
namespace Go.Proofs.YtbbhacpahnnlcaaV.PrintWords
open Go.RowKit
namespace Kd
section
end
section
end
end Kd
end Go.Proofs.YtbbhacpahnnlcaaV.PrintWords
