/- Words of the print, as this seat's own text. No conditions. -/
import Derived.Test.YtbbhacpahnnlcaaVApart
import Derived.Test.YtbbhacpahnnlcaaVArr
namespace Go.Proofs.YtbbhacpahnnlcaaV.PrintWords
open Go.RowKit
section
end
namespace Kd
section
end
section
end
section
end
end Kd
end Go.Proofs.YtbbhacpahnnlcaaV.PrintWords
