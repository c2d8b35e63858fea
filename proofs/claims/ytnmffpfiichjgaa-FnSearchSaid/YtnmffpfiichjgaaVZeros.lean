/- Words of the print, as this seat's own text. No conditions. -/
import Derived.Test.YtnmffpfiichjgaaVApart
import Derived.Test.YtnmffpfiichjgaaVArr
namespace Go.Proofs.YtnmffpfiichjgaaV.PrintWords
open Go.RowKit
section
end
namespace Kd
section
end
section
end
section
end
end Kd
end Go.Proofs.YtnmffpfiichjgaaV.PrintWords
