/- Words of the print, as this seat's own text. No conditions. -/
import Derived.Test.YtnmffpfiichjgaaVN
namespace Go.Proofs.YtnmffpfiichjgaaV.PrintWords
open Go.RowKit
namespace Kd
section
end
section
end
end Kd
end Go.Proofs.YtnmffpfiichjgaaV.PrintWords
