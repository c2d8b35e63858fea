/- Words of the print, as this seat's own text. No conditions. -/
import Derived.Test.YtnmffpfiichjgaaVTab
namespace Go.Proofs.YtnmffpfiichjgaaV.PrintLast
section
end
end Go.Proofs.YtnmffpfiichjgaaV.PrintLast
