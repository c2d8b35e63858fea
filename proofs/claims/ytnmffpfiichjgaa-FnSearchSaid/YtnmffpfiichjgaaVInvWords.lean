/- Words of the print, as this seat's own text. No conditions. -/
import Derived.Test.YtnmffpfiichjgaaVInv
import Derived.Test.YtnmffpfiichjgaaVFootNe
namespace Go.Proofs.YtnmffpfiichjgaaV.PrintWords
open Go.RowKit
end Go.Proofs.YtnmffpfiichjgaaV.PrintWords
namespace Go.Proofs.YtnmffpfiichjgaaV.PrintLast
section
end
end Go.Proofs.YtnmffpfiichjgaaV.PrintLast
