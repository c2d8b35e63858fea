/- Words of the print, as this seat's own text. No conditions. -/
import Derived.Test.YtnmffpfiichjgaaVWords
namespace Go.Proofs.YtnmffpfiichjgaaV.PrintWords
open Go.RowKit
section
end
end Go.Proofs.YtnmffpfiichjgaaV.PrintWords
