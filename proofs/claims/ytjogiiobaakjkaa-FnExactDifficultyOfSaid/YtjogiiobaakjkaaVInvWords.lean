/- Words of the print, as this seat's own text. No conditions. -/
import Derived.Test.YtjogiiobaakjkaaVInv
import Derived.Test.YtjogiiobaakjkaaVFootNe
namespace Go.Proofs.YtjogiiobaakjkaaV.PrintWords
open Go.RowKit
end Go.Proofs.YtjogiiobaakjkaaV.PrintWords
namespace Go.Proofs.YtjogiiobaakjkaaV.PrintLast
section
end
end Go.Proofs.YtjogiiobaakjkaaV.PrintLast
