/- Words of the print, as this seat's own text. No conditions. -/
import Derived.Test.YtjogiiobaakjkaaVTab
namespace Go.Proofs.YtjogiiobaakjkaaV.PrintLast
section
end
end Go.Proofs.YtjogiiobaakjkaaV.PrintLast
