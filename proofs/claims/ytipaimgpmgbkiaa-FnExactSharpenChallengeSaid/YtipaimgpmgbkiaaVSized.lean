/- Words of the print, as this seat's own text. No conditions. -/
import Derived.SizedLaws
import Derived.ChangeSlices
namespace Go.Proofs.YtipaimgpmgbkiaaV.PrintWords
open Go.ChangeShapes Go.WideShapes
end Go.Proofs.YtipaimgpmgbkiaaV.PrintWords
