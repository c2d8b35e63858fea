/- Words of the print, as this seat's own text. No conditions. -/
import Derived.Test.YtipaimgpmgbkiaaVInv
import Derived.Test.YtipaimgpmgbkiaaVFootNe
namespace Go.Proofs.YtipaimgpmgbkiaaV.PrintWords
open Go.RowKit
end Go.Proofs.YtipaimgpmgbkiaaV.PrintWords
namespace Go.Proofs.YtipaimgpmgbkiaaV.PrintLast
section
end
end Go.Proofs.YtipaimgpmgbkiaaV.PrintLast
