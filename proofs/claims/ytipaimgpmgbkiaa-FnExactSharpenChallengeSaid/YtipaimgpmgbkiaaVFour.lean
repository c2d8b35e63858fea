/- Words of the print, as this seat's own text. No conditions. -/
import Derived.Test.YtipaimgpmgbkiaaVTab
namespace Go.Proofs.YtipaimgpmgbkiaaV.PrintLast
section
end
end Go.Proofs.YtipaimgpmgbkiaaV.PrintLast
