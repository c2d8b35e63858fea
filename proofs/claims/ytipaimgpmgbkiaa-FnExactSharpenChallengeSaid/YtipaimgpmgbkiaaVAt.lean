/- Words of the print, as this seat's own text. No conditions. -/
import Derived.Test.YtipaimgpmgbkiaaVFootNe
namespace Go.Proofs.YtipaimgpmgbkiaaV.PrintWords
open Go.RowKit
section
end
namespace Kd
section
end
end Kd
end Go.Proofs.YtipaimgpmgbkiaaV.PrintWords
