/- Words of the print, as this seat's own text. No conditions. -/
import Derived.Test.YtipaimgpmgbkiaaVWords
namespace Go.Proofs.YtipaimgpmgbkiaaV.PrintWords
open Go.RowKit
namespace Kd
section
end
section
end
end Kd
end Go.Proofs.YtipaimgpmgbkiaaV.PrintWords
