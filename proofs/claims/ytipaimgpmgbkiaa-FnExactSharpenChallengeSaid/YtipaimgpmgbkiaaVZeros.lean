/- Words of the print, as this seat's own text. No conditions. -/
import Derived.Test.YtipaimgpmgbkiaaVApart
import Derived.Test.YtipaimgpmgbkiaaVArr
namespace Go.Proofs.YtipaimgpmgbkiaaV.PrintWords
open Go.RowKit
section
end
namespace Kd
section
end
section
end
section
end
end Kd
end Go.Proofs.YtipaimgpmgbkiaaV.PrintWords
