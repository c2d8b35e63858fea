/- Words of the print, as this seat's own text. No conditions. -/
import Derived.Test.YtjogiiobaakjkaaVWords
import Derived.Test.YtjogiiobaakjkaaVLast
namespace Go.Proofs.YtjogiiobaakjkaaV.PrintWords
open Go.RowKit
namespace Kd
section
end
section
end
end Kd
end Go.Proofs.YtjogiiobaakjkaaV.PrintWords
