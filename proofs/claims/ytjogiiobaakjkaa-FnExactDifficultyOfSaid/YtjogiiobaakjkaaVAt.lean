/- Words of the print, as this seat's own text. No conditions. -/
import Derived.Test.YtjogiiobaakjkaaVFootNe
namespace Go.Proofs.YtjogiiobaakjkaaV.PrintWords
open Go.RowKit
section
end
namespace Kd
section
end
end Kd
end Go.Proofs.YtjogiiobaakjkaaV.PrintWords
