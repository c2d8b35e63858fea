/- Words of the print, as this seat's own text. No conditions. -/
import Derived.Test.YtjogiiobaakjkaaVWords
namespace Go.Proofs.YtjogiiobaakjkaaV.PrintWords
open Go.RowKit
section
end
end Go.Proofs.YtjogiiobaakjkaaV.PrintWords
