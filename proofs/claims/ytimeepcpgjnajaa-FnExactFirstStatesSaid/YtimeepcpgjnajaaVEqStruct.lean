/- Words of the print, as this seat's own text. No conditions. -/
import Derived.Test.YtimeepcpgjnajaaVWords
import Derived.Laws.StructEq
namespace Go.Proofs.YtimeepcpgjnajaaV.PrintWords
open Go.RowKit
section
end
end Go.Proofs.YtimeepcpgjnajaaV.PrintWords
