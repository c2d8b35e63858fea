/- Words of the print, as this seat's own text. No conditions. -/
import Derived.Test.YtimeepcpgjnajaaVInv
import Derived.Test.YtimeepcpgjnajaaVFootNe
namespace Go.Proofs.YtimeepcpgjnajaaV.PrintWords
open Go.RowKit
end Go.Proofs.YtimeepcpgjnajaaV.PrintWords
namespace Go.Proofs.YtimeepcpgjnajaaV.PrintLast
section
end
end Go.Proofs.YtimeepcpgjnajaaV.PrintLast
