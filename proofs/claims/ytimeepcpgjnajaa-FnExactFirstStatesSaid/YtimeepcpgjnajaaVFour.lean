/- Words of the print, as this seat's own text. No conditions. -/
import Derived.Test.YtimeepcpgjnajaaVTab
namespace Go.Proofs.YtimeepcpgjnajaaV.PrintLast
section
end
end Go.Proofs.YtimeepcpgjnajaaV.PrintLast
