/- Words of the print, as this seat's own text. No conditions. -/
import Derived.Test.YtimeepcpgjnajaaVWords
namespace Go.Proofs.YtimeepcpgjnajaaV.PrintWords
open Go.RowKit
section
end
end Go.Proofs.YtimeepcpgjnajaaV.PrintWords
