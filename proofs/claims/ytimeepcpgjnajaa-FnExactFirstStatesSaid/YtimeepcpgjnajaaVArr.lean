/- Words of the print, as this seat's own text. No conditions. -/
import Derived.Test.YtimeepcpgjnajaaVWords
namespace Go.Proofs.YtimeepcpgjnajaaV.PrintWords
open Go.RowKit
namespace Kd
section
end
section
end
end Kd
end Go.Proofs.YtimeepcpgjnajaaV.PrintWords
