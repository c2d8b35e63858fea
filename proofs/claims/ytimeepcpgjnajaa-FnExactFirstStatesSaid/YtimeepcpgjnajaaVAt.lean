/- Words of the print, as this seat's own text. No conditions. -/
import Derived.Test.YtimeepcpgjnajaaVFootNe
namespace Go.Proofs.YtimeepcpgjnajaaV.PrintWords
open Go.RowKit
section
end
namespace Kd
section
end
end Kd
end Go.Proofs.YtimeepcpgjnajaaV.PrintWords
