/- Words of the print, as this seat's own text. No conditions. -/
import Derived.Test.YtimeepcpgjnajaaVApart
import Derived.Test.YtimeepcpgjnajaaVArr
namespace Go.Proofs.YtimeepcpgjnajaaV.PrintWords
open Go.RowKit
section
end
namespace Kd
section
end
section
end
section
end
end Kd
end Go.Proofs.YtimeepcpgjnajaaV.PrintWords
