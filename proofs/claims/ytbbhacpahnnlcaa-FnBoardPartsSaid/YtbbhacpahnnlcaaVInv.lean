/- Words of the print, as this seat's own text. No conditions. -/
import Derived.Test.YtbbhacpahnnlcaaVTab
namespace Go.Proofs.YtbbhacpahnnlcaaV.PrintLast
def up (b : Nat → Bool) (i : Nat) : Nat → Bool := fun j => if j = i then true else b j
section
end
end Go.Proofs.YtbbhacpahnnlcaaV.PrintLast
