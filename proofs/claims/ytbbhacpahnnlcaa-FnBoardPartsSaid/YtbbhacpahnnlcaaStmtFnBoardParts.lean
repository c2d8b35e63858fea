import Derived.Test.YtbbhacpahnnlcaaF6
namespace Go.Proofs.Ytbbhacpahnnlcaa.StmtFnBoardParts
open Go.RowKit Go.Proofs.Ytbbhacpahnnlcaa.F
/-- What is left to prove of the law: a statement over numbers and lists alone. -/
def Stmt : Prop := ∀ (l0 : (List Int)) (l1 : (List Int)), ((∀ y2 ∈ l0, (Lit.int .u8 y2).wf = true) ∧ l0.length ≤ maxLen) → (l0.length * 1 ≤ 140737488351232) → ((∀ y2 ∈ l1, (Lit.int .u8 y2).wf = true) ∧ l1.length ≤ maxLen) → (l1.length * 1 ≤ 140737488351232) → ∃ k, laws_FnBoardParts.f k l0 l1 = some true
end Go.Proofs.Ytbbhacpahnnlcaa.StmtFnBoardParts
