import Derived.Test.YtimeepcpgjnajaaF9
namespace Go.Proofs.Ytimeepcpgjnajaa.StmtFnExactFirstStates
open Go.RowKit Go.Proofs.Ytimeepcpgjnajaa.F
/-- What is left to prove of the law: a statement over numbers and lists alone. -/
def Stmt : Prop := ∀ (a0_0 : Int) (a0_1 : Int) (l0_2 : (List S80)) (a1 : Int), ((Lit.int .i64 a0_0).wf = true) → ((Lit.int .i64 a0_1).wf = true) → ((∀ y4 ∈ l0_2, ((Lit.int .i64 y4.f0).wf = true ∧ (Lit.int .i64 y4.f1).wf = true)) ∧ l0_2.length ≤ maxLen) → ((Lit.int .i64 a1).wf = true) → ∃ k, laws_FnExactFirstStates.f k a0_0 a0_1 l0_2 a1 = some true
end Go.Proofs.Ytimeepcpgjnajaa.StmtFnExactFirstStates
