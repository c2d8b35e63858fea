import Derived.Test.YtipaimgpmgbkiaaF6
namespace Go.Proofs.Ytipaimgpmgbkiaa.StmtFnExactWrongByFlips
open Go.RowKit Go.Proofs.Ytipaimgpmgbkiaa.F
/-- What is left to prove of the law: a statement over numbers and lists alone. -/
def Stmt : Prop := ∀ (a0_0 : Int) (a0_1 : Int) (l0_2 : (List S106)) (a1 : Int) (l2 : (List (List Int))) (a3 : Int) (a4_0 : Int) (l4_1 : (List Int)), ((Lit.int .i64 a0_0).wf = true) → ((Lit.int .i64 a0_1).wf = true) → ((∀ y4 ∈ l0_2, ((Lit.int .i64 y4.f0).wf = true ∧ (Lit.int .i64 y4.f1).wf = true)) ∧ l0_2.length ≤ maxLen) → ((Lit.int .i64 a1).wf = true) → ((∀ y2 ∈ l2, (∀ z2 ∈ y2, (Lit.int .i64 z2).wf = true) ∧ y2.length ≤ maxLen) ∧ l2.length ≤ maxLen) → ((Lit.int .i64 a3).wf = true) → ((Lit.int .i64 a4_0).wf = true) → ((∀ y4 ∈ l4_1, (Lit.int .i64 y4).wf = true) ∧ l4_1.length ≤ maxLen) → ∃ k, laws_FnExactWrongByFlips.f k a0_0 a0_1 l0_2 a1 l2 a3 a4_0 l4_1 = some true
end Go.Proofs.Ytipaimgpmgbkiaa.StmtFnExactWrongByFlips
