import Derived.Test.YtipaimgpmgbkiaaF6
namespace Go.Proofs.Ytipaimgpmgbkiaa.StmtFnExactSharpenChallenge
open Go.RowKit Go.Proofs.Ytipaimgpmgbkiaa.F
/-- What is left to prove of the law: a statement over numbers and lists alone. -/
def Stmt : Prop := ∀ (a0_0 : Int) (a0_1 : Int) (l0_2 : (List S106)) (l0_3 : (List Int)) (l0_4 : (List Int)), ((Lit.int .i64 a0_0).wf = true) → ((Lit.int .i64 a0_1).wf = true) → ((∀ y4 ∈ l0_2, ((Lit.int .i64 y4.f0).wf = true ∧ (Lit.int .i64 y4.f1).wf = true)) ∧ l0_2.length ≤ maxLen) → ((∀ y4 ∈ l0_3, (Lit.int .i64 y4).wf = true) ∧ l0_3.length ≤ maxLen) → ((∀ y4 ∈ l0_4, (Lit.int .i64 y4).wf = true) ∧ l0_4.length ≤ maxLen) → ∃ k, laws_FnExactSharpenChallenge.f k a0_0 a0_1 l0_2 l0_3 l0_4 = some true
end Go.Proofs.Ytipaimgpmgbkiaa.StmtFnExactSharpenChallenge
