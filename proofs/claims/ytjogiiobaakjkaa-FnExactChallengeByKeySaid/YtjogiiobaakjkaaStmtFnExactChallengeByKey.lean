import Derived.Test.YtjogiiobaakjkaaF37
namespace Go.Proofs.Ytjogiiobaakjkaa.StmtFnExactChallengeByKey
open Go.RowKit Go.Proofs.Ytjogiiobaakjkaa.F
/-- What is left to prove of the law: a statement over numbers and lists alone. -/
def Stmt : Prop := ∀ (a0 : Int) (a1 : Int) (a2 : Int), ((Lit.int .i64 a0).wf = true) → ((Lit.int .i64 a1).wf = true) → ((Lit.int .i64 a2).wf = true) → ∃ k, laws_FnExactChallengeByKey.f k a0 a1 a2 = some true
end Go.Proofs.Ytjogiiobaakjkaa.StmtFnExactChallengeByKey
