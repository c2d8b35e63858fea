/-
  No cell of these rows narrows 'for every input' (looked for: loops, veiled, ifaces, maps, wideKeys, modest, calm, conditions, laid).
  DERIVED. THE GIVEN ROWS OF THIS SEAT. 12 by the template 'for every input the law returns true; each argument reads behind the call as it read before'; 0 by the template 'total and deterministic' (their statements: YtimeepcpgjnajaaTotals.lean).
  GIVEN WITH THE SEED: the statements are not yours to turn. If you find one false, say at which input.
  Laid BY PROGRAM, IN A SANDBOX (cutbox-rows.mjs): the forced cells as the released guide's own fill.sh prints them over the translation a9f2262fbfd39306… (all of the seat's roots in one cut). By AI agents, Wed Nov 11 2026. No macro, syntax, notation, axiom, sorry.
-/
import Derived.Test.YtimeepcpgjnajaaChecked
import GoSem.Claim
import GoSem.ClaimJoined
import GoSem.ClaimMapViews
import Derived.JoinedTies
import Derived.KernelRfl
namespace Go.Proofs.Ytimeepcpgjnajaa
/- THE CELL 'sum', in the pinned program and in every row, IS THE sha256 OF THE DUMP (.gsa) THAT YtimeepcpgjnajaaProg.lean LOADS. Nothing in Lean hashes anything: it is a label: what it is worth is what the hold of that sum in a sandbox is worth. -/
noncomputable def Try.pinned : Pinned := { name := "ytimeepcpgjnajaa", sum := "a9f2262fbfd393064e079f12652656df69bb046bb0caa70669221d20f3c964eb", checked := Try.checked }
namespace Rows
def none {H : Type} : Left H := { results := [], args := [] }

/-- 'laws.FnBoardParts': WHATEVER THE INPUT: true; the input reads as it did. -/
def fnBoardPartsSpec : ChangeSpec := { name := "fnBoardParts", fn := fun _ => fun
  | [d1, d2] => { results := [.lit (.bool true)], args := [d1, d2] }
  | _ => none }
def fnBoardPartsRow : OpenClaim := { program := "ytimeepcpgjnajaa", sum := "a9f2262fbfd393064e079f12652656df69bb046bb0caa70669221d20f3c964eb", func := "loop.example/g00942/laws.FnBoardParts", spec := "fnBoardParts", apart := false }
def FnBoardPartsSaid : Prop := fnBoardPartsRow.holds Try.pinned (OpenSpec.ofChange fnBoardPartsSpec)

/-- ITS FALSE NEIGHBOUR: 'it returns false'. Refute it at one input. -/
def fnBoardPartsWrong : ChangeSpec := { name := "fnBoardParts", fn := fun _ => fun
  | [d1, d2] => { results := [.lit (.bool false)], args := [d1, d2] }
  | _ => none }
def FnBoardPartsWrongFalsely : Prop := fnBoardPartsRow.holds Try.pinned (OpenSpec.ofChange fnBoardPartsWrong)

/-- 'laws.FnExactRunsBackward': WHATEVER THE INPUT: true; the input reads as it did. -/
def fnExactRunsBackwardSpec : ChangeSpec := { name := "fnExactRunsBackward", fn := fun _ => fun
  | [d1, d2] => { results := [.lit (.bool true)], args := [d1, d2] }
  | _ => none }
def fnExactRunsBackwardRow : OpenClaim := { program := "ytimeepcpgjnajaa", sum := "a9f2262fbfd393064e079f12652656df69bb046bb0caa70669221d20f3c964eb", func := "loop.example/g00942/laws.FnExactRunsBackward", spec := "fnExactRunsBackward", apart := false }
def FnExactRunsBackwardSaid : Prop := fnExactRunsBackwardRow.holds Try.pinned (OpenSpec.ofChange fnExactRunsBackwardSpec)

/-- ITS FALSE NEIGHBOUR: 'it returns false'. Refute it at one input. -/
def fnExactRunsBackwardWrong : ChangeSpec := { name := "fnExactRunsBackward", fn := fun _ => fun
  | [d1, d2] => { results := [.lit (.bool false)], args := [d1, d2] }
  | _ => none }
def FnExactRunsBackwardWrongFalsely : Prop := fnExactRunsBackwardRow.holds Try.pinned (OpenSpec.ofChange fnExactRunsBackwardWrong)

/-- 'laws.FnExactBackCycle': WHATEVER THE INPUT: true; the input reads as it did. -/
def fnExactBackCycleSpec : ChangeSpec := { name := "fnExactBackCycle", fn := fun _ => fun
  | [d1, d2] => { results := [.lit (.bool true)], args := [d1, d2] }
  | _ => none }
def fnExactBackCycleRow : OpenClaim := { program := "ytimeepcpgjnajaa", sum := "a9f2262fbfd393064e079f12652656df69bb046bb0caa70669221d20f3c964eb", func := "loop.example/g00942/laws.FnExactBackCycle", spec := "fnExactBackCycle", apart := false }
def FnExactBackCycleSaid : Prop := fnExactBackCycleRow.holds Try.pinned (OpenSpec.ofChange fnExactBackCycleSpec)

/-- ITS FALSE NEIGHBOUR: 'it returns false'. Refute it at one input. -/
def fnExactBackCycleWrong : ChangeSpec := { name := "fnExactBackCycle", fn := fun _ => fun
  | [d1, d2] => { results := [.lit (.bool false)], args := [d1, d2] }
  | _ => none }
def FnExactBackCycleWrongFalsely : Prop := fnExactBackCycleRow.holds Try.pinned (OpenSpec.ofChange fnExactBackCycleWrong)

/-- 'laws.FnExactNextStates': WHATEVER THE INPUT: true; the input reads as it did. -/
def fnExactNextStatesSpec : ChangeSpec := { name := "fnExactNextStates", fn := fun _ => fun
  | [d1, d2] => { results := [.lit (.bool true)], args := [d1, d2] }
  | _ => none }
def fnExactNextStatesRow : OpenClaim := { program := "ytimeepcpgjnajaa", sum := "a9f2262fbfd393064e079f12652656df69bb046bb0caa70669221d20f3c964eb", func := "loop.example/g00942/laws.FnExactNextStates", spec := "fnExactNextStates", apart := false }
def FnExactNextStatesSaid : Prop := fnExactNextStatesRow.holds Try.pinned (OpenSpec.ofChange fnExactNextStatesSpec)

/-- ITS FALSE NEIGHBOUR: 'it returns false'. Refute it at one input. -/
def fnExactNextStatesWrong : ChangeSpec := { name := "fnExactNextStates", fn := fun _ => fun
  | [d1, d2] => { results := [.lit (.bool false)], args := [d1, d2] }
  | _ => none }
def FnExactNextStatesWrongFalsely : Prop := fnExactNextStatesRow.holds Try.pinned (OpenSpec.ofChange fnExactNextStatesWrong)

/-- 'laws.FnExactIsUnique': WHATEVER THE INPUT: true; the input reads as it did. -/
def fnExactIsUniqueSpec : ChangeSpec := { name := "fnExactIsUnique", fn := fun _ => fun
  | [d] => { results := [.lit (.bool true)], args := [d] }
  | _ => none }
def fnExactIsUniqueRow : OpenClaim := { program := "ytimeepcpgjnajaa", sum := "a9f2262fbfd393064e079f12652656df69bb046bb0caa70669221d20f3c964eb", func := "loop.example/g00942/laws.FnExactIsUnique", spec := "fnExactIsUnique", unfollowed := true, recurses := true, apart := false }
def FnExactIsUniqueSaid : Prop := fnExactIsUniqueRow.holds Try.pinned (OpenSpec.ofChange fnExactIsUniqueSpec)

/-- ITS FALSE NEIGHBOUR: 'it returns false'. Refute it at one input. -/
def fnExactIsUniqueWrong : ChangeSpec := { name := "fnExactIsUnique", fn := fun _ => fun
  | [d] => { results := [.lit (.bool false)], args := [d] }
  | _ => none }
def FnExactIsUniqueWrongFalsely : Prop := fnExactIsUniqueRow.holds Try.pinned (OpenSpec.ofChange fnExactIsUniqueWrong)

/-- 'laws.FnExactSolutionCount': WHATEVER THE INPUT: true; the input reads as it did. -/
def fnExactSolutionCountSpec : ChangeSpec := { name := "fnExactSolutionCount", fn := fun _ => fun
  | [d] => { results := [.lit (.bool true)], args := [d] }
  | _ => none }
def fnExactSolutionCountRow : OpenClaim := { program := "ytimeepcpgjnajaa", sum := "a9f2262fbfd393064e079f12652656df69bb046bb0caa70669221d20f3c964eb", func := "loop.example/g00942/laws.FnExactSolutionCount", spec := "fnExactSolutionCount", unfollowed := true, recurses := true, apart := false }
def FnExactSolutionCountSaid : Prop := fnExactSolutionCountRow.holds Try.pinned (OpenSpec.ofChange fnExactSolutionCountSpec)

/-- ITS FALSE NEIGHBOUR: 'it returns false'. Refute it at one input. -/
def fnExactSolutionCountWrong : ChangeSpec := { name := "fnExactSolutionCount", fn := fun _ => fun
  | [d] => { results := [.lit (.bool false)], args := [d] }
  | _ => none }
def FnExactSolutionCountWrongFalsely : Prop := fnExactSolutionCountRow.holds Try.pinned (OpenSpec.ofChange fnExactSolutionCountWrong)

/-- 'laws.FnExactWrongEntries': WHATEVER THE INPUT: true; the input reads as it did. -/
def fnExactWrongEntriesSpec : ChangeSpec := { name := "fnExactWrongEntries", fn := fun _ => fun
  | [d1, d2, d3] => { results := [.lit (.bool true)], args := [d1, d2, d3] }
  | _ => none }
def fnExactWrongEntriesRow : OpenClaim := { program := "ytimeepcpgjnajaa", sum := "a9f2262fbfd393064e079f12652656df69bb046bb0caa70669221d20f3c964eb", func := "loop.example/g00942/laws.FnExactWrongEntries", spec := "fnExactWrongEntries", apart := false }
def FnExactWrongEntriesSaid : Prop := fnExactWrongEntriesRow.holds Try.pinned (OpenSpec.ofChange fnExactWrongEntriesSpec)

/-- ITS FALSE NEIGHBOUR: 'it returns false'. Refute it at one input. -/
def fnExactWrongEntriesWrong : ChangeSpec := { name := "fnExactWrongEntries", fn := fun _ => fun
  | [d1, d2, d3] => { results := [.lit (.bool false)], args := [d1, d2, d3] }
  | _ => none }
def FnExactWrongEntriesWrongFalsely : Prop := fnExactWrongEntriesRow.holds Try.pinned (OpenSpec.ofChange fnExactWrongEntriesWrong)

/-- 'laws.FnExactLeastRows': WHATEVER THE INPUT: true; the input reads as it did. -/
def fnExactLeastRowsSpec : ChangeSpec := { name := "fnExactLeastRows", fn := fun _ => fun
  | [d] => { results := [.lit (.bool true)], args := [d] }
  | _ => none }
def fnExactLeastRowsRow : OpenClaim := { program := "ytimeepcpgjnajaa", sum := "a9f2262fbfd393064e079f12652656df69bb046bb0caa70669221d20f3c964eb", func := "loop.example/g00942/laws.FnExactLeastRows", spec := "fnExactLeastRows", unfollowed := true, recurses := true, apart := false }
def FnExactLeastRowsSaid : Prop := fnExactLeastRowsRow.holds Try.pinned (OpenSpec.ofChange fnExactLeastRowsSpec)

/-- ITS FALSE NEIGHBOUR: 'it returns false'. Refute it at one input. -/
def fnExactLeastRowsWrong : ChangeSpec := { name := "fnExactLeastRows", fn := fun _ => fun
  | [d] => { results := [.lit (.bool false)], args := [d] }
  | _ => none }
def FnExactLeastRowsWrongFalsely : Prop := fnExactLeastRowsRow.holds Try.pinned (OpenSpec.ofChange fnExactLeastRowsWrong)

/-- 'laws.FnExactSolutionsWith': WHATEVER THE INPUT: true; the input reads as it did. -/
def fnExactSolutionsWithSpec : ChangeSpec := { name := "fnExactSolutionsWith", fn := fun _ => fun
  | [d1, d2, d3] => { results := [.lit (.bool true)], args := [d1, d2, d3] }
  | _ => none }
def fnExactSolutionsWithRow : OpenClaim := { program := "ytimeepcpgjnajaa", sum := "a9f2262fbfd393064e079f12652656df69bb046bb0caa70669221d20f3c964eb", func := "loop.example/g00942/laws.FnExactSolutionsWith", spec := "fnExactSolutionsWith", unfollowed := true, recurses := true, apart := false }
def FnExactSolutionsWithSaid : Prop := fnExactSolutionsWithRow.holds Try.pinned (OpenSpec.ofChange fnExactSolutionsWithSpec)

/-- ITS FALSE NEIGHBOUR: 'it returns false'. Refute it at one input. -/
def fnExactSolutionsWithWrong : ChangeSpec := { name := "fnExactSolutionsWith", fn := fun _ => fun
  | [d1, d2, d3] => { results := [.lit (.bool false)], args := [d1, d2, d3] }
  | _ => none }
def FnExactSolutionsWithWrongFalsely : Prop := fnExactSolutionsWithRow.holds Try.pinned (OpenSpec.ofChange fnExactSolutionsWithWrong)

/-- 'laws.FnExactMeetsChallenge': WHATEVER THE INPUT: true; the input reads as it did. -/
def fnExactMeetsChallengeSpec : ChangeSpec := { name := "fnExactMeetsChallenge", fn := fun _ => fun
  | [d1, d2] => { results := [.lit (.bool true)], args := [d1, d2] }
  | _ => none }
def fnExactMeetsChallengeRow : OpenClaim := { program := "ytimeepcpgjnajaa", sum := "a9f2262fbfd393064e079f12652656df69bb046bb0caa70669221d20f3c964eb", func := "loop.example/g00942/laws.FnExactMeetsChallenge", spec := "fnExactMeetsChallenge", apart := false }
def FnExactMeetsChallengeSaid : Prop := fnExactMeetsChallengeRow.holds Try.pinned (OpenSpec.ofChange fnExactMeetsChallengeSpec)

/-- ITS FALSE NEIGHBOUR: 'it returns false'. Refute it at one input. -/
def fnExactMeetsChallengeWrong : ChangeSpec := { name := "fnExactMeetsChallenge", fn := fun _ => fun
  | [d1, d2] => { results := [.lit (.bool false)], args := [d1, d2] }
  | _ => none }
def FnExactMeetsChallengeWrongFalsely : Prop := fnExactMeetsChallengeRow.holds Try.pinned (OpenSpec.ofChange fnExactMeetsChallengeWrong)

/-- 'laws.FnExactCountSolutions': WHATEVER THE INPUT: true; the input reads as it did. -/
def fnExactCountSolutionsSpec : ChangeSpec := { name := "fnExactCountSolutions", fn := fun _ => fun
  | [d] => { results := [.lit (.bool true)], args := [d] }
  | _ => none }
def fnExactCountSolutionsRow : OpenClaim := { program := "ytimeepcpgjnajaa", sum := "a9f2262fbfd393064e079f12652656df69bb046bb0caa70669221d20f3c964eb", func := "loop.example/g00942/laws.FnExactCountSolutions", spec := "fnExactCountSolutions", unfollowed := true, recurses := true, apart := false }
def FnExactCountSolutionsSaid : Prop := fnExactCountSolutionsRow.holds Try.pinned (OpenSpec.ofChange fnExactCountSolutionsSpec)

/-- ITS FALSE NEIGHBOUR: 'it returns false'. Refute it at one input. -/
def fnExactCountSolutionsWrong : ChangeSpec := { name := "fnExactCountSolutions", fn := fun _ => fun
  | [d] => { results := [.lit (.bool false)], args := [d] }
  | _ => none }
def FnExactCountSolutionsWrongFalsely : Prop := fnExactCountSolutionsRow.holds Try.pinned (OpenSpec.ofChange fnExactCountSolutionsWrong)

/-- 'laws.FnExactFirstStates': WHATEVER THE INPUT: true; the input reads as it did. -/
def fnExactFirstStatesSpec : ChangeSpec := { name := "fnExactFirstStates", fn := fun _ => fun
  | [d1, d2] => { results := [.lit (.bool true)], args := [d1, d2] }
  | _ => none }
def fnExactFirstStatesRow : OpenClaim := { program := "ytimeepcpgjnajaa", sum := "a9f2262fbfd393064e079f12652656df69bb046bb0caa70669221d20f3c964eb", func := "loop.example/g00942/laws.FnExactFirstStates", spec := "fnExactFirstStates", apart := false }
def FnExactFirstStatesSaid : Prop := fnExactFirstStatesRow.holds Try.pinned (OpenSpec.ofChange fnExactFirstStatesSpec)

/-- ITS FALSE NEIGHBOUR: 'it returns false'. Refute it at one input. -/
def fnExactFirstStatesWrong : ChangeSpec := { name := "fnExactFirstStates", fn := fun _ => fun
  | [d1, d2] => { results := [.lit (.bool false)], args := [d1, d2] }
  | _ => none }
def FnExactFirstStatesWrongFalsely : Prop := fnExactFirstStatesRow.holds Try.pinned (OpenSpec.ofChange fnExactFirstStatesWrong)

/- THE SECOND FORM. 'bulk': how many values and letters a reading holds, each counted each time it is reached (what is shared counts as often as it is met; a slice's spare places count too). A statement '..UptoSaid' is the law's where the arguments, and the package variables that the reading takes, are together of bulk at most 1048576: NARROWER than '..Said'. Prove '..Said' where nothing that the law and all that it calls make is longer than what came in: it says more and counts as full. Else prove '..UptoSaid'. A law counts once. -/
mutual
def uptoBulk {H : Type} : DataW H → Nat
  | .lit (.string bytes) => bytes.length + 1
  | .lit _ => 1
  | .nil => 1
  | .ptr d => uptoBulk d + 1
  | .slice elems spare => uptoBulkAll elems + uptoBulkAll spare + 1
  | .agg parts => uptoBulkAll parts + 1
  | .iface _ d => uptoBulk d + 1
  | .map entries => uptoBulkEntries entries + 1
  | .held _ => 1
def uptoBulkAll {H : Type} : List (DataW H) → Nat
  | [] => 0
  | d :: r => uptoBulk d + uptoBulkAll r
def uptoBulkEntries {H : Type} : List (Lit × DataW H) → Nat
  | [] => 0
  | x :: r => uptoBulkEntry x + uptoBulkEntries r
def uptoBulkEntry {H : Type} : Lit × DataW H → Nat
  | (.string bytes, d) => bytes.length + uptoBulk d + 1
  | (_, d) => uptoBulk d + 1
 end
def uptoSmall : (H : Type) → List (DataW H) → Bool := fun _ ds => decide (uptoBulkAll ds ≤ 1048576)
def OpenSpec.upto (s : _root_.Go.ChangeSpec) : _root_.Go.OpenSpec := { _root_.Go.OpenSpec.ofChange s with cond := some uptoSmall }

/-- 'laws.FnBoardParts', WHERE WHAT IT READS IS OF BULK AT MOST 1048576: true; the input reads as it did. -/
def fnBoardPartsUptoRow : OpenClaim := { program := "ytimeepcpgjnajaa", sum := "a9f2262fbfd393064e079f12652656df69bb046bb0caa70669221d20f3c964eb", func := "loop.example/g00942/laws.FnBoardParts", spec := "fnBoardParts", apart := false, narrowed := true }
def FnBoardPartsUptoSaid : Prop := fnBoardPartsUptoRow.holds Try.pinned (OpenSpec.upto fnBoardPartsSpec)

/-- 'laws.FnExactRunsBackward', WHERE WHAT IT READS IS OF BULK AT MOST 1048576: true; the input reads as it did. -/
def fnExactRunsBackwardUptoRow : OpenClaim := { program := "ytimeepcpgjnajaa", sum := "a9f2262fbfd393064e079f12652656df69bb046bb0caa70669221d20f3c964eb", func := "loop.example/g00942/laws.FnExactRunsBackward", spec := "fnExactRunsBackward", apart := false, narrowed := true }
def FnExactRunsBackwardUptoSaid : Prop := fnExactRunsBackwardUptoRow.holds Try.pinned (OpenSpec.upto fnExactRunsBackwardSpec)

/-- 'laws.FnExactBackCycle', WHERE WHAT IT READS IS OF BULK AT MOST 1048576: true; the input reads as it did. -/
def fnExactBackCycleUptoRow : OpenClaim := { program := "ytimeepcpgjnajaa", sum := "a9f2262fbfd393064e079f12652656df69bb046bb0caa70669221d20f3c964eb", func := "loop.example/g00942/laws.FnExactBackCycle", spec := "fnExactBackCycle", apart := false, narrowed := true }
def FnExactBackCycleUptoSaid : Prop := fnExactBackCycleUptoRow.holds Try.pinned (OpenSpec.upto fnExactBackCycleSpec)

/-- 'laws.FnExactNextStates', WHERE WHAT IT READS IS OF BULK AT MOST 1048576: true; the input reads as it did. -/
def fnExactNextStatesUptoRow : OpenClaim := { program := "ytimeepcpgjnajaa", sum := "a9f2262fbfd393064e079f12652656df69bb046bb0caa70669221d20f3c964eb", func := "loop.example/g00942/laws.FnExactNextStates", spec := "fnExactNextStates", apart := false, narrowed := true }
def FnExactNextStatesUptoSaid : Prop := fnExactNextStatesUptoRow.holds Try.pinned (OpenSpec.upto fnExactNextStatesSpec)

/-- 'laws.FnExactIsUnique', WHERE WHAT IT READS IS OF BULK AT MOST 1048576: true; the input reads as it did. -/
def fnExactIsUniqueUptoRow : OpenClaim := { program := "ytimeepcpgjnajaa", sum := "a9f2262fbfd393064e079f12652656df69bb046bb0caa70669221d20f3c964eb", func := "loop.example/g00942/laws.FnExactIsUnique", spec := "fnExactIsUnique", unfollowed := true, recurses := true, apart := false, narrowed := true }
def FnExactIsUniqueUptoSaid : Prop := fnExactIsUniqueUptoRow.holds Try.pinned (OpenSpec.upto fnExactIsUniqueSpec)

/-- 'laws.FnExactSolutionCount', WHERE WHAT IT READS IS OF BULK AT MOST 1048576: true; the input reads as it did. -/
def fnExactSolutionCountUptoRow : OpenClaim := { program := "ytimeepcpgjnajaa", sum := "a9f2262fbfd393064e079f12652656df69bb046bb0caa70669221d20f3c964eb", func := "loop.example/g00942/laws.FnExactSolutionCount", spec := "fnExactSolutionCount", unfollowed := true, recurses := true, apart := false, narrowed := true }
def FnExactSolutionCountUptoSaid : Prop := fnExactSolutionCountUptoRow.holds Try.pinned (OpenSpec.upto fnExactSolutionCountSpec)

/-- 'laws.FnExactWrongEntries', WHERE WHAT IT READS IS OF BULK AT MOST 1048576: true; the input reads as it did. -/
def fnExactWrongEntriesUptoRow : OpenClaim := { program := "ytimeepcpgjnajaa", sum := "a9f2262fbfd393064e079f12652656df69bb046bb0caa70669221d20f3c964eb", func := "loop.example/g00942/laws.FnExactWrongEntries", spec := "fnExactWrongEntries", apart := false, narrowed := true }
def FnExactWrongEntriesUptoSaid : Prop := fnExactWrongEntriesUptoRow.holds Try.pinned (OpenSpec.upto fnExactWrongEntriesSpec)

/-- 'laws.FnExactLeastRows', WHERE WHAT IT READS IS OF BULK AT MOST 1048576: true; the input reads as it did. -/
def fnExactLeastRowsUptoRow : OpenClaim := { program := "ytimeepcpgjnajaa", sum := "a9f2262fbfd393064e079f12652656df69bb046bb0caa70669221d20f3c964eb", func := "loop.example/g00942/laws.FnExactLeastRows", spec := "fnExactLeastRows", unfollowed := true, recurses := true, apart := false, narrowed := true }
def FnExactLeastRowsUptoSaid : Prop := fnExactLeastRowsUptoRow.holds Try.pinned (OpenSpec.upto fnExactLeastRowsSpec)

/-- 'laws.FnExactSolutionsWith', WHERE WHAT IT READS IS OF BULK AT MOST 1048576: true; the input reads as it did. -/
def fnExactSolutionsWithUptoRow : OpenClaim := { program := "ytimeepcpgjnajaa", sum := "a9f2262fbfd393064e079f12652656df69bb046bb0caa70669221d20f3c964eb", func := "loop.example/g00942/laws.FnExactSolutionsWith", spec := "fnExactSolutionsWith", unfollowed := true, recurses := true, apart := false, narrowed := true }
def FnExactSolutionsWithUptoSaid : Prop := fnExactSolutionsWithUptoRow.holds Try.pinned (OpenSpec.upto fnExactSolutionsWithSpec)

/-- 'laws.FnExactMeetsChallenge', WHERE WHAT IT READS IS OF BULK AT MOST 1048576: true; the input reads as it did. -/
def fnExactMeetsChallengeUptoRow : OpenClaim := { program := "ytimeepcpgjnajaa", sum := "a9f2262fbfd393064e079f12652656df69bb046bb0caa70669221d20f3c964eb", func := "loop.example/g00942/laws.FnExactMeetsChallenge", spec := "fnExactMeetsChallenge", apart := false, narrowed := true }
def FnExactMeetsChallengeUptoSaid : Prop := fnExactMeetsChallengeUptoRow.holds Try.pinned (OpenSpec.upto fnExactMeetsChallengeSpec)

/-- 'laws.FnExactCountSolutions', WHERE WHAT IT READS IS OF BULK AT MOST 1048576: true; the input reads as it did. -/
def fnExactCountSolutionsUptoRow : OpenClaim := { program := "ytimeepcpgjnajaa", sum := "a9f2262fbfd393064e079f12652656df69bb046bb0caa70669221d20f3c964eb", func := "loop.example/g00942/laws.FnExactCountSolutions", spec := "fnExactCountSolutions", unfollowed := true, recurses := true, apart := false, narrowed := true }
def FnExactCountSolutionsUptoSaid : Prop := fnExactCountSolutionsUptoRow.holds Try.pinned (OpenSpec.upto fnExactCountSolutionsSpec)

/-- 'laws.FnExactFirstStates', WHERE WHAT IT READS IS OF BULK AT MOST 1048576: true; the input reads as it did. -/
def fnExactFirstStatesUptoRow : OpenClaim := { program := "ytimeepcpgjnajaa", sum := "a9f2262fbfd393064e079f12652656df69bb046bb0caa70669221d20f3c964eb", func := "loop.example/g00942/laws.FnExactFirstStates", spec := "fnExactFirstStates", apart := false, narrowed := true }
def FnExactFirstStatesUptoSaid : Prop := fnExactFirstStatesUptoRow.holds Try.pinned (OpenSpec.upto fnExactFirstStatesSpec)

end Rows
end Go.Proofs.Ytimeepcpgjnajaa
