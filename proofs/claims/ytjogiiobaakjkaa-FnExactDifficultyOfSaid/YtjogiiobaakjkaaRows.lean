/-
  No cell of these rows narrows 'for every input' (looked for: loops, veiled, ifaces, maps, wideKeys, modest, calm, conditions, laid).
  DERIVED. THE GIVEN ROWS OF THIS SEAT. 12 by the template 'for every input the law returns true; each argument reads behind the call as it read before'; 0 by the template 'total and deterministic' (their statements: YtjogiiobaakjkaaTotals.lean).
  GIVEN WITH THE SEED: the statements are not yours to turn. If you find one false, say at which input.
  Laid BY PROGRAM, IN A SANDBOX (cutbox-rows.mjs): the forced cells as the released guide's own fill.sh prints them over the translation 0983250f5f26befd… (all of the seat's roots in one cut). By AI agents, Wed Nov 11 2026. No macro, syntax, notation, axiom, sorry.
-/
import Derived.Test.YtjogiiobaakjkaaChecked
import GoSem.Claim
import GoSem.ClaimJoined
import GoSem.ClaimMapViews
import Derived.JoinedTies
import Derived.KernelRfl
namespace Go.Proofs.Ytjogiiobaakjkaa
/- THE CELL 'sum', in the pinned program and in every row, IS THE sha256 OF THE DUMP (.gsa) THAT YtjogiiobaakjkaaProg.lean LOADS. Nothing in Lean hashes anything: it is a label: what it is worth is what the hold of that sum in a sandbox is worth. -/
noncomputable def Try.pinned : Pinned := { name := "ytjogiiobaakjkaa", sum := "0983250f5f26befd0cde83d20099289db98805fcf7e0976b1c71ab9674b21ce3", checked := Try.checked }
namespace Rows
def none {H : Type} : Left H := { results := [], args := [] }

/-- 'laws.FnExactChallengeMix': WHATEVER THE INPUT: true; the input reads as it did. -/
def fnExactChallengeMixSpec : ChangeSpec := { name := "fnExactChallengeMix", fn := fun _ => fun
  | [d] => { results := [.lit (.bool true)], args := [d] }
  | _ => none }
def fnExactChallengeMixRow : OpenClaim := { program := "ytjogiiobaakjkaa", sum := "0983250f5f26befd0cde83d20099289db98805fcf7e0976b1c71ab9674b21ce3", func := "loop.example/g00942/laws.FnExactChallengeMix", spec := "fnExactChallengeMix", apart := false }
def FnExactChallengeMixSaid : Prop := fnExactChallengeMixRow.holds Try.pinned (OpenSpec.ofChange fnExactChallengeMixSpec)

/-- ITS FALSE NEIGHBOUR: 'it returns false'. Refute it at one input. -/
def fnExactChallengeMixWrong : ChangeSpec := { name := "fnExactChallengeMix", fn := fun _ => fun
  | [d] => { results := [.lit (.bool false)], args := [d] }
  | _ => none }
def FnExactChallengeMixWrongFalsely : Prop := fnExactChallengeMixRow.holds Try.pinned (OpenSpec.ofChange fnExactChallengeMixWrong)

/-- 'laws.FnExactIsChallenge': WHATEVER THE INPUT: true; the input reads as it did. -/
def fnExactIsChallengeSpec : ChangeSpec := { name := "fnExactIsChallenge", fn := fun _ => fun
  | [d] => { results := [.lit (.bool true)], args := [d] }
  | _ => none }
def fnExactIsChallengeRow : OpenClaim := { program := "ytjogiiobaakjkaa", sum := "0983250f5f26befd0cde83d20099289db98805fcf7e0976b1c71ab9674b21ce3", func := "loop.example/g00942/laws.FnExactIsChallenge", spec := "fnExactIsChallenge", apart := false }
def FnExactIsChallengeSaid : Prop := fnExactIsChallengeRow.holds Try.pinned (OpenSpec.ofChange fnExactIsChallengeSpec)

/-- ITS FALSE NEIGHBOUR: 'it returns false'. Refute it at one input. -/
def fnExactIsChallengeWrong : ChangeSpec := { name := "fnExactIsChallenge", fn := fun _ => fun
  | [d] => { results := [.lit (.bool false)], args := [d] }
  | _ => none }
def FnExactIsChallengeWrongFalsely : Prop := fnExactIsChallengeRow.holds Try.pinned (OpenSpec.ofChange fnExactIsChallengeWrong)

/-- 'laws.FnExactBoardsTried': WHATEVER THE INPUT: true; the input reads as it did. -/
def fnExactBoardsTriedSpec : ChangeSpec := { name := "fnExactBoardsTried", fn := fun _ => fun
  | [d] => { results := [.lit (.bool true)], args := [d] }
  | _ => none }
def fnExactBoardsTriedRow : OpenClaim := { program := "ytjogiiobaakjkaa", sum := "0983250f5f26befd0cde83d20099289db98805fcf7e0976b1c71ab9674b21ce3", func := "loop.example/g00942/laws.FnExactBoardsTried", spec := "fnExactBoardsTried", apart := false }
def FnExactBoardsTriedSaid : Prop := fnExactBoardsTriedRow.holds Try.pinned (OpenSpec.ofChange fnExactBoardsTriedSpec)

/-- ITS FALSE NEIGHBOUR: 'it returns false'. Refute it at one input. -/
def fnExactBoardsTriedWrong : ChangeSpec := { name := "fnExactBoardsTried", fn := fun _ => fun
  | [d] => { results := [.lit (.bool false)], args := [d] }
  | _ => none }
def FnExactBoardsTriedWrongFalsely : Prop := fnExactBoardsTriedRow.holds Try.pinned (OpenSpec.ofChange fnExactBoardsTriedWrong)

/-- 'laws.FnExactMirrorChallenge': WHATEVER THE INPUT: true; the input reads as it did. -/
def fnExactMirrorChallengeSpec : ChangeSpec := { name := "fnExactMirrorChallenge", fn := fun _ => fun
  | [d] => { results := [.lit (.bool true)], args := [d] }
  | _ => none }
def fnExactMirrorChallengeRow : OpenClaim := { program := "ytjogiiobaakjkaa", sum := "0983250f5f26befd0cde83d20099289db98805fcf7e0976b1c71ab9674b21ce3", func := "loop.example/g00942/laws.FnExactMirrorChallenge", spec := "fnExactMirrorChallenge", apart := false }
def FnExactMirrorChallengeSaid : Prop := fnExactMirrorChallengeRow.holds Try.pinned (OpenSpec.ofChange fnExactMirrorChallengeSpec)

/-- ITS FALSE NEIGHBOUR: 'it returns false'. Refute it at one input. -/
def fnExactMirrorChallengeWrong : ChangeSpec := { name := "fnExactMirrorChallenge", fn := fun _ => fun
  | [d] => { results := [.lit (.bool false)], args := [d] }
  | _ => none }
def FnExactMirrorChallengeWrongFalsely : Prop := fnExactMirrorChallengeRow.holds Try.pinned (OpenSpec.ofChange fnExactMirrorChallengeWrong)

/-- 'laws.FnExactEndNumber': WHATEVER THE INPUT: true; the input reads as it did. -/
def fnExactEndNumberSpec : ChangeSpec := { name := "fnExactEndNumber", fn := fun _ => fun
  | [d1, d2] => { results := [.lit (.bool true)], args := [d1, d2] }
  | _ => none }
def fnExactEndNumberRow : OpenClaim := { program := "ytjogiiobaakjkaa", sum := "0983250f5f26befd0cde83d20099289db98805fcf7e0976b1c71ab9674b21ce3", func := "loop.example/g00942/laws.FnExactEndNumber", spec := "fnExactEndNumber", apart := false }
def FnExactEndNumberSaid : Prop := fnExactEndNumberRow.holds Try.pinned (OpenSpec.ofChange fnExactEndNumberSpec)

/-- ITS FALSE NEIGHBOUR: 'it returns false'. Refute it at one input. -/
def fnExactEndNumberWrong : ChangeSpec := { name := "fnExactEndNumber", fn := fun _ => fun
  | [d1, d2] => { results := [.lit (.bool false)], args := [d1, d2] }
  | _ => none }
def FnExactEndNumberWrongFalsely : Prop := fnExactEndNumberRow.holds Try.pinned (OpenSpec.ofChange fnExactEndNumberWrong)

/-- 'laws.FnExactChallengeByKey': WHATEVER THE INPUT: true; the input reads as it did. -/
def fnExactChallengeByKeySpec : ChangeSpec := { name := "fnExactChallengeByKey", fn := fun _ => fun
  | [d1, d2, d3] => { results := [.lit (.bool true)], args := [d1, d2, d3] }
  | _ => none }
def fnExactChallengeByKeyRow : OpenClaim := { program := "ytjogiiobaakjkaa", sum := "0983250f5f26befd0cde83d20099289db98805fcf7e0976b1c71ab9674b21ce3", func := "loop.example/g00942/laws.FnExactChallengeByKey", spec := "fnExactChallengeByKey", apart := false }
def FnExactChallengeByKeySaid : Prop := fnExactChallengeByKeyRow.holds Try.pinned (OpenSpec.ofChange fnExactChallengeByKeySpec)

/-- ITS FALSE NEIGHBOUR: 'it returns false'. Refute it at one input. -/
def fnExactChallengeByKeyWrong : ChangeSpec := { name := "fnExactChallengeByKey", fn := fun _ => fun
  | [d1, d2, d3] => { results := [.lit (.bool false)], args := [d1, d2, d3] }
  | _ => none }
def FnExactChallengeByKeyWrongFalsely : Prop := fnExactChallengeByKeyRow.holds Try.pinned (OpenSpec.ofChange fnExactChallengeByKeyWrong)

/-- 'laws.FnExactUnusedCells': WHATEVER THE INPUT: true; the input reads as it did. -/
def fnExactUnusedCellsSpec : ChangeSpec := { name := "fnExactUnusedCells", fn := fun _ => fun
  | [d] => { results := [.lit (.bool true)], args := [d] }
  | _ => none }
def fnExactUnusedCellsRow : OpenClaim := { program := "ytjogiiobaakjkaa", sum := "0983250f5f26befd0cde83d20099289db98805fcf7e0976b1c71ab9674b21ce3", func := "loop.example/g00942/laws.FnExactUnusedCells", spec := "fnExactUnusedCells", apart := false }
def FnExactUnusedCellsSaid : Prop := fnExactUnusedCellsRow.holds Try.pinned (OpenSpec.ofChange fnExactUnusedCellsSpec)

/-- ITS FALSE NEIGHBOUR: 'it returns false'. Refute it at one input. -/
def fnExactUnusedCellsWrong : ChangeSpec := { name := "fnExactUnusedCells", fn := fun _ => fun
  | [d] => { results := [.lit (.bool false)], args := [d] }
  | _ => none }
def FnExactUnusedCellsWrongFalsely : Prop := fnExactUnusedCellsRow.holds Try.pinned (OpenSpec.ofChange fnExactUnusedCellsWrong)

/-- 'laws.FnExactWithoutUnused': WHATEVER THE INPUT: true; the input reads as it did. -/
def fnExactWithoutUnusedSpec : ChangeSpec := { name := "fnExactWithoutUnused", fn := fun _ => fun
  | [d] => { results := [.lit (.bool true)], args := [d] }
  | _ => none }
def fnExactWithoutUnusedRow : OpenClaim := { program := "ytjogiiobaakjkaa", sum := "0983250f5f26befd0cde83d20099289db98805fcf7e0976b1c71ab9674b21ce3", func := "loop.example/g00942/laws.FnExactWithoutUnused", spec := "fnExactWithoutUnused", apart := false }
def FnExactWithoutUnusedSaid : Prop := fnExactWithoutUnusedRow.holds Try.pinned (OpenSpec.ofChange fnExactWithoutUnusedSpec)

/-- ITS FALSE NEIGHBOUR: 'it returns false'. Refute it at one input. -/
def fnExactWithoutUnusedWrong : ChangeSpec := { name := "fnExactWithoutUnused", fn := fun _ => fun
  | [d] => { results := [.lit (.bool false)], args := [d] }
  | _ => none }
def FnExactWithoutUnusedWrongFalsely : Prop := fnExactWithoutUnusedRow.holds Try.pinned (OpenSpec.ofChange fnExactWithoutUnusedWrong)

/-- 'laws.FnExactVerifyBoard': WHATEVER THE INPUT: true; the input reads as it did. -/
def fnExactVerifyBoardSpec : ChangeSpec := { name := "fnExactVerifyBoard", fn := fun _ => fun
  | [d1, d2, d3] => { results := [.lit (.bool true)], args := [d1, d2, d3] }
  | _ => none }
def fnExactVerifyBoardRow : OpenClaim := { program := "ytjogiiobaakjkaa", sum := "0983250f5f26befd0cde83d20099289db98805fcf7e0976b1c71ab9674b21ce3", func := "loop.example/g00942/laws.FnExactVerifyBoard", spec := "fnExactVerifyBoard", apart := false }
def FnExactVerifyBoardSaid : Prop := fnExactVerifyBoardRow.holds Try.pinned (OpenSpec.ofChange fnExactVerifyBoardSpec)

/-- ITS FALSE NEIGHBOUR: 'it returns false'. Refute it at one input. -/
def fnExactVerifyBoardWrong : ChangeSpec := { name := "fnExactVerifyBoard", fn := fun _ => fun
  | [d1, d2, d3] => { results := [.lit (.bool false)], args := [d1, d2, d3] }
  | _ => none }
def FnExactVerifyBoardWrongFalsely : Prop := fnExactVerifyBoardRow.holds Try.pinned (OpenSpec.ofChange fnExactVerifyBoardWrong)

/-- 'laws.FnExactDifficultyOf': WHATEVER THE INPUT: true; the input reads as it did. -/
def fnExactDifficultyOfSpec : ChangeSpec := { name := "fnExactDifficultyOf", fn := fun _ => fun
  | [d] => { results := [.lit (.bool true)], args := [d] }
  | _ => none }
def fnExactDifficultyOfRow : OpenClaim := { program := "ytjogiiobaakjkaa", sum := "0983250f5f26befd0cde83d20099289db98805fcf7e0976b1c71ab9674b21ce3", func := "loop.example/g00942/laws.FnExactDifficultyOf", spec := "fnExactDifficultyOf", apart := false }
def FnExactDifficultyOfSaid : Prop := fnExactDifficultyOfRow.holds Try.pinned (OpenSpec.ofChange fnExactDifficultyOfSpec)

/-- ITS FALSE NEIGHBOUR: 'it returns false'. Refute it at one input. -/
def fnExactDifficultyOfWrong : ChangeSpec := { name := "fnExactDifficultyOf", fn := fun _ => fun
  | [d] => { results := [.lit (.bool false)], args := [d] }
  | _ => none }
def FnExactDifficultyOfWrongFalsely : Prop := fnExactDifficultyOfRow.holds Try.pinned (OpenSpec.ofChange fnExactDifficultyOfWrong)

/-- 'laws.FnExactSmallerAlike': WHATEVER THE INPUT: true; the input reads as it did. -/
def fnExactSmallerAlikeSpec : ChangeSpec := { name := "fnExactSmallerAlike", fn := fun _ => fun
  | [d1, d2] => { results := [.lit (.bool true)], args := [d1, d2] }
  | _ => none }
def fnExactSmallerAlikeRow : OpenClaim := { program := "ytjogiiobaakjkaa", sum := "0983250f5f26befd0cde83d20099289db98805fcf7e0976b1c71ab9674b21ce3", func := "loop.example/g00942/laws.FnExactSmallerAlike", spec := "fnExactSmallerAlike", apart := false }
def FnExactSmallerAlikeSaid : Prop := fnExactSmallerAlikeRow.holds Try.pinned (OpenSpec.ofChange fnExactSmallerAlikeSpec)

/-- ITS FALSE NEIGHBOUR: 'it returns false'. Refute it at one input. -/
def fnExactSmallerAlikeWrong : ChangeSpec := { name := "fnExactSmallerAlike", fn := fun _ => fun
  | [d1, d2] => { results := [.lit (.bool false)], args := [d1, d2] }
  | _ => none }
def FnExactSmallerAlikeWrongFalsely : Prop := fnExactSmallerAlikeRow.holds Try.pinned (OpenSpec.ofChange fnExactSmallerAlikeWrong)

/-- 'laws.FnExactNeededCells': WHATEVER THE INPUT: true; the input reads as it did. -/
def fnExactNeededCellsSpec : ChangeSpec := { name := "fnExactNeededCells", fn := fun _ => fun
  | [d1, d2] => { results := [.lit (.bool true)], args := [d1, d2] }
  | _ => none }
def fnExactNeededCellsRow : OpenClaim := { program := "ytjogiiobaakjkaa", sum := "0983250f5f26befd0cde83d20099289db98805fcf7e0976b1c71ab9674b21ce3", func := "loop.example/g00942/laws.FnExactNeededCells", spec := "fnExactNeededCells", apart := false }
def FnExactNeededCellsSaid : Prop := fnExactNeededCellsRow.holds Try.pinned (OpenSpec.ofChange fnExactNeededCellsSpec)

/-- ITS FALSE NEIGHBOUR: 'it returns false'. Refute it at one input. -/
def fnExactNeededCellsWrong : ChangeSpec := { name := "fnExactNeededCells", fn := fun _ => fun
  | [d1, d2] => { results := [.lit (.bool false)], args := [d1, d2] }
  | _ => none }
def FnExactNeededCellsWrongFalsely : Prop := fnExactNeededCellsRow.holds Try.pinned (OpenSpec.ofChange fnExactNeededCellsWrong)

/- THE SECOND FORM. 'bulk': how many values and letters a reading holds, each counted each time it is reached (what is shared counts as often as it is met; a slice's spare places count too). A statement '..UptoSaid' is the law's where the arguments, and the package variables that the reading takes, are together of bulk at most 1048576: NARROWER than '..Said'. Prove '..Said' where nothing that the law and all that it calls make is longer than what came in: it says more and counts as full. Else prove '..UptoSaid'. A law counts once. -/
mutual
def uptoBulk {H : Type} : DataW H → Nat
  | .lit (.string bytes) => bytes.length + 1
  | .lit _ => 1
  | .nil => 1
  | .ptr d => uptoBulk d + 1
  | .slice elems spare => uptoBulkAll elems + uptoBulkAll spare + 1
  | .agg parts => uptoBulkAll parts + 1
  | .iface _ d => uptoBulk d + 1
  | .map entries => uptoBulkEntries entries + 1
  | .held _ => 1
def uptoBulkAll {H : Type} : List (DataW H) → Nat
  | [] => 0
  | d :: r => uptoBulk d + uptoBulkAll r
def uptoBulkEntries {H : Type} : List (Lit × DataW H) → Nat
  | [] => 0
  | x :: r => uptoBulkEntry x + uptoBulkEntries r
def uptoBulkEntry {H : Type} : Lit × DataW H → Nat
  | (.string bytes, d) => bytes.length + uptoBulk d + 1
  | (_, d) => uptoBulk d + 1
 end
def uptoSmall : (H : Type) → List (DataW H) → Bool := fun _ ds => decide (uptoBulkAll ds ≤ 1048576)
def OpenSpec.upto (s : _root_.Go.ChangeSpec) : _root_.Go.OpenSpec := { _root_.Go.OpenSpec.ofChange s with cond := some uptoSmall }

/-- 'laws.FnExactChallengeMix', WHERE WHAT IT READS IS OF BULK AT MOST 1048576: true; the input reads as it did. -/
def fnExactChallengeMixUptoRow : OpenClaim := { program := "ytjogiiobaakjkaa", sum := "0983250f5f26befd0cde83d20099289db98805fcf7e0976b1c71ab9674b21ce3", func := "loop.example/g00942/laws.FnExactChallengeMix", spec := "fnExactChallengeMix", apart := false, narrowed := true }
def FnExactChallengeMixUptoSaid : Prop := fnExactChallengeMixUptoRow.holds Try.pinned (OpenSpec.upto fnExactChallengeMixSpec)

/-- 'laws.FnExactIsChallenge', WHERE WHAT IT READS IS OF BULK AT MOST 1048576: true; the input reads as it did. -/
def fnExactIsChallengeUptoRow : OpenClaim := { program := "ytjogiiobaakjkaa", sum := "0983250f5f26befd0cde83d20099289db98805fcf7e0976b1c71ab9674b21ce3", func := "loop.example/g00942/laws.FnExactIsChallenge", spec := "fnExactIsChallenge", apart := false, narrowed := true }
def FnExactIsChallengeUptoSaid : Prop := fnExactIsChallengeUptoRow.holds Try.pinned (OpenSpec.upto fnExactIsChallengeSpec)

/-- 'laws.FnExactBoardsTried', WHERE WHAT IT READS IS OF BULK AT MOST 1048576: true; the input reads as it did. -/
def fnExactBoardsTriedUptoRow : OpenClaim := { program := "ytjogiiobaakjkaa", sum := "0983250f5f26befd0cde83d20099289db98805fcf7e0976b1c71ab9674b21ce3", func := "loop.example/g00942/laws.FnExactBoardsTried", spec := "fnExactBoardsTried", apart := false, narrowed := true }
def FnExactBoardsTriedUptoSaid : Prop := fnExactBoardsTriedUptoRow.holds Try.pinned (OpenSpec.upto fnExactBoardsTriedSpec)

/-- 'laws.FnExactMirrorChallenge', WHERE WHAT IT READS IS OF BULK AT MOST 1048576: true; the input reads as it did. -/
def fnExactMirrorChallengeUptoRow : OpenClaim := { program := "ytjogiiobaakjkaa", sum := "0983250f5f26befd0cde83d20099289db98805fcf7e0976b1c71ab9674b21ce3", func := "loop.example/g00942/laws.FnExactMirrorChallenge", spec := "fnExactMirrorChallenge", apart := false, narrowed := true }
def FnExactMirrorChallengeUptoSaid : Prop := fnExactMirrorChallengeUptoRow.holds Try.pinned (OpenSpec.upto fnExactMirrorChallengeSpec)

/-- 'laws.FnExactEndNumber', WHERE WHAT IT READS IS OF BULK AT MOST 1048576: true; the input reads as it did. -/
def fnExactEndNumberUptoRow : OpenClaim := { program := "ytjogiiobaakjkaa", sum := "0983250f5f26befd0cde83d20099289db98805fcf7e0976b1c71ab9674b21ce3", func := "loop.example/g00942/laws.FnExactEndNumber", spec := "fnExactEndNumber", apart := false, narrowed := true }
def FnExactEndNumberUptoSaid : Prop := fnExactEndNumberUptoRow.holds Try.pinned (OpenSpec.upto fnExactEndNumberSpec)

/-- 'laws.FnExactChallengeByKey', WHERE WHAT IT READS IS OF BULK AT MOST 1048576: true; the input reads as it did. -/
def fnExactChallengeByKeyUptoRow : OpenClaim := { program := "ytjogiiobaakjkaa", sum := "0983250f5f26befd0cde83d20099289db98805fcf7e0976b1c71ab9674b21ce3", func := "loop.example/g00942/laws.FnExactChallengeByKey", spec := "fnExactChallengeByKey", apart := false, narrowed := true }
def FnExactChallengeByKeyUptoSaid : Prop := fnExactChallengeByKeyUptoRow.holds Try.pinned (OpenSpec.upto fnExactChallengeByKeySpec)

/-- 'laws.FnExactUnusedCells', WHERE WHAT IT READS IS OF BULK AT MOST 1048576: true; the input reads as it did. -/
def fnExactUnusedCellsUptoRow : OpenClaim := { program := "ytjogiiobaakjkaa", sum := "0983250f5f26befd0cde83d20099289db98805fcf7e0976b1c71ab9674b21ce3", func := "loop.example/g00942/laws.FnExactUnusedCells", spec := "fnExactUnusedCells", apart := false, narrowed := true }
def FnExactUnusedCellsUptoSaid : Prop := fnExactUnusedCellsUptoRow.holds Try.pinned (OpenSpec.upto fnExactUnusedCellsSpec)

/-- 'laws.FnExactWithoutUnused', WHERE WHAT IT READS IS OF BULK AT MOST 1048576: true; the input reads as it did. -/
def fnExactWithoutUnusedUptoRow : OpenClaim := { program := "ytjogiiobaakjkaa", sum := "0983250f5f26befd0cde83d20099289db98805fcf7e0976b1c71ab9674b21ce3", func := "loop.example/g00942/laws.FnExactWithoutUnused", spec := "fnExactWithoutUnused", apart := false, narrowed := true }
def FnExactWithoutUnusedUptoSaid : Prop := fnExactWithoutUnusedUptoRow.holds Try.pinned (OpenSpec.upto fnExactWithoutUnusedSpec)

/-- 'laws.FnExactVerifyBoard', WHERE WHAT IT READS IS OF BULK AT MOST 1048576: true; the input reads as it did. -/
def fnExactVerifyBoardUptoRow : OpenClaim := { program := "ytjogiiobaakjkaa", sum := "0983250f5f26befd0cde83d20099289db98805fcf7e0976b1c71ab9674b21ce3", func := "loop.example/g00942/laws.FnExactVerifyBoard", spec := "fnExactVerifyBoard", apart := false, narrowed := true }
def FnExactVerifyBoardUptoSaid : Prop := fnExactVerifyBoardUptoRow.holds Try.pinned (OpenSpec.upto fnExactVerifyBoardSpec)

/-- 'laws.FnExactDifficultyOf', WHERE WHAT IT READS IS OF BULK AT MOST 1048576: true; the input reads as it did. -/
def fnExactDifficultyOfUptoRow : OpenClaim := { program := "ytjogiiobaakjkaa", sum := "0983250f5f26befd0cde83d20099289db98805fcf7e0976b1c71ab9674b21ce3", func := "loop.example/g00942/laws.FnExactDifficultyOf", spec := "fnExactDifficultyOf", apart := false, narrowed := true }
def FnExactDifficultyOfUptoSaid : Prop := fnExactDifficultyOfUptoRow.holds Try.pinned (OpenSpec.upto fnExactDifficultyOfSpec)

/-- 'laws.FnExactSmallerAlike', WHERE WHAT IT READS IS OF BULK AT MOST 1048576: true; the input reads as it did. -/
def fnExactSmallerAlikeUptoRow : OpenClaim := { program := "ytjogiiobaakjkaa", sum := "0983250f5f26befd0cde83d20099289db98805fcf7e0976b1c71ab9674b21ce3", func := "loop.example/g00942/laws.FnExactSmallerAlike", spec := "fnExactSmallerAlike", apart := false, narrowed := true }
def FnExactSmallerAlikeUptoSaid : Prop := fnExactSmallerAlikeUptoRow.holds Try.pinned (OpenSpec.upto fnExactSmallerAlikeSpec)

/-- 'laws.FnExactNeededCells', WHERE WHAT IT READS IS OF BULK AT MOST 1048576: true; the input reads as it did. -/
def fnExactNeededCellsUptoRow : OpenClaim := { program := "ytjogiiobaakjkaa", sum := "0983250f5f26befd0cde83d20099289db98805fcf7e0976b1c71ab9674b21ce3", func := "loop.example/g00942/laws.FnExactNeededCells", spec := "fnExactNeededCells", apart := false, narrowed := true }
def FnExactNeededCellsUptoSaid : Prop := fnExactNeededCellsUptoRow.holds Try.pinned (OpenSpec.upto fnExactNeededCellsSpec)

end Rows
end Go.Proofs.Ytjogiiobaakjkaa
