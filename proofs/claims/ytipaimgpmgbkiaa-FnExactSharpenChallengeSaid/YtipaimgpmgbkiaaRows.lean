/-
  No cell of these rows narrows 'for every input' (looked for: loops, veiled, ifaces, maps, wideKeys, modest, calm, conditions, laid).
  DERIVED. THE GIVEN ROWS OF THIS SEAT. 11 by the template 'for every input the law returns true; each argument reads behind the call as it read before'; 0 by the template 'total and deterministic' (their statements: YtipaimgpmgbkiaaTotals.lean).
  GIVEN WITH THE SEED: the statements are not yours to turn. If you find one false, say at which input.
  Laid BY PROGRAM, IN A SANDBOX (cutbox-rows.mjs): the forced cells as the released guide's own fill.sh prints them over the translation b1a83f01ab9f6d86… (all of the seat's roots in one cut). By AI agents, Wed Nov 11 2026. No macro, syntax, notation, axiom, sorry.
-/
import Derived.Test.YtipaimgpmgbkiaaChecked
import GoSem.Claim
import GoSem.ClaimJoined
import GoSem.ClaimMapViews
import Derived.JoinedTies
import Derived.KernelRfl
namespace Go.Proofs.Ytipaimgpmgbkiaa
/- THE CELL 'sum', in the pinned program and in every row, IS THE sha256 OF THE DUMP (.gsa) THAT YtipaimgpmgbkiaaProg.lean LOADS. Nothing in Lean hashes anything: it is a label: what it is worth is what the hold of that sum in a sandbox is worth. -/
noncomputable def Try.pinned : Pinned := { name := "ytipaimgpmgbkiaa", sum := "b1a83f01ab9f6d863e19728d913a1da0b5f0ca084fd56b3cbd1f12b9b617accc", checked := Try.checked }
namespace Rows
def none {H : Type} : Left H := { results := [], args := [] }

/-- 'laws.FnExactFewestParts': WHATEVER THE INPUT: true; the input reads as it did. -/
def fnExactFewestPartsSpec : ChangeSpec := { name := "fnExactFewestParts", fn := fun _ => fun
  | [d] => { results := [.lit (.bool true)], args := [d] }
  | _ => none }
def fnExactFewestPartsRow : OpenClaim := { program := "ytipaimgpmgbkiaa", sum := "b1a83f01ab9f6d863e19728d913a1da0b5f0ca084fd56b3cbd1f12b9b617accc", func := "loop.example/g00942/laws.FnExactFewestParts", spec := "fnExactFewestParts", unfollowed := true, recurses := true, apart := false }
def FnExactFewestPartsSaid : Prop := fnExactFewestPartsRow.holds Try.pinned (OpenSpec.ofChange fnExactFewestPartsSpec)

/-- ITS FALSE NEIGHBOUR: 'it returns false'. Refute it at one input. -/
def fnExactFewestPartsWrong : ChangeSpec := { name := "fnExactFewestParts", fn := fun _ => fun
  | [d] => { results := [.lit (.bool false)], args := [d] }
  | _ => none }
def FnExactFewestPartsWrongFalsely : Prop := fnExactFewestPartsRow.holds Try.pinned (OpenSpec.ofChange fnExactFewestPartsWrong)

/-- 'laws.FnExactUsefulParts': WHATEVER THE INPUT: true; the input reads as it did. -/
def fnExactUsefulPartsSpec : ChangeSpec := { name := "fnExactUsefulParts", fn := fun _ => fun
  | [d] => { results := [.lit (.bool true)], args := [d] }
  | _ => none }
def fnExactUsefulPartsRow : OpenClaim := { program := "ytipaimgpmgbkiaa", sum := "b1a83f01ab9f6d863e19728d913a1da0b5f0ca084fd56b3cbd1f12b9b617accc", func := "loop.example/g00942/laws.FnExactUsefulParts", spec := "fnExactUsefulParts", unfollowed := true, recurses := true, apart := false }
def FnExactUsefulPartsSaid : Prop := fnExactUsefulPartsRow.holds Try.pinned (OpenSpec.ofChange fnExactUsefulPartsSpec)

/-- ITS FALSE NEIGHBOUR: 'it returns false'. Refute it at one input. -/
def fnExactUsefulPartsWrong : ChangeSpec := { name := "fnExactUsefulParts", fn := fun _ => fun
  | [d] => { results := [.lit (.bool false)], args := [d] }
  | _ => none }
def FnExactUsefulPartsWrongFalsely : Prop := fnExactUsefulPartsRow.holds Try.pinned (OpenSpec.ofChange fnExactUsefulPartsWrong)

/-- 'laws.FnExactSolutionsBySize': WHATEVER THE INPUT: true; the input reads as it did. -/
def fnExactSolutionsBySizeSpec : ChangeSpec := { name := "fnExactSolutionsBySize", fn := fun _ => fun
  | [d] => { results := [.lit (.bool true)], args := [d] }
  | _ => none }
def fnExactSolutionsBySizeRow : OpenClaim := { program := "ytipaimgpmgbkiaa", sum := "b1a83f01ab9f6d863e19728d913a1da0b5f0ca084fd56b3cbd1f12b9b617accc", func := "loop.example/g00942/laws.FnExactSolutionsBySize", spec := "fnExactSolutionsBySize", unfollowed := true, recurses := true, apart := false }
def FnExactSolutionsBySizeSaid : Prop := fnExactSolutionsBySizeRow.holds Try.pinned (OpenSpec.ofChange fnExactSolutionsBySizeSpec)

/-- ITS FALSE NEIGHBOUR: 'it returns false'. Refute it at one input. -/
def fnExactSolutionsBySizeWrong : ChangeSpec := { name := "fnExactSolutionsBySize", fn := fun _ => fun
  | [d] => { results := [.lit (.bool false)], args := [d] }
  | _ => none }
def FnExactSolutionsBySizeWrongFalsely : Prop := fnExactSolutionsBySizeRow.holds Try.pinned (OpenSpec.ofChange fnExactSolutionsBySizeWrong)

/-- 'laws.FnExactSureCells': WHATEVER THE INPUT: true; the input reads as it did. -/
def fnExactSureCellsSpec : ChangeSpec := { name := "fnExactSureCells", fn := fun _ => fun
  | [d] => { results := [.lit (.bool true)], args := [d] }
  | _ => none }
def fnExactSureCellsRow : OpenClaim := { program := "ytipaimgpmgbkiaa", sum := "b1a83f01ab9f6d863e19728d913a1da0b5f0ca084fd56b3cbd1f12b9b617accc", func := "loop.example/g00942/laws.FnExactSureCells", spec := "fnExactSureCells", unfollowed := true, recurses := true, apart := false }
def FnExactSureCellsSaid : Prop := fnExactSureCellsRow.holds Try.pinned (OpenSpec.ofChange fnExactSureCellsSpec)

/-- ITS FALSE NEIGHBOUR: 'it returns false'. Refute it at one input. -/
def fnExactSureCellsWrong : ChangeSpec := { name := "fnExactSureCells", fn := fun _ => fun
  | [d] => { results := [.lit (.bool false)], args := [d] }
  | _ => none }
def FnExactSureCellsWrongFalsely : Prop := fnExactSureCellsRow.holds Try.pinned (OpenSpec.ofChange fnExactSureCellsWrong)

/-- 'laws.FnExactTableByFlips': WHATEVER THE INPUT: true; the input reads as it did. -/
def fnExactTableByFlipsSpec : ChangeSpec := { name := "fnExactTableByFlips", fn := fun _ => fun
  | [d1, d2, d3, d4] => { results := [.lit (.bool true)], args := [d1, d2, d3, d4] }
  | _ => none }
def fnExactTableByFlipsRow : OpenClaim := { program := "ytipaimgpmgbkiaa", sum := "b1a83f01ab9f6d863e19728d913a1da0b5f0ca084fd56b3cbd1f12b9b617accc", func := "loop.example/g00942/laws.FnExactTableByFlips", spec := "fnExactTableByFlips", apart := false }
def FnExactTableByFlipsSaid : Prop := fnExactTableByFlipsRow.holds Try.pinned (OpenSpec.ofChange fnExactTableByFlipsSpec)

/-- ITS FALSE NEIGHBOUR: 'it returns false'. Refute it at one input. -/
def fnExactTableByFlipsWrong : ChangeSpec := { name := "fnExactTableByFlips", fn := fun _ => fun
  | [d1, d2, d3, d4] => { results := [.lit (.bool false)], args := [d1, d2, d3, d4] }
  | _ => none }
def FnExactTableByFlipsWrongFalsely : Prop := fnExactTableByFlipsRow.holds Try.pinned (OpenSpec.ofChange fnExactTableByFlipsWrong)

/-- 'laws.FnExactBestHint': WHATEVER THE INPUT: true; the input reads as it did. -/
def fnExactBestHintSpec : ChangeSpec := { name := "fnExactBestHint", fn := fun _ => fun
  | [d] => { results := [.lit (.bool true)], args := [d] }
  | _ => none }
def fnExactBestHintRow : OpenClaim := { program := "ytipaimgpmgbkiaa", sum := "b1a83f01ab9f6d863e19728d913a1da0b5f0ca084fd56b3cbd1f12b9b617accc", func := "loop.example/g00942/laws.FnExactBestHint", spec := "fnExactBestHint", unfollowed := true, recurses := true, apart := false }
def FnExactBestHintSaid : Prop := fnExactBestHintRow.holds Try.pinned (OpenSpec.ofChange fnExactBestHintSpec)

/-- ITS FALSE NEIGHBOUR: 'it returns false'. Refute it at one input. -/
def fnExactBestHintWrong : ChangeSpec := { name := "fnExactBestHint", fn := fun _ => fun
  | [d] => { results := [.lit (.bool false)], args := [d] }
  | _ => none }
def FnExactBestHintWrongFalsely : Prop := fnExactBestHintRow.holds Try.pinned (OpenSpec.ofChange fnExactBestHintWrong)

/-- 'laws.FnExactFirstSolution': WHATEVER THE INPUT: true; the input reads as it did. -/
def fnExactFirstSolutionSpec : ChangeSpec := { name := "fnExactFirstSolution", fn := fun _ => fun
  | [d] => { results := [.lit (.bool true)], args := [d] }
  | _ => none }
def fnExactFirstSolutionRow : OpenClaim := { program := "ytipaimgpmgbkiaa", sum := "b1a83f01ab9f6d863e19728d913a1da0b5f0ca084fd56b3cbd1f12b9b617accc", func := "loop.example/g00942/laws.FnExactFirstSolution", spec := "fnExactFirstSolution", unfollowed := true, recurses := true, apart := false }
def FnExactFirstSolutionSaid : Prop := fnExactFirstSolutionRow.holds Try.pinned (OpenSpec.ofChange fnExactFirstSolutionSpec)

/-- ITS FALSE NEIGHBOUR: 'it returns false'. Refute it at one input. -/
def fnExactFirstSolutionWrong : ChangeSpec := { name := "fnExactFirstSolution", fn := fun _ => fun
  | [d] => { results := [.lit (.bool false)], args := [d] }
  | _ => none }
def FnExactFirstSolutionWrongFalsely : Prop := fnExactFirstSolutionRow.holds Try.pinned (OpenSpec.ofChange fnExactFirstSolutionWrong)

/-- 'laws.FnExactWrongByFlips': WHATEVER THE INPUT: true; the input reads as it did. -/
def fnExactWrongByFlipsSpec : ChangeSpec := { name := "fnExactWrongByFlips", fn := fun _ => fun
  | [d1, d2, d3, d4, d5] => { results := [.lit (.bool true)], args := [d1, d2, d3, d4, d5] }
  | _ => none }
def fnExactWrongByFlipsRow : OpenClaim := { program := "ytipaimgpmgbkiaa", sum := "b1a83f01ab9f6d863e19728d913a1da0b5f0ca084fd56b3cbd1f12b9b617accc", func := "loop.example/g00942/laws.FnExactWrongByFlips", spec := "fnExactWrongByFlips", apart := false }
def FnExactWrongByFlipsSaid : Prop := fnExactWrongByFlipsRow.holds Try.pinned (OpenSpec.ofChange fnExactWrongByFlipsSpec)

/-- ITS FALSE NEIGHBOUR: 'it returns false'. Refute it at one input. -/
def fnExactWrongByFlipsWrong : ChangeSpec := { name := "fnExactWrongByFlips", fn := fun _ => fun
  | [d1, d2, d3, d4, d5] => { results := [.lit (.bool false)], args := [d1, d2, d3, d4, d5] }
  | _ => none }
def FnExactWrongByFlipsWrongFalsely : Prop := fnExactWrongByFlipsRow.holds Try.pinned (OpenSpec.ofChange fnExactWrongByFlipsWrong)

/-- 'laws.FnExactSmallestBoard': WHATEVER THE INPUT: true; the input reads as it did. -/
def fnExactSmallestBoardSpec : ChangeSpec := { name := "fnExactSmallestBoard", fn := fun _ => fun
  | [d] => { results := [.lit (.bool true)], args := [d] }
  | _ => none }
def fnExactSmallestBoardRow : OpenClaim := { program := "ytipaimgpmgbkiaa", sum := "b1a83f01ab9f6d863e19728d913a1da0b5f0ca084fd56b3cbd1f12b9b617accc", func := "loop.example/g00942/laws.FnExactSmallestBoard", spec := "fnExactSmallestBoard", unfollowed := true, recurses := true, apart := false }
def FnExactSmallestBoardSaid : Prop := fnExactSmallestBoardRow.holds Try.pinned (OpenSpec.ofChange fnExactSmallestBoardSpec)

/-- ITS FALSE NEIGHBOUR: 'it returns false'. Refute it at one input. -/
def fnExactSmallestBoardWrong : ChangeSpec := { name := "fnExactSmallestBoard", fn := fun _ => fun
  | [d] => { results := [.lit (.bool false)], args := [d] }
  | _ => none }
def FnExactSmallestBoardWrongFalsely : Prop := fnExactSmallestBoardRow.holds Try.pinned (OpenSpec.ofChange fnExactSmallestBoardWrong)

/-- 'laws.FnExactAddEntry': WHATEVER THE INPUT: true; the input reads as it did. -/
def fnExactAddEntrySpec : ChangeSpec := { name := "fnExactAddEntry", fn := fun _ => fun
  | [d1, d2] => { results := [.lit (.bool true)], args := [d1, d2] }
  | _ => none }
def fnExactAddEntryRow : OpenClaim := { program := "ytipaimgpmgbkiaa", sum := "b1a83f01ab9f6d863e19728d913a1da0b5f0ca084fd56b3cbd1f12b9b617accc", func := "loop.example/g00942/laws.FnExactAddEntry", spec := "fnExactAddEntry", unfollowed := true, recurses := true, apart := false }
def FnExactAddEntrySaid : Prop := fnExactAddEntryRow.holds Try.pinned (OpenSpec.ofChange fnExactAddEntrySpec)

/-- ITS FALSE NEIGHBOUR: 'it returns false'. Refute it at one input. -/
def fnExactAddEntryWrong : ChangeSpec := { name := "fnExactAddEntry", fn := fun _ => fun
  | [d1, d2] => { results := [.lit (.bool false)], args := [d1, d2] }
  | _ => none }
def FnExactAddEntryWrongFalsely : Prop := fnExactAddEntryRow.holds Try.pinned (OpenSpec.ofChange fnExactAddEntryWrong)

/-- 'laws.FnExactSharpenChallenge': WHATEVER THE INPUT: true; the input reads as it did. -/
def fnExactSharpenChallengeSpec : ChangeSpec := { name := "fnExactSharpenChallenge", fn := fun _ => fun
  | [d] => { results := [.lit (.bool true)], args := [d] }
  | _ => none }
def fnExactSharpenChallengeRow : OpenClaim := { program := "ytipaimgpmgbkiaa", sum := "b1a83f01ab9f6d863e19728d913a1da0b5f0ca084fd56b3cbd1f12b9b617accc", func := "loop.example/g00942/laws.FnExactSharpenChallenge", spec := "fnExactSharpenChallenge", unfollowed := true, recurses := true, apart := false }
def FnExactSharpenChallengeSaid : Prop := fnExactSharpenChallengeRow.holds Try.pinned (OpenSpec.ofChange fnExactSharpenChallengeSpec)

/-- ITS FALSE NEIGHBOUR: 'it returns false'. Refute it at one input. -/
def fnExactSharpenChallengeWrong : ChangeSpec := { name := "fnExactSharpenChallenge", fn := fun _ => fun
  | [d] => { results := [.lit (.bool false)], args := [d] }
  | _ => none }
def FnExactSharpenChallengeWrongFalsely : Prop := fnExactSharpenChallengeRow.holds Try.pinned (OpenSpec.ofChange fnExactSharpenChallengeWrong)

/- THE SECOND FORM. 'bulk': how many values and letters a reading holds, each counted each time it is reached (what is shared counts as often as it is met; a slice's spare places count too). A statement '..UptoSaid' is the law's where the arguments, and the package variables that the reading takes, are together of bulk at most 1048576: NARROWER than '..Said'. Prove '..Said' where nothing that the law and all that it calls make is longer than what came in: it says more and counts as full. Else prove '..UptoSaid'. A law counts once. -/
mutual
def uptoBulk {H : Type} : DataW H → Nat
  | .lit (.string bytes) => bytes.length + 1
  | .lit _ => 1
  | .nil => 1
  | .ptr d => uptoBulk d + 1
  | .slice elems spare => uptoBulkAll elems + uptoBulkAll spare + 1
  | .agg parts => uptoBulkAll parts + 1
  | .iface _ d => uptoBulk d + 1
  | .map entries => uptoBulkEntries entries + 1
  | .held _ => 1
def uptoBulkAll {H : Type} : List (DataW H) → Nat
  | [] => 0
  | d :: r => uptoBulk d + uptoBulkAll r
def uptoBulkEntries {H : Type} : List (Lit × DataW H) → Nat
  | [] => 0
  | x :: r => uptoBulkEntry x + uptoBulkEntries r
def uptoBulkEntry {H : Type} : Lit × DataW H → Nat
  | (.string bytes, d) => bytes.length + uptoBulk d + 1
  | (_, d) => uptoBulk d + 1
 end
def uptoSmall : (H : Type) → List (DataW H) → Bool := fun _ ds => decide (uptoBulkAll ds ≤ 1048576)
def OpenSpec.upto (s : _root_.Go.ChangeSpec) : _root_.Go.OpenSpec := { _root_.Go.OpenSpec.ofChange s with cond := some uptoSmall }

/-- 'laws.FnExactFewestParts', WHERE WHAT IT READS IS OF BULK AT MOST 1048576: true; the input reads as it did. -/
def fnExactFewestPartsUptoRow : OpenClaim := { program := "ytipaimgpmgbkiaa", sum := "b1a83f01ab9f6d863e19728d913a1da0b5f0ca084fd56b3cbd1f12b9b617accc", func := "loop.example/g00942/laws.FnExactFewestParts", spec := "fnExactFewestParts", unfollowed := true, recurses := true, apart := false, narrowed := true }
def FnExactFewestPartsUptoSaid : Prop := fnExactFewestPartsUptoRow.holds Try.pinned (OpenSpec.upto fnExactFewestPartsSpec)

/-- 'laws.FnExactUsefulParts', WHERE WHAT IT READS IS OF BULK AT MOST 1048576: true; the input reads as it did. -/
def fnExactUsefulPartsUptoRow : OpenClaim := { program := "ytipaimgpmgbkiaa", sum := "b1a83f01ab9f6d863e19728d913a1da0b5f0ca084fd56b3cbd1f12b9b617accc", func := "loop.example/g00942/laws.FnExactUsefulParts", spec := "fnExactUsefulParts", unfollowed := true, recurses := true, apart := false, narrowed := true }
def FnExactUsefulPartsUptoSaid : Prop := fnExactUsefulPartsUptoRow.holds Try.pinned (OpenSpec.upto fnExactUsefulPartsSpec)

/-- 'laws.FnExactSolutionsBySize', WHERE WHAT IT READS IS OF BULK AT MOST 1048576: true; the input reads as it did. -/
def fnExactSolutionsBySizeUptoRow : OpenClaim := { program := "ytipaimgpmgbkiaa", sum := "b1a83f01ab9f6d863e19728d913a1da0b5f0ca084fd56b3cbd1f12b9b617accc", func := "loop.example/g00942/laws.FnExactSolutionsBySize", spec := "fnExactSolutionsBySize", unfollowed := true, recurses := true, apart := false, narrowed := true }
def FnExactSolutionsBySizeUptoSaid : Prop := fnExactSolutionsBySizeUptoRow.holds Try.pinned (OpenSpec.upto fnExactSolutionsBySizeSpec)

/-- 'laws.FnExactSureCells', WHERE WHAT IT READS IS OF BULK AT MOST 1048576: true; the input reads as it did. -/
def fnExactSureCellsUptoRow : OpenClaim := { program := "ytipaimgpmgbkiaa", sum := "b1a83f01ab9f6d863e19728d913a1da0b5f0ca084fd56b3cbd1f12b9b617accc", func := "loop.example/g00942/laws.FnExactSureCells", spec := "fnExactSureCells", unfollowed := true, recurses := true, apart := false, narrowed := true }
def FnExactSureCellsUptoSaid : Prop := fnExactSureCellsUptoRow.holds Try.pinned (OpenSpec.upto fnExactSureCellsSpec)

/-- 'laws.FnExactTableByFlips', WHERE WHAT IT READS IS OF BULK AT MOST 1048576: true; the input reads as it did. -/
def fnExactTableByFlipsUptoRow : OpenClaim := { program := "ytipaimgpmgbkiaa", sum := "b1a83f01ab9f6d863e19728d913a1da0b5f0ca084fd56b3cbd1f12b9b617accc", func := "loop.example/g00942/laws.FnExactTableByFlips", spec := "fnExactTableByFlips", apart := false, narrowed := true }
def FnExactTableByFlipsUptoSaid : Prop := fnExactTableByFlipsUptoRow.holds Try.pinned (OpenSpec.upto fnExactTableByFlipsSpec)

/-- 'laws.FnExactBestHint', WHERE WHAT IT READS IS OF BULK AT MOST 1048576: true; the input reads as it did. -/
def fnExactBestHintUptoRow : OpenClaim := { program := "ytipaimgpmgbkiaa", sum := "b1a83f01ab9f6d863e19728d913a1da0b5f0ca084fd56b3cbd1f12b9b617accc", func := "loop.example/g00942/laws.FnExactBestHint", spec := "fnExactBestHint", unfollowed := true, recurses := true, apart := false, narrowed := true }
def FnExactBestHintUptoSaid : Prop := fnExactBestHintUptoRow.holds Try.pinned (OpenSpec.upto fnExactBestHintSpec)

/-- 'laws.FnExactFirstSolution', WHERE WHAT IT READS IS OF BULK AT MOST 1048576: true; the input reads as it did. -/
def fnExactFirstSolutionUptoRow : OpenClaim := { program := "ytipaimgpmgbkiaa", sum := "b1a83f01ab9f6d863e19728d913a1da0b5f0ca084fd56b3cbd1f12b9b617accc", func := "loop.example/g00942/laws.FnExactFirstSolution", spec := "fnExactFirstSolution", unfollowed := true, recurses := true, apart := false, narrowed := true }
def FnExactFirstSolutionUptoSaid : Prop := fnExactFirstSolutionUptoRow.holds Try.pinned (OpenSpec.upto fnExactFirstSolutionSpec)

/-- 'laws.FnExactWrongByFlips', WHERE WHAT IT READS IS OF BULK AT MOST 1048576: true; the input reads as it did. -/
def fnExactWrongByFlipsUptoRow : OpenClaim := { program := "ytipaimgpmgbkiaa", sum := "b1a83f01ab9f6d863e19728d913a1da0b5f0ca084fd56b3cbd1f12b9b617accc", func := "loop.example/g00942/laws.FnExactWrongByFlips", spec := "fnExactWrongByFlips", apart := false, narrowed := true }
def FnExactWrongByFlipsUptoSaid : Prop := fnExactWrongByFlipsUptoRow.holds Try.pinned (OpenSpec.upto fnExactWrongByFlipsSpec)

/-- 'laws.FnExactSmallestBoard', WHERE WHAT IT READS IS OF BULK AT MOST 1048576: true; the input reads as it did. -/
def fnExactSmallestBoardUptoRow : OpenClaim := { program := "ytipaimgpmgbkiaa", sum := "b1a83f01ab9f6d863e19728d913a1da0b5f0ca084fd56b3cbd1f12b9b617accc", func := "loop.example/g00942/laws.FnExactSmallestBoard", spec := "fnExactSmallestBoard", unfollowed := true, recurses := true, apart := false, narrowed := true }
def FnExactSmallestBoardUptoSaid : Prop := fnExactSmallestBoardUptoRow.holds Try.pinned (OpenSpec.upto fnExactSmallestBoardSpec)

/-- 'laws.FnExactAddEntry', WHERE WHAT IT READS IS OF BULK AT MOST 1048576: true; the input reads as it did. -/
def fnExactAddEntryUptoRow : OpenClaim := { program := "ytipaimgpmgbkiaa", sum := "b1a83f01ab9f6d863e19728d913a1da0b5f0ca084fd56b3cbd1f12b9b617accc", func := "loop.example/g00942/laws.FnExactAddEntry", spec := "fnExactAddEntry", unfollowed := true, recurses := true, apart := false, narrowed := true }
def FnExactAddEntryUptoSaid : Prop := fnExactAddEntryUptoRow.holds Try.pinned (OpenSpec.upto fnExactAddEntrySpec)

/-- 'laws.FnExactSharpenChallenge', WHERE WHAT IT READS IS OF BULK AT MOST 1048576: true; the input reads as it did. -/
def fnExactSharpenChallengeUptoRow : OpenClaim := { program := "ytipaimgpmgbkiaa", sum := "b1a83f01ab9f6d863e19728d913a1da0b5f0ca084fd56b3cbd1f12b9b617accc", func := "loop.example/g00942/laws.FnExactSharpenChallenge", spec := "fnExactSharpenChallenge", unfollowed := true, recurses := true, apart := false, narrowed := true }
def FnExactSharpenChallengeUptoSaid : Prop := fnExactSharpenChallengeUptoRow.holds Try.pinned (OpenSpec.upto fnExactSharpenChallengeSpec)

end Rows
end Go.Proofs.Ytipaimgpmgbkiaa
