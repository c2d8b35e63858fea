/-
  No cell of these rows narrows 'for every input' (looked for: loops, veiled, ifaces, maps, wideKeys, modest, calm, conditions, laid).
  DERIVED. THE GIVEN ROWS OF THIS SEAT. 5 by the template 'for every input the law returns true; each argument reads behind the call as it read before'; 0 by the template 'total and deterministic' (their statements: YtnmffpfiichjgaaTotals.lean).
  GIVEN WITH THE SEED: the statements are not yours to turn. If you find one false, say at which input.
  Laid BY PROGRAM, IN A SANDBOX (cutbox-rows.mjs): the forced cells as the released guide's own fill.sh prints them over the translation 7f1643eaff794949… (all of the seat's roots in one cut). By AI agents, Wed Nov 11 2026. No macro, syntax, notation, axiom, sorry.
-/
import Derived.Test.YtnmffpfiichjgaaChecked
import GoSem.Claim
import GoSem.ClaimJoined
import GoSem.ClaimMapViews
import Derived.JoinedTies
import Derived.KernelRfl
namespace Go.Proofs.Ytnmffpfiichjgaa
/- THE CELL 'sum', in the pinned program and in every row, IS THE sha256 OF THE DUMP (.gsa) THAT YtnmffpfiichjgaaProg.lean LOADS. Nothing in Lean hashes anything: it is a label: what it is worth is what the hold of that sum in a sandbox is worth. -/
noncomputable def Try.pinned : Pinned := { name := "ytnmffpfiichjgaa", sum := "7f1643eaff794949db44b8181d68660027fbcb0fafba968738c5722e2e723b06", checked := Try.checked }
namespace Rows
def none {H : Type} : Left H := { results := [], args := [] }

/-- 'laws.FnSolutions': WHATEVER THE INPUT: true; the input reads as it did. -/
def fnSolutionsSpec : ChangeSpec := { name := "fnSolutions", fn := fun _ => fun
  | [d1, d2] => { results := [.lit (.bool true)], args := [d1, d2] }
  | _ => none }
def fnSolutionsRow : OpenClaim := { program := "ytnmffpfiichjgaa", sum := "7f1643eaff794949db44b8181d68660027fbcb0fafba968738c5722e2e723b06", func := "loop.example/g00942/laws.FnSolutions", spec := "fnSolutions", unfollowed := true, recurses := true, apart := false }
def FnSolutionsSaid : Prop := fnSolutionsRow.holds Try.pinned (OpenSpec.ofChange fnSolutionsSpec)

/-- ITS FALSE NEIGHBOUR: 'it returns false'. Refute it at one input. -/
def fnSolutionsWrong : ChangeSpec := { name := "fnSolutions", fn := fun _ => fun
  | [d1, d2] => { results := [.lit (.bool false)], args := [d1, d2] }
  | _ => none }
def FnSolutionsWrongFalsely : Prop := fnSolutionsRow.holds Try.pinned (OpenSpec.ofChange fnSolutionsWrong)

/-- 'laws.FnSharpened': WHATEVER THE INPUT: true; the input reads as it did. -/
def fnSharpenedSpec : ChangeSpec := { name := "fnSharpened", fn := fun _ => fun
  | [d1, d2] => { results := [.lit (.bool true)], args := [d1, d2] }
  | _ => none }
def fnSharpenedRow : OpenClaim := { program := "ytnmffpfiichjgaa", sum := "7f1643eaff794949db44b8181d68660027fbcb0fafba968738c5722e2e723b06", func := "loop.example/g00942/laws.FnSharpened", spec := "fnSharpened", unfollowed := true, recurses := true, apart := false }
def FnSharpenedSaid : Prop := fnSharpenedRow.holds Try.pinned (OpenSpec.ofChange fnSharpenedSpec)

/-- ITS FALSE NEIGHBOUR: 'it returns false'. Refute it at one input. -/
def fnSharpenedWrong : ChangeSpec := { name := "fnSharpened", fn := fun _ => fun
  | [d1, d2] => { results := [.lit (.bool false)], args := [d1, d2] }
  | _ => none }
def FnSharpenedWrongFalsely : Prop := fnSharpenedRow.holds Try.pinned (OpenSpec.ofChange fnSharpenedWrong)

/-- 'laws.FnSearch': WHATEVER THE INPUT: true; the input reads as it did. -/
def fnSearchSpec : ChangeSpec := { name := "fnSearch", fn := fun _ => fun
  | [d1, d2] => { results := [.lit (.bool true)], args := [d1, d2] }
  | _ => none }
def fnSearchRow : OpenClaim := { program := "ytnmffpfiichjgaa", sum := "7f1643eaff794949db44b8181d68660027fbcb0fafba968738c5722e2e723b06", func := "loop.example/g00942/laws.FnSearch", spec := "fnSearch", unfollowed := true, recurses := true, apart := false }
def FnSearchSaid : Prop := fnSearchRow.holds Try.pinned (OpenSpec.ofChange fnSearchSpec)

/-- ITS FALSE NEIGHBOUR: 'it returns false'. Refute it at one input. -/
def fnSearchWrong : ChangeSpec := { name := "fnSearch", fn := fun _ => fun
  | [d1, d2] => { results := [.lit (.bool false)], args := [d1, d2] }
  | _ => none }
def FnSearchWrongFalsely : Prop := fnSearchRow.holds Try.pinned (OpenSpec.ofChange fnSearchWrong)

/-- 'laws.FnVerified': WHATEVER THE INPUT: true; the input reads as it did. -/
def fnVerifiedSpec : ChangeSpec := { name := "fnVerified", fn := fun _ => fun
  | [d1, d2] => { results := [.lit (.bool true)], args := [d1, d2] }
  | _ => none }
def fnVerifiedRow : OpenClaim := { program := "ytnmffpfiichjgaa", sum := "7f1643eaff794949db44b8181d68660027fbcb0fafba968738c5722e2e723b06", func := "loop.example/g00942/laws.FnVerified", spec := "fnVerified", apart := false }
def FnVerifiedSaid : Prop := fnVerifiedRow.holds Try.pinned (OpenSpec.ofChange fnVerifiedSpec)

/-- ITS FALSE NEIGHBOUR: 'it returns false'. Refute it at one input. -/
def fnVerifiedWrong : ChangeSpec := { name := "fnVerified", fn := fun _ => fun
  | [d1, d2] => { results := [.lit (.bool false)], args := [d1, d2] }
  | _ => none }
def FnVerifiedWrongFalsely : Prop := fnVerifiedRow.holds Try.pinned (OpenSpec.ofChange fnVerifiedWrong)

/-- 'laws.FnNeeded': WHATEVER THE INPUT: true; the input reads as it did. -/
def fnNeededSpec : ChangeSpec := { name := "fnNeeded", fn := fun _ => fun
  | [d1, d2] => { results := [.lit (.bool true)], args := [d1, d2] }
  | _ => none }
def fnNeededRow : OpenClaim := { program := "ytnmffpfiichjgaa", sum := "7f1643eaff794949db44b8181d68660027fbcb0fafba968738c5722e2e723b06", func := "loop.example/g00942/laws.FnNeeded", spec := "fnNeeded", apart := false }
def FnNeededSaid : Prop := fnNeededRow.holds Try.pinned (OpenSpec.ofChange fnNeededSpec)

/-- ITS FALSE NEIGHBOUR: 'it returns false'. Refute it at one input. -/
def fnNeededWrong : ChangeSpec := { name := "fnNeeded", fn := fun _ => fun
  | [d1, d2] => { results := [.lit (.bool false)], args := [d1, d2] }
  | _ => none }
def FnNeededWrongFalsely : Prop := fnNeededRow.holds Try.pinned (OpenSpec.ofChange fnNeededWrong)

/- THE SECOND FORM. 'bulk': how many values and letters a reading holds, each counted each time it is reached (what is shared counts as often as it is met; a slice's spare places count too). A statement '..UptoSaid' is the law's where the arguments, and the package variables that the reading takes, are together of bulk at most 1048576: NARROWER than '..Said'. Prove '..Said' where nothing that the law and all that it calls make is longer than what came in: it says more and counts as full. Else prove '..UptoSaid'. A law counts once. -/
mutual
def uptoBulk {H : Type} : DataW H → Nat
  | .lit (.string bytes) => bytes.length + 1
  | .lit _ => 1
  | .nil => 1
  | .ptr d => uptoBulk d + 1
  | .slice elems spare => uptoBulkAll elems + uptoBulkAll spare + 1
  | .agg parts => uptoBulkAll parts + 1
  | .iface _ d => uptoBulk d + 1
  | .map entries => uptoBulkEntries entries + 1
  | .held _ => 1
def uptoBulkAll {H : Type} : List (DataW H) → Nat
  | [] => 0
  | d :: r => uptoBulk d + uptoBulkAll r
def uptoBulkEntries {H : Type} : List (Lit × DataW H) → Nat
  | [] => 0
  | x :: r => uptoBulkEntry x + uptoBulkEntries r
def uptoBulkEntry {H : Type} : Lit × DataW H → Nat
  | (.string bytes, d) => bytes.length + uptoBulk d + 1
  | (_, d) => uptoBulk d + 1
 end
def uptoSmall : (H : Type) → List (DataW H) → Bool := fun _ ds => decide (uptoBulkAll ds ≤ 1048576)
def OpenSpec.upto (s : _root_.Go.ChangeSpec) : _root_.Go.OpenSpec := { _root_.Go.OpenSpec.ofChange s with cond := some uptoSmall }

/-- 'laws.FnSolutions', WHERE WHAT IT READS IS OF BULK AT MOST 1048576: true; the input reads as it did. -/
def fnSolutionsUptoRow : OpenClaim := { program := "ytnmffpfiichjgaa", sum := "7f1643eaff794949db44b8181d68660027fbcb0fafba968738c5722e2e723b06", func := "loop.example/g00942/laws.FnSolutions", spec := "fnSolutions", unfollowed := true, recurses := true, apart := false, narrowed := true }
def FnSolutionsUptoSaid : Prop := fnSolutionsUptoRow.holds Try.pinned (OpenSpec.upto fnSolutionsSpec)

/-- 'laws.FnSharpened', WHERE WHAT IT READS IS OF BULK AT MOST 1048576: true; the input reads as it did. -/
def fnSharpenedUptoRow : OpenClaim := { program := "ytnmffpfiichjgaa", sum := "7f1643eaff794949db44b8181d68660027fbcb0fafba968738c5722e2e723b06", func := "loop.example/g00942/laws.FnSharpened", spec := "fnSharpened", unfollowed := true, recurses := true, apart := false, narrowed := true }
def FnSharpenedUptoSaid : Prop := fnSharpenedUptoRow.holds Try.pinned (OpenSpec.upto fnSharpenedSpec)

/-- 'laws.FnSearch', WHERE WHAT IT READS IS OF BULK AT MOST 1048576: true; the input reads as it did. -/
def fnSearchUptoRow : OpenClaim := { program := "ytnmffpfiichjgaa", sum := "7f1643eaff794949db44b8181d68660027fbcb0fafba968738c5722e2e723b06", func := "loop.example/g00942/laws.FnSearch", spec := "fnSearch", unfollowed := true, recurses := true, apart := false, narrowed := true }
def FnSearchUptoSaid : Prop := fnSearchUptoRow.holds Try.pinned (OpenSpec.upto fnSearchSpec)

/-- 'laws.FnVerified', WHERE WHAT IT READS IS OF BULK AT MOST 1048576: true; the input reads as it did. -/
def fnVerifiedUptoRow : OpenClaim := { program := "ytnmffpfiichjgaa", sum := "7f1643eaff794949db44b8181d68660027fbcb0fafba968738c5722e2e723b06", func := "loop.example/g00942/laws.FnVerified", spec := "fnVerified", apart := false, narrowed := true }
def FnVerifiedUptoSaid : Prop := fnVerifiedUptoRow.holds Try.pinned (OpenSpec.upto fnVerifiedSpec)

/-- 'laws.FnNeeded', WHERE WHAT IT READS IS OF BULK AT MOST 1048576: true; the input reads as it did. -/
def fnNeededUptoRow : OpenClaim := { program := "ytnmffpfiichjgaa", sum := "7f1643eaff794949db44b8181d68660027fbcb0fafba968738c5722e2e723b06", func := "loop.example/g00942/laws.FnNeeded", spec := "fnNeeded", apart := false, narrowed := true }
def FnNeededUptoSaid : Prop := fnNeededUptoRow.holds Try.pinned (OpenSpec.upto fnNeededSpec)

end Rows
end Go.Proofs.Ytnmffpfiichjgaa
