/- Proved: the statement FnBoardParts of the given program, for every input that the statement speaks of. No further conditions. -/
import Derived.Test.YtbbhacpahnnlcaaRows
import Derived.Test.YtbbhacpahnnlcaaF6
import Derived.Test.YtbbhacpahnnlcaaPureFnBoardParts
import Derived.Test.YtbbhacpahnnlcaaVSized
import Derived.WalkKit
import Derived.ProofKit
import Derived.OpenShut
import Derived.ShutString
import Derived.ChangeOld
import Derived.Below
import Derived.SizedLaws
import Derived.Deep.Slices
import Derived.Deep.Fields
import Derived.ChangeSame
import Derived.Lib.SmallJoins
namespace Go.Proofs.Ytbbhacpahnnlcaa.fnBoardParts
open Go.Joins Go.ChangeShapes Go.WideShapes Go.ChangeAt Go.RowKit Go.Deep Go.Proofs.Ytbbhacpahnnlcaa.F Go.Proofs.YtbbhacpahnnlcaaV.PrintWords
open Go.ChangeMaps (open_string shut_string)
set_option linter.unusedVariables false
/-- What a type's reading gives: a value of the kind d, of which G holds. -/
def Opn {α : Type} (P : Program) (t : TypeId) (d : Kd α) (G : α → Prop) : Prop := ∀ (H : Type) (enc : TypeId × Value → H) (w : World) (base : Nat) (spare : Nat → Bool) (held : Bool) (n : Nat) (cs : List Value) {y : DataW H × List MemPlace}, DataW.trod enc P w base spare held n t cs = some y → cs.length = d.sz → ∃ x, d.K w x cs ∧ G x
theorem Opn_int {P : Program} {t : TypeId} {k : IntKind} (ht : P.underlying t = some (.int k)) : Opn P t (Kd.int k) (fun x => (Lit.int k x).wf = true) := by
  intro H enc w base spare held n cs y h _
  obtain ⟨x, e, _, hw⟩ := DataW.trod_int ht h
  exact ⟨x, e, hw⟩
theorem Opn_slice {α : Type} {P : Program} {t e : TypeId} {d : Kd α} {G : α → Prop} (ht : P.underlying t = some (.slice e)) (hc : P.cellsOf e = d.sz) (ho : Opn P e d G) : Opn P t (Kd.slice e d) (fun l => (∀ x ∈ l, G x) ∧ l.length ≤ maxLen) := by
  intro H enc w base spare held n cs y h hl
  rcases open_slice ht h with ⟨rfl, _⟩ | ⟨a, len, cap, m, n', D, Pl, rfl, hb, hl, hm, hmm, _, hi⟩
  · exact ⟨[], ⟨none, 0, rfl, Nat.le_refl _, Kd.C_nil d w⟩, ⟨fun x hx => (List.not_mem_nil hx).elim, Nat.zero_le _⟩⟩
  · have hlm : len ≤ m := by rw [hmm]; split <;> omega
    have ex : ∀ i, i < len → ∃ x : Option α, ∃ z, x = some z ∧ G z ∧ ∃ c : List Value, c.length = d.sz ∧ d.K w z c ∧ ∀ j u, c[j]? = some u → w.cell? (a.add (i * d.sz + j)) = some u := by
      intro i hlt
      obtain ⟨cs', h1, h2⟩ := hi i (by omega)
      obtain ⟨_, hcl, hat⟩ := World.cells?_some h1
      obtain ⟨z, hz, hg⟩ := ho H enc w base spare held n' cs' h2 (hcl.trans hc)
      refine ⟨some z, z, rfl, hg, cs', hcl.trans hc, hz, fun j u hu => ?_⟩
      have hj : j < cs'.length := (List.getElem?_eq_some_iff.1 hu).1
      rw [← hc, ← Go.Deep.add_add, hat j (by omega), hu]
    obtain ⟨F, hF⟩ := choose_lt (α := Option α) ex
    have hX : ∃ xs : List α, xs.length = len ∧ ∀ j z, xs[j]? = some z → F j = some z := by
      clear hi
      have : ∀ q, q ≤ len → ∃ xs : List α, xs.length = q ∧ ∀ j z, xs[j]? = some z → F j = some z := by
        intro q
        induction q with
        | zero => exact fun _ => ⟨[], rfl, fun j z h => by simp at h⟩
        | succ q ih =>
          intro hq
          obtain ⟨xs, h1, h2⟩ := ih (by omega)
          obtain ⟨z, hz, _⟩ := hF q (by omega)
          refine ⟨xs ++ [z], by simp [h1], fun j z' hj => ?_⟩
          rcases Nat.lt_or_ge j xs.length with hlt | hge
          · rw [List.getElem?_append_left hlt] at hj
            exact h2 j z' hj
          · rw [List.getElem?_append_right hge] at hj
            have hj0 : j - xs.length = 0 := by
              have := (List.getElem?_eq_some_iff.1 hj).1
              simp at this
              omega
            rw [hj0] at hj
            have : z = z' := by simpa using hj
            have hjq : j = q := by omega
            rw [hjq, hz, this]
      exact this len (Nat.le_refl _)
    obtain ⟨xs, hxl, hx⟩ := hX
    subst hxl
    have hmax : maxLen = 9223372036854775807 := by decide
    refine ⟨xs, ⟨some a, cap, rfl, hl, rfl, by omega, fun _ => ⟨a, rfl, fun j z hj => ?_⟩⟩, fun z hz => ?_, by omega⟩
    · obtain ⟨z', hz', _, c, hcl, hK, hcc⟩ := hF j (List.getElem?_eq_some_iff.1 hj).1
      have : z = z' := by have := (hx j z hj).symm.trans hz'; injection this
      subst this
      exact ⟨c, hcl, hK, hcc⟩
    · obtain ⟨j, hj, hjz⟩ := List.getElem_of_mem hz
      have h3 : xs[j]? = some z := by rw [List.getElem?_eq_getElem hj, hjz]
      obtain ⟨z', hz', hg, _⟩ := hF j hj
      have : z = z' := by have := (hx j z h3).symm.trans hz'; injection this
      subst this
      exact hg
section
variable {H : Type} {enc : TypeId × Value → H} {P : Program} {w : World} {base : Nat} {spare : Nat → Bool} {held : Bool}
end
theorem own : ownKnob Try.prog.godebug = none := by kernel_rfl
theorem laidOut : laidOutB Try.prog = true := by kernel_rfl
set_option maxRecDepth 100000 in
theorem lifted (os : Os) (started : os.Started) (H : Type) (enc : TypeId × Value → H) :
    ReturnsInHanded {} Try.checked os 3 .any (Rows.fnBoardPartsSpec.pre6 enc Try.prog Try.f3 Rows.fnBoardPartsRow.domain false) (Rows.fnBoardPartsSpec.post enc Try.prog Try.f3 false true false false) := by
  refine returnsInHanded_of_change_sized (C := Try.checked) own started (by kernel_rfl) Try.func3
    (ChangeSpec.witness6 (enc := enc) (C := Try.checked) false ⟨#[], #[.slice none 0 0, .slice none 0 0], []⟩ 8 (by kernel_rfl) (by kernel_rfl) (by kernel_rfl) (by kernel_rfl)) ?_
  intro W base args ds gs before hval0 hW hcnd hsz0 _
  have hsz : (DataW.weightsEach Try.prog (Try.f3.params.toList ++ Rows.fnBoardPartsSpec.plain.varTypes Try.prog) (ds ++ gs)).all (· ≤ reachBytes) = true := hsz0
  have hval : ∀ (j : Nat) t v, Try.f3.params[j]? = some t → args[j]? = some v → Value.okWide Try.prog W .any base t v := hval0
  have hW' := hW
  obtain ⟨p, q, hA0, hV, rfl, hfz, hnd⟩ := hW
  have hA : DataW.TrodAll enc Try.prog W 0 (fun _ => true) true Try.f3.params.toList args.toList ds p := hA0
  rw [Try.params3] at hA hval hsz
  obtain ⟨v0, vs0, d0, ds0, p0, q0, hargs, rfl, rfl, h0, r0⟩ := trodAll_cons hA
  obtain ⟨v1, vs1, d1, ds1, p1, q1, rfl, rfl, rfl, h1, r1⟩ := trodAll_cons r0
  obtain ⟨rfl, rfl, rfl⟩ := trodAll_nil r1
  obtain rfl : args = #[v0, v1] := by cases args; simp_all
  obtain ⟨rfl, rfl⟩ := trodVars_none hV
  have k0 := h0
  have lt0 : ∀ x ∈ p0, x.block < W.heap.size := by obtain ⟨m, hm⟩ := k0; exact DataW.trod_lt m _ _ _ hm
  obtain ⟨b0, len0, cap0, rfl⟩ := okWide_slice Try.underlying22 (hval 0 22 v0 rfl rfl)
  have y0 : len0 * 1 ≤ 140737488351232 := Go.Proofs.YtbbhacpahnnlcaaV.PrintWords.sized_ints hsz (j := 0) (t := 22) rfl rfl Try.underlying22 Try.underlying5 (by kernel_rfl) (by kernel_rfl) h0
  obtain ⟨fuel0, f0⟩ := h0
  obtain ⟨l0, hK0, g0⟩ := (Opn_slice Try.underlying22 (by kernel_rfl) (Opn_int Try.underlying5)) _ _ _ _ _ _ _ _ f0 rfl
  obtain ⟨A0, c0, e0, hc0, hr0⟩ := hK0
  obtain ⟨rfl, rfl, rfl⟩ : b0 = A0 ∧ len0 = l0.length ∧ cap0 = c0 := by simpa [Value.cells] using e0
  have k1 := h1
  have lt1 : ∀ x ∈ p1, x.block < W.heap.size := by obtain ⟨m, hm⟩ := k1; exact DataW.trod_lt m _ _ _ hm
  obtain ⟨b1, len1, cap1, rfl⟩ := okWide_slice Try.underlying22 (hval 1 22 v1 rfl rfl)
  have y1 : len1 * 1 ≤ 140737488351232 := Go.Proofs.YtbbhacpahnnlcaaV.PrintWords.sized_ints hsz (j := 1) (t := 22) rfl rfl Try.underlying22 Try.underlying5 (by kernel_rfl) (by kernel_rfl) h1
  obtain ⟨fuel1, f1⟩ := h1
  obtain ⟨l1, hK1, g1⟩ := (Opn_slice Try.underlying22 (by kernel_rfl) (Opn_int Try.underlying5)) _ _ _ _ _ _ _ _ f1 rfl
  obtain ⟨A1, c1, e1, hc1, hr1⟩ := hK1
  obtain ⟨rfl, rfl, rfl⟩ : b1 = A1 ∧ len1 = l1.length ∧ cap1 = c1 := by simpa [Value.cells] using e1
  clear hA0 hval0 hsz0 hsz
  obtain ⟨k, h⟩ := Pure.FnBoardParts l0 l1 g0 y0 g1 y1
  refine (laws_FnBoardParts.calls k _ _ l0 _ _ l1 true W hr0 hc0 hr1 hc1 rfl h).mono fun e W' ⟨he, bel0⟩ => ?_
  have bel : Below W.heap.size W W' := bel0
  subst he
  exact ⟨_, rfl, _, _, _, [], _, [], hW', trodAll_mk1 (shut_bool Try.underlying4 _), (trodAll_cons_mk (Below.trod laidOut (by kernel_rfl) (of_decide_eq_true (by kernel_rfl)) k0 bel lt0) (trodAll_cons_mk (Below.trod laidOut (by kernel_rfl) (of_decide_eq_true (by kernel_rfl)) k1 bel lt1) trodAll_mk0)), rfl, bel.frame _, fun h => by cases h⟩
theorem over : Rows.fnBoardPartsRow.holds Try.pinned (OpenSpec.ofChange Rows.fnBoardPartsSpec) :=
  OpenClaim.holds_of_wide 3 Try.f3 rfl rfl rfl rfl rfl rfl rfl ⟨rfl, rfl, rfl, rfl, rfl⟩ rfl rfl rfl rfl rfl (by kernel_rfl) Try.func3 (by kernel_rfl)
    (of_decide_eq_true (by kernel_rfl)) (by unfold Func.isWrapper; first | (rw [if_pos (by decide +kernel)]; kernel_rfl) | (rw [if_neg (by decide +kernel)]; exact ⟨rfl, rfl⟩))
    (fun os started H enc _ => lifted os started H enc)
theorem proved : Rows.FnBoardPartsSaid := over
#print axioms proved
end Go.Proofs.Ytbbhacpahnnlcaa.fnBoardParts
namespace Go.Proofs.Ytbbhacpahnnlcaa
theorem fnBoardParts_holds : Rows.FnBoardPartsSaid := fnBoardParts.proved
end Go.Proofs.Ytbbhacpahnnlcaa
