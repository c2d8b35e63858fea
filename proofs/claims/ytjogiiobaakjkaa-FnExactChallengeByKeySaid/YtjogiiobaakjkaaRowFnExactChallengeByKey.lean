/- Proved: the statement FnExactChallengeByKey of the given program, for every input that the statement speaks of. No further conditions. -/
import Derived.Test.YtjogiiobaakjkaaRows
import Derived.Test.YtjogiiobaakjkaaF37
import Derived.Test.YtjogiiobaakjkaaPureFnExactChallengeByKey
import Derived.Test.YtjogiiobaakjkaaVSized
import Derived.WalkKit
import Derived.ProofKit
import Derived.OpenShut
import Derived.ShutString
import Derived.ChangeOld
import Derived.Below
import Derived.SizedLaws
import Derived.Deep.Slices
import Derived.Deep.Fields
import Derived.ChangeSame
import Derived.Lib.SmallJoins
namespace Go.Proofs.Ytjogiiobaakjkaa.fnExactChallengeByKey
open Go.Joins Go.ChangeShapes Go.WideShapes Go.ChangeAt Go.RowKit Go.Deep Go.Proofs.Ytjogiiobaakjkaa.F Go.Proofs.YtjogiiobaakjkaaV.PrintWords
open Go.ChangeMaps (open_string shut_string)
set_option linter.unusedVariables false
/-- What a type's reading gives: a value of the kind d, of which G holds. -/
def Opn {α : Type} (P : Program) (t : TypeId) (d : Kd α) (G : α → Prop) : Prop := ∀ (H : Type) (enc : TypeId × Value → H) (w : World) (base : Nat) (spare : Nat → Bool) (held : Bool) (n : Nat) (cs : List Value) {y : DataW H × List MemPlace}, DataW.trod enc P w base spare held n t cs = some y → cs.length = d.sz → ∃ x, d.K w x cs ∧ G x
theorem Opn_int {P : Program} {t : TypeId} {k : IntKind} (ht : P.underlying t = some (.int k)) : Opn P t (Kd.int k) (fun x => (Lit.int k x).wf = true) := by
  intro H enc w base spare held n cs y h _
  obtain ⟨x, e, _, hw⟩ := DataW.trod_int ht h
  exact ⟨x, e, hw⟩
theorem Opn_slice {α : Type} {P : Program} {t e : TypeId} {d : Kd α} {G : α → Prop} (ht : P.underlying t = some (.slice e)) (hc : P.cellsOf e = d.sz) (ho : Opn P e d G) : Opn P t (Kd.slice e d) (fun l => (∀ x ∈ l, G x) ∧ l.length ≤ maxLen) := by
  intro H enc w base spare held n cs y h hl
  rcases open_slice ht h with ⟨rfl, _⟩ | ⟨a, len, cap, m, n', D, Pl, rfl, hb, hl, hm, hmm, _, hi⟩
  · exact ⟨[], ⟨none, 0, rfl, Nat.le_refl _, Kd.C_nil d w⟩, ⟨fun x hx => (List.not_mem_nil hx).elim, Nat.zero_le _⟩⟩
  · have hlm : len ≤ m := by rw [hmm]; split <;> omega
    have ex : ∀ i, i < len → ∃ x : Option α, ∃ z, x = some z ∧ G z ∧ ∃ c : List Value, c.length = d.sz ∧ d.K w z c ∧ ∀ j u, c[j]? = some u → w.cell? (a.add (i * d.sz + j)) = some u := by
      intro i hlt
      obtain ⟨cs', h1, h2⟩ := hi i (by omega)
      obtain ⟨_, hcl, hat⟩ := World.cells?_some h1
      obtain ⟨z, hz, hg⟩ := ho H enc w base spare held n' cs' h2 (hcl.trans hc)
      refine ⟨some z, z, rfl, hg, cs', hcl.trans hc, hz, fun j u hu => ?_⟩
      have hj : j < cs'.length := (List.getElem?_eq_some_iff.1 hu).1
      rw [← hc, ← Go.Deep.add_add, hat j (by omega), hu]
    obtain ⟨F, hF⟩ := choose_lt (α := Option α) ex
    have hX : ∃ xs : List α, xs.length = len ∧ ∀ j z, xs[j]? = some z → F j = some z := by
      clear hi
      have : ∀ q, q ≤ len → ∃ xs : List α, xs.length = q ∧ ∀ j z, xs[j]? = some z → F j = some z := by
        intro q
        induction q with
        | zero => exact fun _ => ⟨[], rfl, fun j z h => by simp at h⟩
        | succ q ih =>
          intro hq
          obtain ⟨xs, h1, h2⟩ := ih (by omega)
          obtain ⟨z, hz, _⟩ := hF q (by omega)
          refine ⟨xs ++ [z], by simp [h1], fun j z' hj => ?_⟩
          rcases Nat.lt_or_ge j xs.length with hlt | hge
          · rw [List.getElem?_append_left hlt] at hj
            exact h2 j z' hj
          · rw [List.getElem?_append_right hge] at hj
            have hj0 : j - xs.length = 0 := by
              have := (List.getElem?_eq_some_iff.1 hj).1
              simp at this
              omega
            rw [hj0] at hj
            have : z = z' := by simpa using hj
            have hjq : j = q := by omega
            rw [hjq, hz, this]
      exact this len (Nat.le_refl _)
    obtain ⟨xs, hxl, hx⟩ := hX
    subst hxl
    have hmax : maxLen = 9223372036854775807 := by decide
    refine ⟨xs, ⟨some a, cap, rfl, hl, rfl, by omega, fun _ => ⟨a, rfl, fun j z hj => ?_⟩⟩, fun z hz => ?_, by omega⟩
    · obtain ⟨z', hz', _, c, hcl, hK, hcc⟩ := hF j (List.getElem?_eq_some_iff.1 hj).1
      have : z = z' := by have := (hx j z hj).symm.trans hz'; injection this
      subst this
      exact ⟨c, hcl, hK, hcc⟩
    · obtain ⟨j, hj, hjz⟩ := List.getElem_of_mem hz
      have h3 : xs[j]? = some z := by rw [List.getElem?_eq_getElem hj, hjz]
      obtain ⟨z', hz', hg, _⟩ := hF j hj
      have : z = z' := by have := (hx j z h3).symm.trans hz'; injection this
      subst this
      exact hg
section
variable {H : Type} {enc : TypeId × Value → H} {P : Program} {w : World} {base : Nat} {spare : Nat → Bool} {held : Bool}
end
theorem own : ownKnob Try.prog.godebug = none := by kernel_rfl
theorem laidOut : laidOutB Try.prog = true := by kernel_rfl
set_option maxRecDepth 100000 in
theorem lifted (os : Os) (started : os.Started) (H : Type) (enc : TypeId × Value → H) :
    ReturnsInHanded {} Try.checked os 8 .any (Rows.fnExactChallengeByKeySpec.pre6 enc Try.prog Try.f8 Rows.fnExactChallengeByKeyRow.domain false) (Rows.fnExactChallengeByKeySpec.post enc Try.prog Try.f8 false true false false) := by
  refine returnsInHanded_of_change_sized (C := Try.checked) own started (by kernel_rfl) Try.func8
    (ChangeSpec.witness6 (enc := enc) (C := Try.checked) false ⟨#[], #[.int .i64 0, .int .i64 0, .int .i64 0], []⟩ 8 (by kernel_rfl) (by kernel_rfl) (by kernel_rfl) (by kernel_rfl)) ?_
  intro W base args ds gs before hval0 hW hcnd hsz0 _
  have hsz : (DataW.weightsEach Try.prog (Try.f8.params.toList ++ Rows.fnExactChallengeByKeySpec.plain.varTypes Try.prog) (ds ++ gs)).all (· ≤ reachBytes) = true := hsz0
  have hval : ∀ (j : Nat) t v, Try.f8.params[j]? = some t → args[j]? = some v → Value.okWide Try.prog W .any base t v := hval0
  have hW' := hW
  obtain ⟨p, q, hA0, hV, rfl, hfz, hnd⟩ := hW
  have hA : DataW.TrodAll enc Try.prog W 0 (fun _ => true) true Try.f8.params.toList args.toList ds p := hA0
  rw [Try.params8] at hA hval hsz
  obtain ⟨v0, vs0, d0, ds0, p0, q0, hargs, rfl, rfl, h0, r0⟩ := trodAll_cons hA
  obtain ⟨v1, vs1, d1, ds1, p1, q1, rfl, rfl, rfl, h1, r1⟩ := trodAll_cons r0
  obtain ⟨v2, vs2, d2, ds2, p2, q2, rfl, rfl, rfl, h2, r2⟩ := trodAll_cons r1
  obtain ⟨rfl, rfl, rfl⟩ := trodAll_nil r2
  obtain rfl : args = #[v0, v1, v2] := by cases args; simp_all
  obtain ⟨rfl, rfl⟩ := trodVars_none hV
  obtain ⟨a0, rfl, rfl, rfl, w0⟩ := open_int Try.underlying3 (hval 0 3 v0 rfl rfl) h0
  obtain ⟨a1, rfl, rfl, rfl, w1⟩ := open_int Try.underlying3 (hval 1 3 v1 rfl rfl) h1
  obtain ⟨a2, rfl, rfl, rfl, w2⟩ := open_int Try.underlying3 (hval 2 3 v2 rfl rfl) h2
  clear hA0 hval0 hsz0 hsz
  obtain ⟨k, h⟩ := Pure.FnExactChallengeByKey a0 a1 a2 w0 w1 w2
  refine (laws_FnExactChallengeByKey.calls k a0 a1 a2 true W  rfl h).mono fun e W' ⟨he, bel0⟩ => ?_
  have bel : Below W.heap.size W W' := bel0
  subst he
  exact ⟨_, rfl, _, _, _, [], _, [], hW', trodAll_mk1 (shut_bool Try.underlying4 _), (trodAll_cons_mk (shut_int Try.underlying3 w0) (trodAll_cons_mk (shut_int Try.underlying3 w1) (trodAll_cons_mk (shut_int Try.underlying3 w2) trodAll_mk0))), rfl, bel.frame _, fun h => by cases h⟩
theorem over : Rows.fnExactChallengeByKeyRow.holds Try.pinned (OpenSpec.ofChange Rows.fnExactChallengeByKeySpec) :=
  OpenClaim.holds_of_wide 8 Try.f8 rfl rfl rfl rfl rfl rfl rfl ⟨rfl, rfl, rfl, rfl, rfl⟩ rfl rfl rfl rfl rfl (by kernel_rfl) Try.func8 (by kernel_rfl)
    (of_decide_eq_true (by kernel_rfl)) (by unfold Func.isWrapper; first | (rw [if_pos (by decide +kernel)]; kernel_rfl) | (rw [if_neg (by decide +kernel)]; exact ⟨rfl, rfl⟩))
    (fun os started H enc _ => lifted os started H enc)
theorem proved : Rows.FnExactChallengeByKeySaid := over
#print axioms proved
end Go.Proofs.Ytjogiiobaakjkaa.fnExactChallengeByKey
namespace Go.Proofs.Ytjogiiobaakjkaa
theorem fnExactChallengeByKey_holds : Rows.FnExactChallengeByKeySaid := fnExactChallengeByKey.proved
end Go.Proofs.Ytjogiiobaakjkaa
