/- Proved: the statement FnExactSharpenChallenge of the given program, for every input that the statement speaks of. No further conditions. -/
import Derived.Test.YtipaimgpmgbkiaaRows
import Derived.Test.YtipaimgpmgbkiaaF6
import Derived.Test.YtipaimgpmgbkiaaPureFnExactSharpenChallenge
import Derived.Test.YtipaimgpmgbkiaaVSized
import Derived.WalkKit
import Derived.ProofKit
import Derived.OpenShut
import Derived.ShutString
import Derived.ChangeOld
import Derived.Below
import Derived.SizedLaws
import Derived.Deep.Slices
import Derived.Deep.Fields
import Derived.ChangeSame
import Derived.Lib.SmallJoins
namespace Go.Proofs.Ytipaimgpmgbkiaa.fnExactSharpenChallenge
open Go.Joins Go.ChangeShapes Go.WideShapes Go.ChangeAt Go.RowKit Go.Deep Go.Proofs.Ytipaimgpmgbkiaa.F Go.Proofs.YtipaimgpmgbkiaaV.PrintWords
open Go.ChangeMaps (open_string shut_string)
set_option linter.unusedVariables false
/-- What a type's reading gives: a value of the kind d, of which G holds. -/
def Opn {α : Type} (P : Program) (t : TypeId) (d : Kd α) (G : α → Prop) : Prop := ∀ (H : Type) (enc : TypeId × Value → H) (w : World) (base : Nat) (spare : Nat → Bool) (held : Bool) (n : Nat) (cs : List Value) {y : DataW H × List MemPlace}, DataW.trod enc P w base spare held n t cs = some y → cs.length = d.sz → ∃ x, d.K w x cs ∧ G x
theorem Opn_int {P : Program} {t : TypeId} {k : IntKind} (ht : P.underlying t = some (.int k)) : Opn P t (Kd.int k) (fun x => (Lit.int k x).wf = true) := by
  intro H enc w base spare held n cs y h _
  obtain ⟨x, e, _, hw⟩ := DataW.trod_int ht h
  exact ⟨x, e, hw⟩
theorem Opn_slice {α : Type} {P : Program} {t e : TypeId} {d : Kd α} {G : α → Prop} (ht : P.underlying t = some (.slice e)) (hc : P.cellsOf e = d.sz) (ho : Opn P e d G) : Opn P t (Kd.slice e d) (fun l => (∀ x ∈ l, G x) ∧ l.length ≤ maxLen) := by
  intro H enc w base spare held n cs y h hl
  rcases open_slice ht h with ⟨rfl, _⟩ | ⟨a, len, cap, m, n', D, Pl, rfl, hb, hl, hm, hmm, _, hi⟩
  · exact ⟨[], ⟨none, 0, rfl, Nat.le_refl _, Kd.C_nil d w⟩, ⟨fun x hx => (List.not_mem_nil hx).elim, Nat.zero_le _⟩⟩
  · have hlm : len ≤ m := by rw [hmm]; split <;> omega
    have ex : ∀ i, i < len → ∃ x : Option α, ∃ z, x = some z ∧ G z ∧ ∃ c : List Value, c.length = d.sz ∧ d.K w z c ∧ ∀ j u, c[j]? = some u → w.cell? (a.add (i * d.sz + j)) = some u := by
      intro i hlt
      obtain ⟨cs', h1, h2⟩ := hi i (by omega)
      obtain ⟨_, hcl, hat⟩ := World.cells?_some h1
      obtain ⟨z, hz, hg⟩ := ho H enc w base spare held n' cs' h2 (hcl.trans hc)
      refine ⟨some z, z, rfl, hg, cs', hcl.trans hc, hz, fun j u hu => ?_⟩
      have hj : j < cs'.length := (List.getElem?_eq_some_iff.1 hu).1
      rw [← hc, ← Go.Deep.add_add, hat j (by omega), hu]
    obtain ⟨F, hF⟩ := choose_lt (α := Option α) ex
    have hX : ∃ xs : List α, xs.length = len ∧ ∀ j z, xs[j]? = some z → F j = some z := by
      clear hi
      have : ∀ q, q ≤ len → ∃ xs : List α, xs.length = q ∧ ∀ j z, xs[j]? = some z → F j = some z := by
        intro q
        induction q with
        | zero => exact fun _ => ⟨[], rfl, fun j z h => by simp at h⟩
        | succ q ih =>
          intro hq
          obtain ⟨xs, h1, h2⟩ := ih (by omega)
          obtain ⟨z, hz, _⟩ := hF q (by omega)
          refine ⟨xs ++ [z], by simp [h1], fun j z' hj => ?_⟩
          rcases Nat.lt_or_ge j xs.length with hlt | hge
          · rw [List.getElem?_append_left hlt] at hj
            exact h2 j z' hj
          · rw [List.getElem?_append_right hge] at hj
            have hj0 : j - xs.length = 0 := by
              have := (List.getElem?_eq_some_iff.1 hj).1
              simp at this
              omega
            rw [hj0] at hj
            have : z = z' := by simpa using hj
            have hjq : j = q := by omega
            rw [hjq, hz, this]
      exact this len (Nat.le_refl _)
    obtain ⟨xs, hxl, hx⟩ := hX
    subst hxl
    have hmax : maxLen = 9223372036854775807 := by decide
    refine ⟨xs, ⟨some a, cap, rfl, hl, rfl, by omega, fun _ => ⟨a, rfl, fun j z hj => ?_⟩⟩, fun z hz => ?_, by omega⟩
    · obtain ⟨z', hz', _, c, hcl, hK, hcc⟩ := hF j (List.getElem?_eq_some_iff.1 hj).1
      have : z = z' := by have := (hx j z hj).symm.trans hz'; injection this
      subst this
      exact ⟨c, hcl, hK, hcc⟩
    · obtain ⟨j, hj, hjz⟩ := List.getElem_of_mem hz
      have h3 : xs[j]? = some z := by rw [List.getElem?_eq_getElem hj, hjz]
      obtain ⟨z', hz', hg, _⟩ := hF j hj
      have : z = z' := by have := (hx j z h3).symm.trans hz'; injection this
      subst this
      exact hg
theorem Opn_S106 : Opn Try.prog 106 k106 (fun x => ((Lit.int .i64 x.f0).wf = true ∧ (Lit.int .i64 x.f1).wf = true)) := by
  intro H enc w base spare held n cs y h hl
  match cs, hl with
  | [c0, c1], _ =>
    obtain ⟨xs, n, _, _, _, hlen, hg⟩ := DataW.trod_struct Try.underlying106 h
    have g0 := hg 0 _ rfl
    obtain ⟨x0, e0, _, w0⟩ := DataW.trod_int (t := 3) Try.underlying3 (x := xs[0]'(by rw [hlen]; decide)) (by rw [← List.getElem?_eq_getElem]; exact g0)
    obtain rfl : c0 = .int .i64 x0 := by simpa [show Try.prog.cellsOf 3 = 1 by kernel_rfl] using e0
    have g1 := hg 1 _ rfl
    obtain ⟨x1, e1, _, w1⟩ := DataW.trod_int (t := 3) Try.underlying3 (x := xs[1]'(by rw [hlen]; decide)) (by rw [← List.getElem?_eq_getElem]; exact g1)
    obtain rfl : c1 = .int .i64 x1 := by simpa [show Try.prog.cellsOf 3 = 1 by kernel_rfl] using e1
    exact ⟨⟨x0, x1⟩, k106_mk w _, w0, w1⟩
section
variable {H : Type} {enc : TypeId × Value → H} {P : Program} {w : World} {base : Nat} {spare : Nat → Bool} {held : Bool}
theorem open_agg5 {r : Reach} {b0 : Nat} {t : TypeId} {f0 f1 f2 f3 f4 : Field} {v : Value} {d : DataW H} {p : List MemPlace} (hs : P.underlying t = some (.struct #[f0, f1, f2, f3, f4])) (hone : oneCellFields P #[f0, f1, f2, f3, f4] = true) (hC : P.cellsOf t = 5)
    (hv : Value.okWide P w r b0 t v) (h : DataW.Trod enc P w base spare held t v d p) :
    ∃ (v0 v1 v2 v3 v4 : Value) (y0 y1 y2 y3 y4 : DataW H × List MemPlace) (n : Nat), v = .agg #[v0, v1, v2, v3, v4] ∧ d = .agg [y0.1, y1.1, y2.1, y3.1, y4.1] ∧ p = y0.2 ++ (y1.2 ++ (y2.2 ++ (y3.2 ++ y4.2))) ∧
      DataW.trod enc P w base spare held n f0.type [v0] = some y0 ∧ DataW.trod enc P w base spare held n f1.type [v1] = some y1 ∧ DataW.trod enc P w base spare held n f2.type [v2] = some y2 ∧ DataW.trod enc P w base spare held n f3.type [v3] = some y3 ∧ DataW.trod enc P w base spare held n f4.type [v4] = some y4 := by
  obtain ⟨cs, rfl, hsz⟩ := okWide_struct hs hv
  obtain ⟨l⟩ := cs
  match l, hsz.trans hC with
  | [c0, c1, c2, c3, c4], _ =>
    obtain ⟨fuel, hf⟩ := h
    obtain ⟨xs, n, _, hx, _, hlen, hg⟩ := DataW.trod_struct hs hf
    obtain ⟨o0, k0⟩ := hone_of hone 0 f0 rfl
    obtain ⟨o1, k1⟩ := hone_of hone 1 f1 rfl
    obtain ⟨o2, k2⟩ := hone_of hone 2 f2 rfl
    obtain ⟨o3, k3⟩ := hone_of hone 3 f3 rfl
    obtain ⟨o4, k4⟩ := hone_of hone 4 f4 rfl
    match xs, hlen with
    | [y0, y1, y2, y3, y4], _ =>
      simp only [Prod.mk.injEq] at hx
      exact ⟨c0, c1, c2, c3, c4, y0, y1, y2, y3, y4, n, rfl, by simpa using hx.1, by simpa using hx.2, by simpa [Value.cells, o0, k0] using hg 0 f0 rfl, by simpa [Value.cells, o1, k1] using hg 1 f1 rfl, by simpa [Value.cells, o2, k2] using hg 2 f2 rfl, by simpa [Value.cells, o3, k3] using hg 3 f3 rfl, by simpa [Value.cells, o4, k4] using hg 4 f4 rfl⟩
end
theorem own : ownKnob Try.prog.godebug = none := by kernel_rfl
theorem laidOut : laidOutB Try.prog = true := by kernel_rfl
set_option maxRecDepth 100000 in
theorem lifted (os : Os) (started : os.Started) (H : Type) (enc : TypeId × Value → H) :
    ReturnsInHanded {} Try.checked os 13 .any (Rows.fnExactSharpenChallengeSpec.pre6 enc Try.prog Try.f13 Rows.fnExactSharpenChallengeRow.domain false) (Rows.fnExactSharpenChallengeSpec.post enc Try.prog Try.f13 false true false false) := by
  refine returnsInHanded_of_change_sized (C := Try.checked) own started (by kernel_rfl) Try.func13
    (ChangeSpec.witness6 (enc := enc) (C := Try.checked) false ⟨#[], #[.agg #[.int .i64 0, .int .i64 0, .slice none 0 0, .slice none 0 0, .slice none 0 0]], []⟩ 8 (by kernel_rfl) (by kernel_rfl) (by kernel_rfl) (by kernel_rfl)) ?_
  intro W base args ds gs before hval0 hW hcnd hsz0 _
  have hsz : (DataW.weightsEach Try.prog (Try.f13.params.toList ++ Rows.fnExactSharpenChallengeSpec.plain.varTypes Try.prog) (ds ++ gs)).all (· ≤ reachBytes) = true := hsz0
  have hval : ∀ (j : Nat) t v, Try.f13.params[j]? = some t → args[j]? = some v → Value.okWide Try.prog W .any base t v := hval0
  have hW' := hW
  obtain ⟨p, q, hA0, hV, rfl, hfz, hnd⟩ := hW
  have hA : DataW.TrodAll enc Try.prog W 0 (fun _ => true) true Try.f13.params.toList args.toList ds p := hA0
  rw [Try.params13] at hA hval hsz
  obtain ⟨v0, vs0, d0, ds0, p0, q0, hargs, rfl, rfl, h0, r0⟩ := trodAll_cons hA
  obtain ⟨rfl, rfl, rfl⟩ := trodAll_nil r0
  obtain rfl : args = #[v0] := by cases args; simp_all
  obtain ⟨rfl, rfl⟩ := trodVars_none hV
  have k0 := h0
  have lt0 : ∀ x ∈ p0, x.block < W.heap.size := by obtain ⟨m, hm⟩ := k0; exact DataW.trod_lt m _ _ _ hm
  obtain ⟨v0_0, v0_1, v0_2, v0_3, v0_4, _, _, _, _, _, n0, rfl, _, _, t0_0, t0_1, t0_2, t0_3, t0_4⟩ := open_agg5 Try.underlying25 (by kernel_rfl) (by kernel_rfl) (hval 0 25 v0 rfl rfl) h0
  obtain ⟨a0_0, e0_0, _, w0_0⟩ := DataW.trod_int Try.underlying3 t0_0
  obtain rfl : v0_0 = .int .i64 a0_0 := by simpa using e0_0
  obtain ⟨a0_1, e0_1, _, w0_1⟩ := DataW.trod_int Try.underlying3 t0_1
  obtain rfl : v0_1 = .int .i64 a0_1 := by simpa using e0_1
  obtain ⟨l0_2, hK0_2, g0_2⟩ := (Opn_slice Try.underlying22 (by kernel_rfl) Opn_S106) _ _ _ _ _ _ _ _ t0_2 rfl
  obtain ⟨A0_2, c0_2, e0_2, hc0_2, hr0_2⟩ := hK0_2
  obtain rfl : v0_2 = .slice A0_2 l0_2.length c0_2 := by simpa using e0_2
  obtain ⟨l0_3, hK0_3, g0_3⟩ := (Opn_slice Try.underlying23 (by kernel_rfl) (Opn_int Try.underlying3)) _ _ _ _ _ _ _ _ t0_3 rfl
  obtain ⟨A0_3, c0_3, e0_3, hc0_3, hr0_3⟩ := hK0_3
  obtain rfl : v0_3 = .slice A0_3 l0_3.length c0_3 := by simpa using e0_3
  obtain ⟨l0_4, hK0_4, g0_4⟩ := (Opn_slice Try.underlying23 (by kernel_rfl) (Opn_int Try.underlying3)) _ _ _ _ _ _ _ _ t0_4 rfl
  obtain ⟨A0_4, c0_4, e0_4, hc0_4, hr0_4⟩ := hK0_4
  obtain rfl : v0_4 = .slice A0_4 l0_4.length c0_4 := by simpa using e0_4
  clear hA0 hval0 hsz0 hsz
  obtain ⟨k, h⟩ := Pure.FnExactSharpenChallenge a0_0 a0_1 l0_2 l0_3 l0_4 w0_0 w0_1 g0_2 g0_3 g0_4
  refine (laws_FnExactSharpenChallenge.calls k a0_0 a0_1 _ _ l0_2 _ _ l0_3 _ _ l0_4 true W hr0_2 hc0_2 hr0_3 hc0_3 hr0_4 hc0_4 rfl h).mono fun e W' ⟨he, bel0⟩ => ?_
  have bel : Below W.heap.size W W' := bel0
  subst he
  exact ⟨_, rfl, _, _, _, [], _, [], hW', trodAll_mk1 (shut_bool Try.underlying4 _), (trodAll_cons_mk (Below.trod laidOut (by kernel_rfl) (of_decide_eq_true (by kernel_rfl)) k0 bel lt0) trodAll_mk0), rfl, bel.frame _, fun h => by cases h⟩
theorem over : Rows.fnExactSharpenChallengeRow.holds Try.pinned (OpenSpec.ofChange Rows.fnExactSharpenChallengeSpec) :=
  OpenClaim.holds_of_wide 13 Try.f13 rfl rfl rfl rfl rfl rfl rfl ⟨rfl, rfl, rfl, rfl, rfl⟩ rfl rfl rfl rfl rfl (by kernel_rfl) Try.func13 (by kernel_rfl)
    (of_decide_eq_true (by kernel_rfl)) (by unfold Func.isWrapper; first | (rw [if_pos (by decide +kernel)]; kernel_rfl) | (rw [if_neg (by decide +kernel)]; exact ⟨rfl, rfl⟩))
    (fun os started H enc _ => lifted os started H enc)
theorem proved : Rows.FnExactSharpenChallengeSaid := over
#print axioms proved
end Go.Proofs.Ytipaimgpmgbkiaa.fnExactSharpenChallenge
namespace Go.Proofs.Ytipaimgpmgbkiaa
theorem fnExactSharpenChallenge_holds : Rows.FnExactSharpenChallengeSaid := fnExactSharpenChallenge.proved
end Go.Proofs.Ytipaimgpmgbkiaa
