/- Proved: the pure statement of FnExactSharpenChallenge, over numbers and lists; the lemmas on the printed functions that it takes. No further conditions. -/
import Derived.Test.YtipaimgpmgbkiaaStmtFnExactSharpenChallenge
import Derived.Test.YtipaimgpmgbkiaaF2
import Derived.Test.YtipaimgpmgbkiaaF3
import Derived.Test.YtipaimgpmgbkiaaF4
import Derived.Test.YtipaimgpmgbkiaaF5
import Derived.Test.YtipaimgpmgbkiaaF6
namespace Go.Proofs.Ytipaimgpmgbkiaa.Pure
open Go.RowKit Go.Proofs.Ytipaimgpmgbkiaa.F Go.Proofs.YtipaimgpmgbkiaaV.PrintWords Go.Proofs.YtipaimgpmgbkiaaV.PrintLast Go.Proofs.Ytipaimgpmgbkiaa
set_option linter.unusedVariables false

theorem Ev.succ {α : Type} {g : Nat → Option α} {r : α} (h : Ev (fun k => g (k + 1)) r) : Ev g r := Ev.step (fun _ => rfl) h
theorem Ev.pos {α : Type} {c : Prop} [Decidable c] {f g : Nat → Option α} {r : α} (hc : c) (h : Ev f r) : Ev (fun k => if c then f k else g k) r := Ev.congr (fun _ => if_pos hc) h
theorem Ev.neg {α : Type} {c : Prop} [Decidable c] {f g : Nat → Option α} {r : α} (hc : ¬ c) (h : Ev g r) : Ev (fun k => if c then f k else g k) r := Ev.congr (fun _ => if_neg hc) h
theorem Ev.ite {α : Type} {c : Prop} [Decidable c] {f g : Nat → Option α} {r s : α} (h : c → Ev f r) (h' : ¬ c → Ev g s) : Ev (fun k => if c then f k else g k) (if c then r else s) := by
 by_cases hc : c
 ·rw [if_pos hc]; exact Ev.pos hc (h hc)
 ·rw [if_neg hc]; exact Ev.neg hc (h' hc)
theorem Ev.ret {α : Type} {r s : α} (h : s = r) : Ev (fun _ => some s) r := by subst h; exact Ev.now _
theorem Ev.val {α : Type} {o : Option α} {r : α} (h : o = some r) : Ev (fun _ => o) r := ⟨0,fun _ _ => h⟩
theorem Ev.cast {α : Type} {g : Nat → Option α} {r s : α} (h : Ev g s) (e : s = r) : Ev g r := e ▸ h
theorem w64 {x : Int} (h : -9223372036854775808 ≤ x) (h' : x ≤ 9223372036854775807) : wrap64 x = x := by unfold wrap64; omega
theorem rd_at (l : List Int) (i : Nat) (h : i < l.length) : rd l (i : Int) = l[i] := by
 unfold rd
 rw [Int.toNat_natCast,List.getD_eq_getElem?_getD,List.getElem?_eq_getElem h]; rfl
theorem rdC_at (l : List S88) (i : Nat) (h : i < l.length) : rd_T88 l (i : Int) = l[i] := by
 unfold rd_T88
 rw [Int.toNat_natCast,List.getD_eq_getElem?_getD,List.getElem?_eq_getElem h]; rfl
def inR (x lo hi : Int) : Bool := decide (lo ≤ x) && decide (x ≤ hi)
theorem inR_iff {x lo hi : Int} : inR x lo hi = true ↔ lo ≤ x ∧ x ≤ hi := by unfold inR; simp
theorem inR_lo {x lo hi : Int} (h : x < lo) : inR x lo hi = false := Bool.eq_false_iff.mpr (fun g => absurd (inR_iff.1 g).1 (by omega))
theorem inR_hi {x lo hi : Int} (h : x > hi) : inR x lo hi = false := Bool.eq_false_iff.mpr (fun g => absurd (inR_iff.1 g).2 (by omega))
theorem l1In_ok (x lo hi : Int) : spec_l1In.f x lo hi = some (inR x lo hi) := by
 unfold spec_l1In.f inR
 by_cases h : lo ≤ x
 ·rw [if_pos (by omega)]; simp [h]
 ·rw [if_neg (by omega)]; simp [h]
def turning (c : S88) : Bool := decide (c.f0 = 3) || decide (c.f0 = 6)
def goodCell (c : S88) : Bool := inR c.f0 0 7 && (decide (c.f1 = 0) || (decide (c.f1 = 1) && turning c))
theorem turning_ok (c : S88) : spec_paTurning.f c.f0 c.f1 = some (turning c) := by
 unfold spec_paTurning.f turning
 by_cases h : c.f0 = 3
 ·rw [if_pos h]; simp [h]
 ·rw [if_neg h,decide_eq_false h,Bool.false_or]; rfl
theorem paGood_ok (c : S88) : spec_paGood.f c.f0 c.f1 = some (goodCell c) := by
 unfold spec_paGood.f goodCell
 rw [l1In_ok,Option.bind_some]
 by_cases h : inR c.f0 0 7 = true
 ·rw [if_pos h,h,Bool.true_and]
  by_cases h1 : c.f1 = 0
  ·rw [if_pos h1,decide_eq_true h1]; rfl
  ·rw [if_neg h1,decide_eq_false h1,Bool.false_or]
   by_cases h2 : c.f1 = 1
   ·rw [if_pos h2,turning_ok,Option.bind_some,decide_eq_true h2,Bool.true_and]
   ·rw [if_neg h2,decide_eq_false h2,Bool.false_and]
 ·rw [if_neg h,Bool.eq_false_iff.mpr h,Bool.false_and]
theorem IsCell_ok (c : S88) : impl_IsCell.f c.f0 c.f1 = some (goodCell c) := by
 unfold impl_IsCell.f goodCell turning inR
 by_cases h1 : c.f0 < 0
 ·rw [if_pos h1,decide_eq_false (show ¬ 0 ≤ c.f0 by omega)]; rfl
 rw [if_neg h1,decide_eq_true (show 0 ≤ c.f0 by omega)]
 by_cases h2 : c.f0 > 7
 ·rw [if_pos h2,decide_eq_false (show ¬ c.f0 ≤ 7 by omega)]; rfl
 rw [if_neg h2,decide_eq_true (show c.f0 ≤ 7 by omega)]
 by_cases h3 : c.f1 = 0
 ·rw [if_neg (by omega),if_neg (by omega),if_pos h3,decide_eq_true h3]; rfl
 rw [decide_eq_false h3]
 by_cases h4 : c.f1 = 1
 ·rw [if_neg (by omega),if_neg (by omega),if_neg h3,decide_eq_true h4]
  by_cases h5 : c.f0 = 3
  ·rw [if_pos h5,decide_eq_true h5]; rfl
  ·rw [if_neg h5,decide_eq_false h5]; rfl
 rw [decide_eq_false h4]
 by_cases h6 : c.f1 < 0
 ·rw [if_pos h6]; rfl
 ·rw [if_neg h6,if_pos (by omega)]; rfl
theorem cell_eq_iff (a b : S88) : (a.f0 == b.f0 && (a.f1 == b.f1)) = true ↔ a = b := by
 cases a; cases b; simp
instance : DecidableEq S88 := fun a b => if h : (a.f0 == b.f0 && (a.f1 == b.f1)) = true then isTrue ((cell_eq_iff a b).1 h) else isFalse fun e => h ((cell_eq_iff a b).2 e)
theorem eqIntS_ev (a b : List Int) (ha : a.length ≤ 4611686018427387904) : Ev (fun k => laws_eqIntS.f k a b) (decide (a = b)) := by
 have key : ∀ (n i : Nat),a.length = b.length → i + n = a.length → Ev (fun k => laws_eqIntS.l0 k a b i) (decide (a.drop i = b.drop i)) := by
  intro n
  induction n with
  | zero =>
   intro i hl hi
   refine Ev.succ ?_
   simp only [laws_eqIntS.l0]
   refine Ev.neg (by omega) (Ev.ret ?_)
   rw [List.drop_eq_nil_of_le (by omega),List.drop_eq_nil_of_le (by omega)]; simp
  | succ n ih =>
   intro i hl hi
   refine Ev.succ ?_
   simp only [laws_eqIntS.l0]
   refine Ev.pos (by omega) (Ev.pos (by omega) (Ev.pos (by omega) ?_))
   rw [rd_at a i (by omega),rd_at b i (by omega),w64 (by omega) (by omega)]
   have e := ih (i + 1) hl (by omega)
   rw [List.drop_eq_getElem_cons (show i < a.length by omega),List.drop_eq_getElem_cons (show i < b.length by omega)]
   by_cases hc : a[i] = b[i]
   ·refine Ev.pos hc (Ev.cast e ?_)
    rw [hc]
    simp only [List.cons.injEq,true_and]
   ·exact Ev.neg hc (Ev.ret (by simp only [List.cons.injEq,hc,false_and,decide_false]))
 show Ev (fun k => if (a.length : Int) = (b.length : Int) then laws_eqIntS.l0 k a b 0 else some false) _
 by_cases hl : a.length = b.length
 ·exact Ev.pos (by omega) (key a.length 0 hl (by omega))
 ·refine Ev.neg (by omega) (Ev.ret ?_)
  have : a ≠ b := fun h => hl (by rw [h])
  simp [this]
theorem set_at {α : Type} (p q : List α) (x y : α) (i : Nat) (hi : p.length = i) : (p ++ x :: q).set i y = p ++ y :: q := by
 subst hi; simp
theorem toIntS_ev (a : List Int) (ha : a.length ≤ 17592186044415) : Ev (fun k => laws_toIntS.f k a) a := by
 have key : ∀ (n i : Nat),i + n = a.length → Ev (fun k => laws_toIntS.l0 k a (a.take i ++ List.replicate n 0) i) a := by
  intro n
  induction n with
  | zero =>
   intro i hi
   refine Ev.succ ?_
   simp only [laws_toIntS.l0]
   refine Ev.neg (by omega) (Ev.ret ?_)
   rw [List.take_of_length_le (by omega)]; simp
  | succ n ih =>
   intro i hi
   refine Ev.succ ?_
   simp only [laws_toIntS.l0]
   have hl : (a.take i ++ List.replicate (n + 1) (0 : Int)).length = a.length := by simp; omega
   refine Ev.pos (by omega) (Ev.pos (by omega) (Ev.pos (by rw [hl]; omega) ?_))
   rw [rd_at a i (by omega),w64 (by omega) (by omega)]
   have e : (a.take i ++ List.replicate (n + 1) (0 : Int)).set (i : Int).toNat a[i] = a.take (i + 1) ++ List.replicate n 0 := by
    rw [List.replicate_succ,set_at _ _ _ _ _ (by simp; omega),List.take_succ_eq_append_getElem (by omega),List.append_assoc]; rfl
   rw [e]
   exact ih (i + 1) (by omega)
 show Ev (fun k => if 0 ≤ (a.length : Int) then (if ((a.length : Int) : Int).toNat ≤ 35184372088832 then (laws_toIntS.l0 k a (List.replicate ((a.length : Int) : Int).toNat 0) 0) else none) else none) a
 refine Ev.pos (by omega) (Ev.pos (by omega) ?_)
 have := key a.length 0 (by omega)
 simpa using this
def cv (c : S106) : S88 := ⟨c.f0,c.f1⟩
theorem rdL_at (l : List S106) (i : Nat) (h : i < l.length) : rd_T106 l (i : Int) = l[i] := by
 unfold rd_T106
 rw [Int.toNat_natCast,List.getD_eq_getElem?_getD,List.getElem?_eq_getElem h]; rfl
theorem toCellS_ev (a : List S106) (ha : a.length ≤ 17592186044415) : Ev (fun k => laws_toCellS.f k a) (a.map cv) := by
 have key : ∀ (n i : Nat),i + n = a.length → Ev (fun k => laws_toCellS.l0 k a ((a.map cv).take i ++ List.replicate n z88) i) (a.map cv) := by
  intro n
  induction n with
  | zero =>
   intro i hi
   refine Ev.succ ?_
   simp only [laws_toCellS.l0]
   refine Ev.neg (by omega) (Ev.ret ?_)
   rw [List.take_of_length_le (by simp; omega)]; simp
  | succ n ih =>
   intro i hi
   refine Ev.succ ?_
   simp only [laws_toCellS.l0,laws_toCell.f,Option.bind_some]
   have hl : ((a.map cv).take i ++ List.replicate (n + 1) z88).length = a.length := by simp; omega
   refine Ev.pos (by omega) (Ev.pos (by omega) (Ev.pos (by rw [hl]; omega) ?_))
   rw [rdL_at a i (by omega),w64 (by omega) (by omega)]
   have e : ((a.map cv).take i ++ List.replicate (n + 1) z88).set (i : Int).toNat (⟨a[i].f0,a[i].f1⟩ : S88) = (a.map cv).take (i + 1) ++ List.replicate n z88 := by
    rw [List.replicate_succ,set_at _ _ _ _ _ (by simp; omega),List.take_succ_eq_append_getElem (by simp; omega),List.append_assoc,List.getElem_map]; rfl
   rw [e]
   exact ih (i + 1) (by omega)
 show Ev (fun k => if 0 ≤ (a.length : Int) then (if ((a.length : Int) : Int).toNat ≤ 17592186044416 then (laws_toCellS.l0 k a (List.replicate ((a.length : Int) : Int).toNat z88) 0) else none) else none) (a.map cv)
 refine Ev.pos (by omega) (Ev.pos (by omega) ?_)
 have := key a.length 0 (by omega)
 simpa using this
theorem eqCellS_ev (a b : List S88) (ha : a.length ≤ 4611686018427387904) : Ev (fun k => laws_eqCellS.f k a b) (decide (a = b)) := by
 have key : ∀ (n i : Nat),a.length = b.length → i + n = a.length → Ev (fun k => laws_eqCellS.l0 k a b i) (decide (a.drop i = b.drop i)) := by
  intro n
  induction n with
  | zero =>
   intro i hl hi
   refine Ev.succ ?_
   simp only [laws_eqCellS.l0]
   refine Ev.neg (by omega) (Ev.ret ?_)
   rw [List.drop_eq_nil_of_le (by omega),List.drop_eq_nil_of_le (by omega)]; simp
  | succ n ih =>
   intro i hl hi
   refine Ev.succ ?_
   simp only [laws_eqCellS.l0]
   refine Ev.pos (by omega) (Ev.pos (by omega) (Ev.pos (by omega) ?_))
   rw [rdC_at a i (by omega),rdC_at b i (by omega),w64 (by omega) (by omega)]
   have e := ih (i + 1) hl (by omega)
   rw [List.drop_eq_getElem_cons (show i < a.length by omega),List.drop_eq_getElem_cons (show i < b.length by omega)]
   by_cases hc : a[i] = b[i]
   ·refine Ev.bind (a := true) (Ev.val ?_) (Ev.pos rfl (Ev.cast e ?_))
    ·rw [hc]; unfold laws_eqCell.f; rw [if_pos rfl,if_pos rfl]
    ·rw [hc]
     simp only [List.cons.injEq,true_and]
   ·refine Ev.bind (a := false) (Ev.val ?_) (Ev.neg (by simp) (Ev.ret (by simp only [List.cons.injEq,hc,false_and,decide_false])))
    unfold laws_eqCell.f
    by_cases h0 : a[i].f0 = b[i].f0
    ·rw [if_pos h0,if_neg (fun h1 => hc ((cell_eq_iff _ _).1 (by simp [h0,h1])))]
    ·rw [if_neg h0]
 show Ev (fun k => if (a.length : Int) = (b.length : Int) then laws_eqCellS.l0 k a b 0 else some false) _
 by_cases hl : a.length = b.length
 ·exact Ev.pos (by omega) (key a.length 0 hl (by omega))
 ·refine Ev.neg (by omega) (Ev.ret ?_)
  have : a ≠ b := fun h => hl (by rw [h])
  simp [this]
theorem mulc {C q R : Int} (hC : 1 ≤ C) (h : q + 1 ≤ R) : C * q + C ≤ C * R := by
 have := Int.mul_le_mul_of_nonneg_left h (show 0 ≤ C by omega)
 rw [Int.mul_add,Int.mul_one] at this
 exact this
theorem mulb {x y m n : Int} (h0 : 0 ≤ x) (h1 : x ≤ m) (g0 : 0 ≤ y) (g1 : y ≤ n) : 0 ≤ x * y ∧ x * y ≤ m * n :=
 ⟨Int.mul_nonneg h0 g0,Int.mul_le_mul h1 g1 g0 (Int.le_trans h0 h1)⟩
structure GoodB (R C : Int) (cs : List S88) : Prop where
 r1 : 1 ≤ R
 r2 : R ≤ 10
 c1 : 1 ≤ C
 c2 : C ≤ 9
 len : (cs.length : Int) = R * C
 good : ∀ c ∈ cs,goodCell c = true
theorem GoodB.le {R C : Int} {cs : List S88} (h : GoodB R C cs) : 1 ≤ R * C ∧ R * C ≤ 90 := by
 have b := mulb (show 0 ≤ R by have := h.r1; omega) h.r2 (show 0 ≤ C by have := h.c1; omega) h.c2
 have b2 : 1 * 1 ≤ R * C := Int.mul_le_mul h.r1 h.c1 (by omega) (by have := h.r1; omega)
 omega
theorem GoodB.len90 {R C : Int} {cs : List S88} (h : GoodB R C cs) : cs.length ≤ 90 := by have := h.le; have := h.len; omega
theorem GoodB.idx {R C : Int} {cs : List S88} (h : GoodB R C cs) {r c : Int} (h0 : 0 ≤ r) (h1 : r < R) (h2 : 0 ≤ c) (h3 : c < C) : 0 ≤ r * C ∧ r * C ≤ 90 ∧ 0 ≤ r * C + c ∧ r * C + c < (cs.length : Int) := by
 have a := mulc h.c1 (show r + 1 ≤ R by omega)
 have b : 0 ≤ r * C := Int.mul_nonneg h0 (by have := h.c1; omega)
 have e := h.le
 rw [h.len]
 rw [Int.mul_comm C r,Int.mul_comm C R] at a
 have := h.c1
 omega
theorem boOwn_ok (R C : Int) (cs : List S88) (hl : cs.length ≤ 1048576) : spec_boOwn.f R C cs = some (R,C,cs) := by
 unfold spec_boOwn.f
 simp only [Option.bind_some]
 rw [if_pos (by simp; omega)]; rfl
theorem copyBoard_ok (R C : Int) (cs : List S88) (hl : cs.length ≤ 1048576) : impl_copyBoard.f R C cs = some (R,C,cs) := by
 unfold impl_copyBoard.f
 simp only [Option.bind_some]
 rw [if_pos (by simp; omega)]; rfl
theorem boAt_ok {R C : Int} {cs : List S88} (h : GoodB R C cs) {r c : Int} (h0 : 0 ≤ r) (h1 : r < R) (h2 : 0 ≤ c) (h3 : c < C) : spec_boAt.f R C cs r c = some ((rd_T88 cs (r * C + c)).f0,(rd_T88 cs (r * C + c)).f1) := by
 have b := h.idx h0 h1 h2 h3
 have l := h.len90
 unfold spec_boAt.f
 rw [w64 (x := r * C) (by omega) (by omega),w64 (by omega) (by omega),if_pos b.2.2.1,if_pos b.2.2.2]
def near (R C i : Int) : List Int := (if 0 < i / C then [i - C] else []) ++ ((if 0 < i % C then [i - 1] else []) ++ ((if i % C + 1 < C then [i + 1] else []) ++ (if i / C + 1 < R then [i + C] else [])))
theorem near_in {R C : Int} {cs : List S88} (h : GoodB R C cs) {i : Int} (h0 : 0 ≤ i) (h1 : i < (cs.length : Int)) : ∀ n ∈ near R C i,0 ≤ n ∧ n < (cs.length : Int) := by
 have hc := h.c1
 have e := Int.mul_ediv_add_emod i C
 have r0 := Int.emod_nonneg i (show C ≠ 0 by omega)
 have r1 := Int.emod_lt_of_pos i (show 0 < C by omega)
 have q0 : 0 ≤ i / C := Int.ediv_nonneg h0 (by omega)
 have hl := h.len
 have cq : 0 ≤ C * (i / C) := Int.mul_nonneg (by omega) q0
 have qR : i / C < R := by
  rcases (show i / C < R ∨ R ≤ i / C by omega) with hq | hq
  ·exact hq
  ·have := Int.mul_le_mul_of_nonneg_left hq (show 0 ≤ C by omega)
   rw [Int.mul_comm C R] at this
   omega
 have m1 := mulc hc (show i / C + 1 ≤ R by omega)
 rw [Int.mul_comm C R] at m1
 intro n hn
 unfold near at hn
 simp only [List.mem_append] at hn
 rcases hn with hn | hn | hn | hn
 ·split at hn
  ·rename_i hq
   have := mulc hc (show 0 + 1 ≤ i / C by omega)
   simp at hn this
   omega
  ·simp at hn
 ·split at hn
  ·simp at hn; omega
  ·simp at hn
 ·split at hn
  ·simp at hn; omega
  ·simp at hn
 ·split at hn
  ·rename_i hq
   have m2 := mulc hc (show (i / C + 1) + 1 ≤ R by omega)
   rw [Int.mul_comm C R,Int.mul_add,Int.mul_one] at m2
   simp at hn
   omega
  ·simp at hn
theorem near_len (R C i : Int) : (near R C i).length ≤ 4 := by
 unfold near
 simp only [List.length_append]
 split <;> split <;> split <;> split <;> simp
def geared (c : S88) : Bool := decide (c.f0 = 6) || decide (c.f0 = 7)
theorem ggGear_ok (c : S88) : spec_ggGear.f c.f0 c.f1 = some (geared c) := by
 unfold spec_ggGear.f geared
 by_cases h : c.f0 = 6
 ·rw [if_pos h,decide_eq_true h]; rfl
 ·rw [if_neg h,decide_eq_false h]; rfl
theorem isGeared_ok (c : S88) : impl_isGeared.f c.f0 c.f1 = some (geared c) := by
 unfold impl_isGeared.f geared
 by_cases h : c.f0 = 6
 ·rw [if_pos h,decide_eq_true h]; rfl
 ·rw [if_neg h,decide_eq_false h]; rfl
theorem ggNear_ev {R C : Int} {cs : List S88} (h : GoodB R C cs) {i : Int} (h0 : 0 ≤ i) (h1 : i < (cs.length : Int)) : Ev (fun k => spec_ggNear.f k R C cs i) (near R C i) := by
 have hc := h.c1
 have hc2 := h.c2
 have hl := h.len90
 have hr2 := h.r2
 have q0 : 0 ≤ i / C := Int.ediv_nonneg h0 (by omega)
 have q1 : i / C ≤ i := Int.ediv_le_self C h0
 have r0 := Int.emod_nonneg i (show C ≠ 0 by omega)
 have r1 := Int.emod_lt_of_pos i (show 0 < C by omega)
 have last : ∀ p : List Int,p.length ≤ 2 → Ev (fun k => spec_ggNear.j1 k i (i / C) (i % C) p R C cs) (p ++ ((if i % C + 1 < C then [i + 1] else []) ++ (if i / C + 1 < R then [i + C] else []))) := by
  intro p hp
  refine Ev.succ ?_
  simp only [spec_ggNear.j1]
  rw [w64 (x := i % C + 1) (by omega) (by omega),w64 (x := i / C + 1) (by omega) (by omega),w64 (x := i + 1) (by omega) (by omega),w64 (x := i + C) (by omega) (by omega)]
  by_cases g1 : i % C + 1 < C
  ·refine Ev.pos g1 (Ev.pos (by omega) (Ev.bind (Ev.now _) ?_))
   rw [if_pos g1]
   by_cases g2 : i / C + 1 < R
   ·refine Ev.pos g2 (Ev.pos (by simp; omega) (Ev.ret ?_))
    rw [if_pos g2,List.append_assoc]
   ·refine Ev.neg g2 (Ev.ret ?_)
    rw [if_neg g2,List.append_nil]
  ·refine Ev.neg g1 ?_
   rw [if_neg g1,List.nil_append]
   by_cases g2 : i / C + 1 < R
   ·refine Ev.pos g2 (Ev.pos (by omega) (Ev.ret ?_))
    rw [if_pos g2]
   ·refine Ev.neg g2 (Ev.ret ?_)
    rw [if_neg g2,List.append_nil]
 have mid : ∀ p : List Int,p.length ≤ 1 → Ev (fun k => spec_ggNear.j0 k i (i / C) (i % C) p R C cs) (p ++ ((if 0 < i % C then [i - 1] else []) ++ ((if i % C + 1 < C then [i + 1] else []) ++ (if i / C + 1 < R then [i + C] else [])))) := by
  intro p hp
  refine Ev.succ ?_
  simp only [spec_ggNear.j0]
  rw [w64 (x := i - 1) (by omega) (by omega)]
  by_cases g : i % C > 0
  ·refine Ev.pos g (Ev.pos (by omega) (Ev.cast (last (p ++ [i - 1]) (by simp; omega)) ?_))
   rw [if_pos g,List.append_assoc]
  ·refine Ev.neg g (Ev.cast (last p (by omega)) ?_)
   rw [if_neg g,List.nil_append]
 unfold spec_ggNear.f near
 rw [Int.tdiv_eq_ediv_of_nonneg h0,Int.tmod_eq_emod_of_nonneg h0,w64 (x := i / C) (by omega) (by omega),w64 (x := i - C) (by omega) (by omega)]
 refine Ev.neg (by omega) ?_
 by_cases g : i / C > 0
 ·refine Ev.pos g (Ev.pos (by simp) (Ev.cast (mid [i - C] (by simp)) ?_))
  rw [if_pos g]
 ·refine Ev.neg g (Ev.cast (mid [] (by simp)) ?_)
  rw [if_neg g]
theorem besideOf_ev {R C : Int} {cs : List S88} (h : GoodB R C cs) {i : Int} (h0 : 0 ≤ i) (h1 : i < (cs.length : Int)) : Ev (fun k => impl_besideOf.f k R C cs i) (near R C i) := by
 have hc := h.c1
 have hc2 := h.c2
 have hl := h.len90
 have hr2 := h.r2
 have q0 : 0 ≤ i / C := Int.ediv_nonneg h0 (by omega)
 have q1 : i / C ≤ i := Int.ediv_le_self C h0
 have r0 := Int.emod_nonneg i (show C ≠ 0 by omega)
 have r1 := Int.emod_lt_of_pos i (show 0 < C by omega)
 have last : ∀ p : List Int,p.length ≤ 2 → Ev (fun k => impl_besideOf.j1 k i p (i / C) (i % C) R C cs) (p ++ ((if i % C + 1 < C then [i + 1] else []) ++ (if i / C + 1 < R then [i + C] else []))) := by
  intro p hp
  refine Ev.succ ?_
  simp only [impl_besideOf.j1]
  rw [w64 (x := i % C + 1) (by omega) (by omega),w64 (x := i / C + 1) (by omega) (by omega),w64 (x := i + 1) (by omega) (by omega),w64 (x := i + C) (by omega) (by omega)]
  by_cases g1 : i % C + 1 < C
  ·refine Ev.pos g1 (Ev.pos (by omega) (Ev.bind (Ev.now _) ?_))
   rw [if_pos g1]
   by_cases g2 : i / C + 1 < R
   ·refine Ev.pos g2 (Ev.pos (by simp; omega) (Ev.ret ?_))
    rw [if_pos g2,List.append_assoc]
   ·refine Ev.neg g2 (Ev.ret ?_)
    rw [if_neg g2,List.append_nil]
  ·refine Ev.neg g1 ?_
   rw [if_neg g1,List.nil_append]
   by_cases g2 : i / C + 1 < R
   ·refine Ev.pos g2 (Ev.pos (by omega) (Ev.ret ?_))
    rw [if_pos g2]
   ·refine Ev.neg g2 (Ev.ret ?_)
    rw [if_neg g2,List.append_nil]
 have mid : ∀ p : List Int,p.length ≤ 1 → Ev (fun k => impl_besideOf.j0 k i p (i / C) (i % C) R C cs) (p ++ ((if 0 < i % C then [i - 1] else []) ++ ((if i % C + 1 < C then [i + 1] else []) ++ (if i / C + 1 < R then [i + C] else [])))) := by
  intro p hp
  refine Ev.succ ?_
  simp only [impl_besideOf.j0]
  rw [w64 (x := i - 1) (by omega) (by omega)]
  by_cases g : i % C > 0
  ·refine Ev.pos g (Ev.pos (by omega) (Ev.cast (last (p ++ [i - 1]) (by simp; omega)) ?_))
   rw [if_pos g,List.append_assoc]
  ·refine Ev.neg g (Ev.cast (last p (by omega)) ?_)
   rw [if_neg g,List.nil_append]
 unfold impl_besideOf.f near
 rw [Int.tdiv_eq_ediv_of_nonneg h0,Int.tmod_eq_emod_of_nonneg h0,w64 (x := i / C) (by omega) (by omega),w64 (x := i - C) (by omega) (by omega)]
 refine Ev.bind (Ev.now _) (Ev.neg (by omega) ?_)
 by_cases g : i / C > 0
 ·refine Ev.pos g (Ev.pos (by simp) (Ev.cast (mid [i - C] (by simp)) ?_))
  rw [if_pos g]
 ·refine Ev.neg g (Ev.cast (mid [] (by simp)) ?_)
  rw [if_neg g]
def visit (cs : List S88) (nx : Int) : List Int → List Int → List Int → List Int × List Int
 | [],o,q => (o,q)
 | n :: t,o,q => if geared (rd_T88 cs n) = true ∧ rd o n < 0 then visit cs nx t (o.set n.toNat nx) (q ++ [n]) else visit cs nx t o q
def negs (o : List Int) : Nat := o.countP (fun x => decide (x < 0))
theorem visit_len (cs : List S88) (nx : Int) : ∀ (ns o q : List Int),(visit cs nx ns o q).1.length = o.length
 | [],o,q => rfl
 | n :: t,o,q => by
  rw [visit]
  split
  ·rw [visit_len cs nx t,List.length_set]
  ·exact visit_len cs nx t o q
theorem visit_q (cs : List S88) (nx : Int) (p : List Int) : ∀ (ns o q : List Int),visit cs nx ns o (p ++ q) = ((visit cs nx ns o q).1,p ++ (visit cs nx ns o q).2)
 | [],o,q => rfl
 | n :: t,o,q => by
  rw [visit,visit]
  split
  ·rw [List.append_assoc,visit_q cs nx p t]
  ·exact visit_q cs nx p t o q
theorem visit_sum (cs : List S88) {nx : Int} (hx : 0 ≤ nx) : ∀ (ns o q : List Int),(∀ n ∈ ns,0 ≤ n ∧ n < (o.length : Int)) → negs (visit cs nx ns o q).1 + (visit cs nx ns o q).2.length = negs o + q.length
 | [],o,q,_ => rfl
 | n :: t,o,q,h => by
  have h2 : ∀ m ∈ t,0 ≤ m ∧ m < (o.length : Int) := fun m hm => h m (List.mem_cons_of_mem _ hm)
  obtain ⟨n0,n1⟩ := h n List.mem_cons_self
  rw [visit]
  split
  ·rename_i hc
   rw [visit_sum cs hx t _ _ (fun m hm => by rw [List.length_set]; exact h2 m hm),List.length_append]
   have hl : n.toNat < o.length := by omega
   have hr : rd o n = o[n.toNat] := by
    have := rd_at o n.toNat hl
    rwa [Int.toNat_of_nonneg n0] at this
   have hn := hc.2
   rw [hr] at hn
   have e : negs (o.set n.toNat nx) + 1 = negs o := by
    unfold negs
    rw [List.countP_set hl,decide_eq_true hn,decide_eq_false (show ¬ nx < 0 by omega)]
    have pos : 0 < o.countP (fun x => decide (x < 0)) := List.countP_pos_iff.2 ⟨o[n.toNat],List.getElem_mem hl,by simpa using hn⟩
    simp
    omega
   simp
   omega
  ·exact visit_sum cs hx t o q h2
theorem visit_in (cs : List S88) (nx : Int) (P : Int → Prop) : ∀ (ns o q : List Int),(∀ n ∈ ns,P n) → (∀ n ∈ q,P n) → ∀ n ∈ (visit cs nx ns o q).2,P n
 | [],o,q,_,h => h
 | n :: t,o,q,hs,h => by
  rw [visit]
  have h2 : ∀ m ∈ t,P m := fun m hm => hs m (List.mem_cons_of_mem _ hm)
  split
  ·refine visit_in cs nx P t _ _ h2 (fun m hm => ?_)
   rcases List.mem_append.1 hm with hm | hm
   ·exact h m hm
   ·rw [List.mem_singleton.1 hm]; exact hs n List.mem_cons_self
  ·exact visit_in cs nx P t o q h2 h
def bfs (R C : Int) (cs : List S88) (nx : Int) : Nat → List Int → List Int → List Int
 | 0,o,_ => o
 | _ + 1,o,[] => o
 | k + 1,o,a :: q => bfs R C cs nx k (visit cs nx (near R C a) o q).1 (visit cs nx (near R C a) o q).2
theorem bfs_len (R C : Int) (cs : List S88) (nx : Int) : ∀ (k : Nat) (o q : List Int),(bfs R C cs nx k o q).length = o.length
 | 0,o,q => rfl
 | k + 1,o,[] => rfl
 | k + 1,o,a :: q => by rw [bfs,bfs_len R C cs nx k,visit_len]
def grp (R C : Int) (cs : List S88) : Nat → Nat → Int → List Int → List Int
 | 0,_,_,o => o
 | m + 1,i,nx,o => if geared (rd_T88 cs i) = true ∧ rd o i < 0 then grp R C cs m (i + 1) (nx + 1) (bfs R C cs nx (cs.length + 1) (o.set i nx) [(i : Int)]) else grp R C cs m (i + 1) nx o
def groupsOf (R C : Int) (cs : List S88) : List Int := grp R C cs cs.length 0 0 (List.replicate cs.length (-1))
theorem grp_len (R C : Int) (cs : List S88) : ∀ (m i : Nat) (nx : Int) (o : List Int),(grp R C cs m i nx o).length = o.length
 | 0,i,nx,o => rfl
 | m + 1,i,nx,o => by
  rw [grp]
  split
  ·rw [grp_len R C cs m,bfs_len,List.length_set]
  ·exact grp_len R C cs m _ _ _
theorem groupsOf_len (R C : Int) (cs : List S88) : (groupsOf R C cs).length = cs.length := by
 unfold groupsOf
 rw [grp_len,List.length_replicate]
theorem rd_drop (q : List Int) (k : Nat) (h : k < q.length) : q.drop k = rd q k :: q.drop (k + 1) := by
 rw [rd_at q k h]; exact List.drop_eq_getElem_cons h
theorem ggGroups_l3 {R C : Int} {cs : List S88} (h : GoodB R C cs) {nx : Int} (hx : 0 ≤ nx) (ns : List Int) (hns : ∀ n ∈ ns,0 ≤ n ∧ n < (cs.length : Int)) (hn4 : ns.length ≤ 4) (i : Int) (r : List Int) (k0 : Nat) (hk0 : k0 ≤ 1000) :
  ∀ (m j : Nat) (o q : List Int),j + m = ns.length → o.length = cs.length → negs o + q.length ≤ 1000 → Ev (fun k => spec_ggGroups.l2 k (visit cs nx (ns.drop j) o q).1 nx (visit cs nx (ns.drop j) o q).2 ((k0 : Int) + 1) cs (cs.length : Int) i R C cs) r → Ev (fun k => spec_ggGroups.l3 k o nx q k0 cs (cs.length : Int) i ns (ns.length : Int) j R C cs) r := by
 have l90 := h.len90
 intro m
 induction m with
 | zero =>
  intro j o q hj ho hs e
  refine Ev.succ ?_
  simp only [spec_ggGroups.l3]
  rw [List.drop_eq_nil_of_le (by omega),visit] at e
  rw [w64 (x := (k0 : Int) + 1) (by omega) (by omega)]
  exact Ev.neg (by omega) e
 | succ m ih =>
  intro j o q hj ho hs e
  have hjl : j < ns.length := by omega
  obtain ⟨n0,n1⟩ := hns ns[j] (List.getElem_mem hjl)
  rw [List.drop_eq_getElem_cons hjl,visit] at e
  refine Ev.succ ?_
  simp only [spec_ggGroups.l3]
  rw [rd_at ns j hjl,w64 (x := (j : Int) + 1) (by omega) (by omega)]
  refine Ev.pos (by omega) (Ev.pos (by omega) (Ev.pos (by omega) (Ev.pos n0 (Ev.pos n1 (Ev.bind (Ev.val (ggGear_ok _)) ?_)))))
  by_cases g1 : geared (rd_T88 cs ns[j]) = true
  ·refine Ev.pos g1 (Ev.pos (by omega) ?_)
   by_cases g2 : rd o ns[j] < 0
   ·rw [if_pos ⟨g1,g2⟩] at e
    refine Ev.pos g2 (Ev.pos (by omega) ?_)
    have hv := visit_sum cs hx [ns[j]] o q (fun n hn => by rw [List.mem_singleton.1 hn]; omega)
    rw [visit,if_pos ⟨g1,g2⟩,visit] at hv
    exact ih (j + 1) _ _ (by omega) (by rw [List.length_set]; exact ho) (by simp only at hv; omega) e
   ·rw [if_neg (fun hh => g2 hh.2)] at e
    exact Ev.neg g2 (ih (j + 1) _ _ (by omega) ho hs e)
  ·rw [if_neg (fun hh => g1 hh.1)] at e
   exact Ev.neg g1 (ih (j + 1) _ _ (by omega) ho hs e)
theorem ggGroups_l2 {R C : Int} {cs : List S88} (h : GoodB R C cs) {nx : Int} (hx : 0 ≤ nx) (hx2 : nx ≤ 1000) (i : Nat) (hi : i ≤ 1000) (r : List Int) :
  ∀ (f : Nat) (o q : List Int) (k0 : Nat),o.length = cs.length → k0 ≤ q.length → negs o + (q.length - k0) ≤ f → negs o + q.length ≤ 1000 → (∀ n ∈ q,0 ≤ n ∧ n < (cs.length : Int)) → Ev (fun k => spec_ggGroups.l1 k (bfs R C cs nx f o (q.drop k0)) (nx + 1) cs (cs.length : Int) ((i : Int) + 1) R C cs) r → Ev (fun k => spec_ggGroups.l2 k o nx q k0 cs (cs.length : Int) i R C cs) r := by
 have l90 := h.len90
 intro f
 induction f with
 | zero =>
  intro o q k0 ho hk hm hs hq e
  refine Ev.succ ?_
  simp only [spec_ggGroups.l2]
  rw [w64 (x := nx + 1) (by omega) (by omega),w64 (x := (i : Int) + 1) (by omega) (by omega)]
  rw [bfs] at e
  exact Ev.neg (by omega) e
 | succ f ih =>
  intro o q k0 ho hk hm hs hq e
  by_cases hlt : k0 < q.length
  ·rw [rd_drop q k0 hlt,bfs] at e
   refine Ev.succ ?_
   simp only [spec_ggGroups.l2]
   have hin : 0 ≤ rd q k0 ∧ rd q k0 < (cs.length : Int) := by rw [rd_at q k0 hlt]; exact hq _ (List.getElem_mem hlt)
   have hnear := near_in h hin.1 hin.2
   refine Ev.pos (by omega) (Ev.pos (by omega) (Ev.bind (ggNear_ev h hin.1 hin.2) ?_))
   refine ggGroups_l3 h hx (near R C (rd q k0)) hnear (near_len _ _ _) i r k0 (by omega) _ 0 o q (Nat.zero_add _) ho hs ?_
   rw [List.drop_zero]
   have hsum := visit_sum cs hx (near R C (rd q k0)) o q (fun n hn => by rw [ho]; exact hnear n hn)
   have hsp : visit cs nx (near R C (rd q k0)) o q = ((visit cs nx (near R C (rd q k0)) o (q.drop (k0 + 1))).1,q.take (k0 + 1) ++ (visit cs nx (near R C (rd q k0)) o (q.drop (k0 + 1))).2) := by
    rw [← visit_q,List.take_append_drop]
   have hd : (visit cs nx (near R C (rd q k0)) o q).2.drop (k0 + 1) = (visit cs nx (near R C (rd q k0)) o (q.drop (k0 + 1))).2 := by
    rw [hsp]
    exact List.drop_left' (by rw [List.length_take]; omega)
   have h1 : (visit cs nx (near R C (rd q k0)) o q).1 = (visit cs nx (near R C (rd q k0)) o (q.drop (k0 + 1))).1 := by rw [hsp]
   have hlen : k0 + 1 ≤ (visit cs nx (near R C (rd q k0)) o q).2.length := by
    rw [hsp]; simp; omega
   refine ih _ _ (k0 + 1) (by rw [visit_len]; exact ho) hlen (by omega) (by omega) (visit_in cs nx _ _ o q hnear hq) ?_
   rw [hd,h1]
   exact e
  ·have hk0 : k0 = q.length := by omega
   rw [hk0,List.drop_eq_nil_of_le (Nat.le_refl _),bfs] at e
   refine Ev.succ ?_
   simp only [spec_ggGroups.l2]
   rw [w64 (x := nx + 1) (by omega) (by omega),w64 (x := (i : Int) + 1) (by omega) (by omega)]
   exact Ev.neg (by omega) e
theorem ggGroups_l1 {R C : Int} {cs : List S88} (h : GoodB R C cs) :
  ∀ (m i : Nat) (nx : Int) (o : List Int),i + m = cs.length → 0 ≤ nx → nx ≤ i → o.length = cs.length → Ev (fun k => spec_ggGroups.l1 k o nx cs (cs.length : Int) i R C cs) (grp R C cs m i nx o) := by
 have l90 := h.len90
 intro m
 induction m with
 | zero =>
  intro i nx o hi h0 h1 ho
  refine Ev.succ ?_
  simp only [spec_ggGroups.l1]
  rw [grp]
  exact Ev.neg (by omega) (Ev.now _)
 | succ m ih =>
  intro i nx o hi h0 h1 ho
  have e0 := ih (i + 1) nx o (by omega) h0 (by omega) ho
  have jt : Ev (fun k => spec_ggGroups.j2 k o nx i cs (cs.length : Int) i true R C cs) (grp R C cs m (i + 1) nx o) := by
   refine Ev.succ ?_
   simp only [spec_ggGroups.j2]
   rw [w64 (x := (i : Int) + 1) (by omega) (by omega)]
   exact Ev.pos (by trivial) e0
  refine Ev.succ ?_
  simp only [spec_ggGroups.l1]
  rw [grp]
  refine Ev.pos (by omega) (Ev.pos (by omega) (Ev.pos (by omega) (Ev.bind (Ev.val (ggGear_ok _)) ?_)))
  by_cases g1 : geared (rd_T88 cs i) = true
  case neg =>
   rw [if_neg (fun hh => g1 hh.1)]
   exact Ev.neg g1 jt
  refine Ev.pos g1 (Ev.pos (by omega) ?_)
  by_cases g2 : rd o i ≥ 0
  ·rw [if_neg (fun hh => by omega),decide_eq_true g2]
   exact jt
  rw [if_pos ⟨g1,by omega⟩,decide_eq_false g2]
  refine Ev.succ ?_
  simp only [spec_ggGroups.j2]
  refine Ev.neg (by simp) (Ev.pos (by omega) (Ev.pos (by omega) ?_))
  rw [Int.toNat_natCast]
  have ho2 : (o.set i nx).length = cs.length := by rw [List.length_set]; exact ho
  have hsum : negs (o.set i nx) + 1 = negs o := by
   have hl : i < o.length := by omega
   have hr := rd_at o i hl
   unfold negs
   rw [List.countP_set hl,decide_eq_true (show o[i] < 0 by omega),decide_eq_false (show ¬ nx < 0 by omega)]
   have pos : 0 < o.countP (fun x => decide (x < 0)) := List.countP_pos_iff.2 ⟨o[i],List.getElem_mem hl,by simp; omega⟩
   simp
   omega
  have hle : negs o ≤ o.length := List.countP_le_length
  refine ggGroups_l2 h h0 (by omega) i (by omega) _ (cs.length + 1) (o.set i nx) [(i : Int)] 0 ho2 (by simp) (by simp; omega) (by simp; omega) (fun n hn => by rw [List.mem_singleton.1 hn]; omega) ?_
  have e1 := ih (i + 1) (nx + 1) (bfs R C cs nx (cs.length + 1) (o.set i nx) [(i : Int)]) (by omega) (by omega) (by omega) (by rw [bfs_len]; exact ho2)
  exact e1
theorem ggGroups_ev {R C : Int} {cs : List S88} (h : GoodB R C cs) : Ev (fun k => spec_ggGroups.f k R C cs) (groupsOf R C cs) := by
 have l90 := h.len90
 have key : ∀ (m i : Nat),i + m = cs.length → Ev (fun k => spec_ggGroups.l0 k (List.replicate i (-1) ++ List.replicate m 0) (cs.length : Int) i R C cs) (groupsOf R C cs) := by
  intro m
  induction m with
  | zero =>
   intro i hi
   obtain rfl : i = cs.length := by omega
   refine Ev.succ ?_
   simp only [spec_ggGroups.l0]
   refine Ev.neg (by omega) ?_
   rw [List.replicate_zero,List.append_nil]
   exact ggGroups_l1 h cs.length 0 0 _ (by omega) (by omega) (by omega) (by simp)
  | succ m ih =>
   intro i hi
   refine Ev.succ ?_
   simp only [spec_ggGroups.l0]
   refine Ev.pos (by omega) (Ev.pos (by omega) (Ev.pos (by simp; omega) ?_))
   rw [w64 (x := (i : Int) + 1) (by omega) (by omega),Int.toNat_natCast,List.replicate_succ,set_at _ _ _ _ _ (by simp)]
   have e : (List.replicate i (-1 : Int) ++ -1 :: List.replicate m 0) = List.replicate (i + 1) (-1) ++ List.replicate m 0 := by
    rw [List.replicate_succ',List.append_assoc]; rfl
   rw [e]
   exact ih (i + 1) (by omega)
 unfold spec_ggGroups.f
 refine Ev.pos (by omega) (Ev.pos (by omega) (Ev.bind (Ev.now _) ?_))
 rw [Int.toNat_natCast,List.length_replicate]
 exact key cs.length 0 (by omega)
theorem groupNumbers_l3 {R C : Int} {cs : List S88} (h : GoodB R C cs) {nx : Int} (hx : 0 ≤ nx) (ns : List Int) (hns : ∀ n ∈ ns,0 ≤ n ∧ n < (cs.length : Int)) (hn4 : ns.length ≤ 4) (i : Int) (r : List Int) :
  ∀ (m j : Nat) (o q : List Int),j + m = ns.length → o.length = cs.length → negs o + q.length ≤ 1000 → Ev (fun k => impl_groupNumbers.l2 k (visit cs nx (ns.drop j) o q).1 nx (visit cs nx (ns.drop j) o q).2 cs (cs.length : Int) i R C cs) r → Ev (fun k => impl_groupNumbers.l3 k o nx q cs (cs.length : Int) i ns (ns.length : Int) j R C cs) r := by
 have l90 := h.len90
 intro m
 induction m with
 | zero =>
  intro j o q hj ho hs e
  refine Ev.succ ?_
  simp only [impl_groupNumbers.l3]
  rw [List.drop_eq_nil_of_le (by omega),visit] at e
  exact Ev.neg (by omega) e
 | succ m ih =>
  intro j o q hj ho hs e
  have hjl : j < ns.length := by omega
  obtain ⟨n0,n1⟩ := hns ns[j] (List.getElem_mem hjl)
  rw [List.drop_eq_getElem_cons hjl,visit] at e
  refine Ev.succ ?_
  simp only [impl_groupNumbers.l3]
  rw [rd_at ns j hjl,w64 (x := (j : Int) + 1) (by omega) (by omega)]
  refine Ev.pos (by omega) (Ev.pos (by omega) (Ev.pos (by omega) (Ev.pos n0 (Ev.pos n1 (Ev.bind (Ev.val (isGeared_ok _)) ?_)))))
  by_cases g1 : geared (rd_T88 cs ns[j]) = true
  ·refine Ev.pos g1 (Ev.pos (by omega) ?_)
   by_cases g2 : rd o ns[j] < 0
   ·rw [if_pos ⟨g1,g2⟩] at e
    refine Ev.pos g2 (Ev.pos (by omega) ?_)
    have hv := visit_sum cs hx [ns[j]] o q (fun n hn => by rw [List.mem_singleton.1 hn]; omega)
    rw [visit,if_pos ⟨g1,g2⟩,visit] at hv
    exact ih (j + 1) _ _ (by omega) (by rw [List.length_set]; exact ho) (by simp only at hv; omega) e
   ·rw [if_neg (fun hh => g2 hh.2)] at e
    exact Ev.neg g2 (ih (j + 1) _ _ (by omega) ho hs e)
  ·rw [if_neg (fun hh => g1 hh.1)] at e
   exact Ev.neg g1 (ih (j + 1) _ _ (by omega) ho hs e)
theorem groupNumbers_l2 {R C : Int} {cs : List S88} (h : GoodB R C cs) {nx : Int} (hx : 0 ≤ nx) (hx2 : nx ≤ 1000) (i : Nat) (hi : i ≤ 1000) (r : List Int) :
  ∀ (f : Nat) (o q : List Int),o.length = cs.length → negs o + q.length ≤ f → negs o + q.length ≤ 1000 → (∀ n ∈ q,0 ≤ n ∧ n < (cs.length : Int)) → Ev (fun k => impl_groupNumbers.l1 k (bfs R C cs nx f o q) (nx + 1) cs (cs.length : Int) ((i : Int) + 1) R C cs) r → Ev (fun k => impl_groupNumbers.l2 k o nx q cs (cs.length : Int) i R C cs) r := by
 have l90 := h.len90
 intro f
 induction f with
 | zero =>
  intro o q ho hm hs hq e
  refine Ev.succ ?_
  simp only [impl_groupNumbers.l2]
  rw [w64 (x := nx + 1) (by omega) (by omega),w64 (x := (i : Int) + 1) (by omega) (by omega)]
  rw [bfs] at e
  exact Ev.neg (by omega) e
 | succ f ih =>
  intro o q ho hm hs hq e
  cases q with
  | nil =>
   rw [bfs] at e
   refine Ev.succ ?_
   simp only [impl_groupNumbers.l2]
   rw [w64 (x := nx + 1) (by omega) (by omega),w64 (x := (i : Int) + 1) (by omega) (by omega)]
   exact Ev.neg (by simp) e
  | cons a q =>
   rw [bfs] at e
   refine Ev.succ ?_
   simp only [impl_groupNumbers.l2]
   have ha : rd (a :: q) 0 = a := rfl
   have hdr : (a :: q).drop (1 : Int).toNat = q := rfl
   have hin := hq a List.mem_cons_self
   have hq2 : ∀ n ∈ q,0 ≤ n ∧ n < (cs.length : Int) := fun n hn => hq n (List.mem_cons_of_mem _ hn)
   have hnear := near_in h hin.1 hin.2
   rw [ha,hdr]
   simp only [List.length_cons] at hm hs
   refine Ev.pos (by simp only [List.length_cons]; omega) (Ev.pos (by simp only [List.length_cons]; omega) (Ev.pos (by simp only [List.length_cons]; omega) (Ev.bind (besideOf_ev h hin.1 hin.2) ?_)))
   refine groupNumbers_l3 h hx (near R C a) hnear (near_len _ _ _) i r _ 0 o q (Nat.zero_add _) ho (by omega) ?_
   rw [List.drop_zero]
   have hsum := visit_sum cs hx (near R C a) o q (fun n hn => by rw [ho]; exact hnear n hn)
   exact ih _ _ (by rw [visit_len]; exact ho) (by omega) (by omega) (visit_in cs nx _ _ o q hnear hq2) e
theorem groupNumbers_l1 {R C : Int} {cs : List S88} (h : GoodB R C cs) :
  ∀ (m i : Nat) (nx : Int) (o : List Int),i + m = cs.length → 0 ≤ nx → nx ≤ i → o.length = cs.length → Ev (fun k => impl_groupNumbers.l1 k o nx cs (cs.length : Int) i R C cs) (grp R C cs m i nx o) := by
 have l90 := h.len90
 intro m
 induction m with
 | zero =>
  intro i nx o hi h0 h1 ho
  refine Ev.succ ?_
  simp only [impl_groupNumbers.l1]
  rw [grp]
  exact Ev.neg (by omega) (Ev.now _)
 | succ m ih =>
  intro i nx o hi h0 h1 ho
  have e0 := ih (i + 1) nx o (by omega) h0 (by omega) ho
  have jt : Ev (fun k => impl_groupNumbers.j2 k o nx i cs (cs.length : Int) i true R C cs) (grp R C cs m (i + 1) nx o) := by
   refine Ev.succ ?_
   simp only [impl_groupNumbers.j2]
   rw [w64 (x := (i : Int) + 1) (by omega) (by omega)]
   exact Ev.pos (by trivial) e0
  refine Ev.succ ?_
  simp only [impl_groupNumbers.l1]
  rw [grp]
  refine Ev.pos (by omega) (Ev.pos (by omega) (Ev.pos (by omega) (Ev.bind (Ev.val (isGeared_ok _)) ?_)))
  by_cases g1 : geared (rd_T88 cs i) = true
  case neg =>
   rw [if_neg (fun hh => g1 hh.1)]
   exact Ev.neg g1 jt
  refine Ev.pos g1 (Ev.pos (by omega) ?_)
  by_cases g2 : rd o i ≥ 0
  ·rw [if_neg (fun hh => by omega),decide_eq_true g2]
   exact jt
  rw [if_pos ⟨g1,by omega⟩,decide_eq_false g2]
  refine Ev.succ ?_
  simp only [impl_groupNumbers.j2]
  refine Ev.neg (by simp) (Ev.pos (by omega) (Ev.pos (by omega) ?_))
  rw [Int.toNat_natCast]
  have ho2 : (o.set i nx).length = cs.length := by rw [List.length_set]; exact ho
  have hsum : negs (o.set i nx) + 1 = negs o := by
   have hl : i < o.length := by omega
   have hr := rd_at o i hl
   unfold negs
   rw [List.countP_set hl,decide_eq_true (show o[i] < 0 by omega),decide_eq_false (show ¬ nx < 0 by omega)]
   have pos : 0 < o.countP (fun x => decide (x < 0)) := List.countP_pos_iff.2 ⟨o[i],List.getElem_mem hl,by simp; omega⟩
   simp
   omega
  have hle : negs o ≤ o.length := List.countP_le_length
  refine groupNumbers_l2 h h0 (by omega) i (by omega) _ (cs.length + 1) (o.set i nx) [(i : Int)] ho2 (by simp; omega) (by simp; omega) (fun n hn => by rw [List.mem_singleton.1 hn]; omega) ?_
  have e1 := ih (i + 1) (nx + 1) (bfs R C cs nx (cs.length + 1) (o.set i nx) [(i : Int)]) (by omega) (by omega) (by omega) (by rw [bfs_len]; exact ho2)
  exact e1
theorem groupNumbers_ev {R C : Int} {cs : List S88} (h : GoodB R C cs) : Ev (fun k => impl_groupNumbers.f k R C cs) (groupsOf R C cs) := by
 have l90 := h.len90
 have key : ∀ (m i : Nat),i + m = cs.length → Ev (fun k => impl_groupNumbers.l0 k (List.replicate i (-1) ++ List.replicate m 0) (cs.length : Int) i R C cs) (groupsOf R C cs) := by
  intro m
  induction m with
  | zero =>
   intro i hi
   obtain rfl : i = cs.length := by omega
   refine Ev.succ ?_
   simp only [impl_groupNumbers.l0]
   refine Ev.neg (by omega) ?_
   rw [List.replicate_zero,List.append_nil]
   exact groupNumbers_l1 h cs.length 0 0 _ (by omega) (by omega) (by omega) (by simp)
  | succ m ih =>
   intro i hi
   refine Ev.succ ?_
   simp only [impl_groupNumbers.l0]
   refine Ev.pos (by omega) (Ev.pos (by omega) (Ev.pos (by simp; omega) ?_))
   rw [w64 (x := (i : Int) + 1) (by omega) (by omega),Int.toNat_natCast,List.replicate_succ,set_at _ _ _ _ _ (by simp)]
   have e : (List.replicate i (-1 : Int) ++ -1 :: List.replicate m 0) = List.replicate (i + 1) (-1) ++ List.replicate m 0 := by
    rw [List.replicate_succ',List.append_assoc]; rfl
   rw [e]
   exact ih (i + 1) (by omega)
 unfold impl_groupNumbers.f
 refine Ev.pos (by omega) (Ev.pos (by omega) (Ev.bind (Ev.now _) ?_))
 rw [Int.toNat_natCast,List.length_replicate]
 exact key cs.length 0 (by omega)
def flipped (c : S88) : S88 := ⟨c.f0,1 - c.f1⟩
def goes (c : S88) (side : Int) : Int := if c.f0 = 1 then -1 else if c.f0 = 2 then 1 else if c.f0 = 3 ∨ c.f0 = 6 then 2 * c.f1 - 1 else if c.f0 = 4 then -side else 0
def turnAll (g : List Int) (a : Int) (cs : List S88) : List S88 := cs.mapIdx (fun i c => if c.f0 = 6 ∧ rd g i = rd g a then flipped c else c)
def pass (g : List Int) (a : Int) (cs : List S88) : List S88 := if (rd_T88 cs a).f0 = 3 then cs.set a.toNat (flipped (rd_T88 cs a)) else if (rd_T88 cs a).f0 = 6 then turnAll g a cs else cs
def fallGo (R C : Int) (g : List Int) : Nat → Int → Int → Int → List S88 → List Int → Int × Int × Int × List Int × List S88
 | 0,_,col,_,cs,way => (1,R,col,way,cs)
 | m + 1,row,col,side,cs,way => if (rd_T88 cs (row * C + col)).f0 = 5 then (2,row,col,way ++ [row * C + col],cs)
  else if 0 ≤ col + goes (rd_T88 cs (row * C + col)) side ∧ col + goes (rd_T88 cs (row * C + col)) side < C then fallGo R C g m (row + 1) (col + goes (rd_T88 cs (row * C + col)) side) (-goes (rd_T88 cs (row * C + col)) side) (pass g (row * C + col) cs) (way ++ [row * C + col])
  else (3,row,col + goes (rd_T88 cs (row * C + col)) side,way ++ [row * C + col],pass g (row * C + col) cs)
theorem good_state {c : S88} (h : goodCell c = true) : 0 ≤ c.f0 ∧ c.f0 ≤ 7 ∧ 0 ≤ c.f1 ∧ c.f1 ≤ 1 ∧ (c.f1 = 1 → c.f0 = 3 ∨ c.f0 = 6) := by
 unfold goodCell turning at h
 simp only [Bool.and_eq_true,Bool.or_eq_true,decide_eq_true_eq,inR_iff] at h
 omega
theorem good_flipped {c : S88} (h : goodCell c = true) (ht : c.f0 = 3 ∨ c.f0 = 6) : goodCell (flipped c) = true := by
 have := good_state h
 unfold goodCell turning flipped
 simp only [Bool.and_eq_true,Bool.or_eq_true,decide_eq_true_eq,inR_iff]
 omega
theorem goes_in {c : S88} (h : goodCell c = true) {side : Int} (h0 : -1 ≤ side) (h1 : side ≤ 1) : -1 ≤ goes c side ∧ goes c side ≤ 1 := by
 have := good_state h
 unfold goes
 split
 ·omega
 split
 ·omega
 split
 ·omega
 split <;> omega
theorem rdC_mem {cs : List S88} {a : Int} (h0 : 0 ≤ a) (h1 : a < (cs.length : Int)) : rd_T88 cs a ∈ cs := by
 have := rdC_at cs a.toNat (by omega)
 rw [Int.toNat_of_nonneg h0] at this
 rw [this]
 exact List.getElem_mem _
theorem turnAll_len (g : List Int) (a : Int) (cs : List S88) : (turnAll g a cs).length = cs.length := List.length_mapIdx
theorem pass_len (g : List Int) (a : Int) (cs : List S88) : (pass g a cs).length = cs.length := by
 unfold pass
 split
 ·exact List.length_set
 split
 ·exact turnAll_len _ _ _
 ·rfl
theorem turnAll_good {g : List Int} {a : Int} {cs : List S88} (h : ∀ c ∈ cs,goodCell c = true) : ∀ c ∈ turnAll g a cs,goodCell c = true := by
 intro c hc
 obtain ⟨i,hi,he⟩ := List.mem_iff_getElem.1 hc
 unfold turnAll at he hi
 rw [List.length_mapIdx] at hi
 rw [List.getElem_mapIdx] at he
 rw [← he]
 split
 ·rename_i hg
  exact good_flipped (h _ (List.getElem_mem _)) (Or.inr hg.1)
 ·exact h _ (List.getElem_mem _)
theorem pass_good {g : List Int} {a : Int} {cs : List S88} (h0 : 0 ≤ a) (h1 : a < (cs.length : Int)) (h : ∀ c ∈ cs,goodCell c = true) : ∀ c ∈ pass g a cs,goodCell c = true := by
 unfold pass
 intro c hc
 split at hc
 ·rename_i h3
  rcases List.mem_or_eq_of_mem_set hc with hc | rfl
  ·exact h _ hc
  ·exact good_flipped (h _ (rdC_mem h0 h1)) (Or.inl h3)
 split at hc
 ·exact turnAll_good h _ hc
 ·exact h _ hc
theorem GoodB.pass {R C : Int} {cs : List S88} (h : GoodB R C cs) (g : List Int) {a : Int} (h0 : 0 ≤ a) (h1 : a < (cs.length : Int)) : GoodB R C (pass g a cs) :=
 ⟨h.r1,h.r2,h.c1,h.c2,by rw [pass_len]; exact h.len,pass_good h0 h1 h.good⟩
theorem paTurn_ok {c : S88} (h : goodCell c = true) : spec_paTurn.f c.f0 c.f1 = some ((flipped c).f0,(flipped c).f1) := by
 have := good_state h
 unfold spec_paTurn.f flipped
 rw [w64 (by omega) (by omega)]
theorem turnAll_get (g : List Int) (a : Int) (cs : List S88) (i : Nat) (hi : i < cs.length) : ∀ h : i < (turnAll g a cs).length,(turnAll g a cs)[i] = if cs[i].f0 = 6 ∧ rd g i = rd g a then flipped cs[i] else cs[i] := by
 unfold turnAll
 intro h
 rw [List.getElem_mapIdx]
theorem turn_step (g : List Int) (a : Int) (cs : List S88) (i : Nat) (hi : i < cs.length) : ((turnAll g a cs).take i ++ cs.drop i).set i (if cs[i].f0 = 6 ∧ rd g i = rd g a then flipped cs[i] else cs[i]) = (turnAll g a cs).take (i + 1) ++ cs.drop (i + 1) := by
 have hl : i < (turnAll g a cs).length := by rw [turnAll_len]; exact hi
 rw [List.drop_eq_getElem_cons hi,set_at _ _ _ _ _ (by rw [List.length_take]; omega),List.take_succ_eq_append_getElem hl,List.append_assoc]
 rw [turnAll_get g a cs i hi]; rfl
theorem turn_cur (g : List Int) (a : Int) (cs : List S88) (i : Nat) (hi : i < cs.length) : ((turnAll g a cs).take i ++ cs.drop i).length = cs.length ∧ rd_T88 ((turnAll g a cs).take i ++ cs.drop i) (i : Int) = cs[i] := by
 have hl : ((turnAll g a cs).take i ++ cs.drop i).length = cs.length := by
  rw [List.length_append,List.length_take,List.length_drop,turnAll_len]; omega
 refine ⟨hl,?_⟩
 rw [rdC_at _ i (by omega),List.getElem_append_right (by rw [List.length_take,turnAll_len]; omega)]
 rw [List.getElem_drop]
 congr 1
 rw [List.length_take,turnAll_len]
 omega
theorem turnGroup_ev {R C : Int} {cs : List S88} (h : GoodB R C cs) (g : List Int) (hg : g.length = cs.length) {a : Int} (h0 : 0 ≤ a) (h1 : a < (cs.length : Int)) : Ev (fun k => impl_turnGroup.f k R C cs g a) (turnAll g a cs) := by
 have l90 := h.len90
 have key : ∀ (m i : Nat),i + m = cs.length → Ev (fun k => impl_turnGroup.l0 k g a (cs.length : Int) i R C ((turnAll g a cs).take i ++ cs.drop i)) (turnAll g a cs) := by
  intro m
  induction m with
  | zero =>
   intro i hi
   refine Ev.succ ?_
   simp only [impl_turnGroup.l0]
   refine Ev.neg (by omega) (Ev.ret ?_)
   rw [List.take_of_length_le (by rw [turnAll_len]; omega),List.drop_eq_nil_of_le (by omega),List.append_nil]
  | succ m ih =>
   intro i hi
   have hil : i < cs.length := by omega
   obtain ⟨cl,cr⟩ := turn_cur g a cs i hil
   have st := turn_step g a cs i hil
   have hgood := good_state (h.good _ (List.getElem_mem hil))
   refine Ev.succ ?_
   simp only [impl_turnGroup.l0]
   rw [cr,cl,w64 (x := (i : Int) + 1) (by omega) (by omega),w64 (x := 1 - cs[i].f1) (by omega) (by omega),Int.toNat_natCast]
   refine Ev.pos (by omega) (Ev.pos (by omega) (Ev.pos (by omega) ?_))
   have same : ¬ (cs[i].f0 = 6 ∧ rd g i = rd g a) → Ev (fun k => impl_turnGroup.l0 k g a (cs.length : Int) ((i : Int) + 1) R C ((turnAll g a cs).take i ++ cs.drop i)) (turnAll g a cs) := by
    intro hn
    rw [if_neg hn] at st
    have e2 : ((turnAll g a cs).take i ++ cs.drop i).set i cs[i] = (turnAll g a cs).take i ++ cs.drop i := by
     rw [List.drop_eq_getElem_cons hil,set_at _ _ _ _ _ (by rw [List.length_take,turnAll_len]; omega)]
    rw [e2] at st
    rw [st]
    exact ih (i + 1) (by omega)
   by_cases h6 : cs[i].f0 = 6
   ·refine Ev.pos h6 (Ev.pos (by omega) (Ev.pos h0 (Ev.pos (by omega) ?_)))
    by_cases hq : rd g i = rd g a
    ·rw [if_pos ⟨h6,hq⟩] at st
     refine Ev.pos hq ?_
     have e3 : (⟨cs[i].f0,1 - cs[i].f1⟩ : S88) = flipped cs[i] := rfl
     rw [e3,st]
     exact ih (i + 1) (by omega)
    ·exact Ev.neg hq (same (fun hh => hq hh.2))
   ·exact Ev.neg h6 (same (fun hh => h6 hh.1))
 unfold impl_turnGroup.f
 have := key cs.length 0 (by omega)
 rwa [List.take_zero,List.drop_zero,List.nil_append] at this
theorem flPass_ev {R C : Int} {cs : List S88} (h : GoodB R C cs) (g : List Int) (hg : g.length = cs.length) {a : Int} (h0 : 0 ≤ a) (h1 : a < (cs.length : Int)) : Ev (fun k => spec_flPass.f k R C cs g a) (pass g a cs) := by
 have l90 := h.len90
 have key : ∀ (m i : Nat),i + m = cs.length → Ev (fun k => spec_flPass.l0 k g a (cs.length : Int) i R C ((turnAll g a cs).take i ++ cs.drop i)) (turnAll g a cs) := by
  intro m
  induction m with
  | zero =>
   intro i hi
   refine Ev.succ ?_
   simp only [spec_flPass.l0]
   refine Ev.neg (by omega) (Ev.ret ?_)
   rw [List.take_of_length_le (by rw [turnAll_len]; omega),List.drop_eq_nil_of_le (by omega),List.append_nil]
  | succ m ih =>
   intro i hi
   have hil : i < cs.length := by omega
   obtain ⟨cl,cr⟩ := turn_cur g a cs i hil
   have st := turn_step g a cs i hil
   refine Ev.succ ?_
   simp only [spec_flPass.l0]
   rw [cr,cl,w64 (x := (i : Int) + 1) (by omega) (by omega),Int.toNat_natCast]
   refine Ev.pos (by omega) (Ev.pos (by omega) (Ev.pos (by omega) ?_))
   have same : ¬ (cs[i].f0 = 6 ∧ rd g i = rd g a) → Ev (fun k => spec_flPass.l0 k g a (cs.length : Int) ((i : Int) + 1) R C ((turnAll g a cs).take i ++ cs.drop i)) (turnAll g a cs) := by
    intro hn
    rw [if_neg hn] at st
    have e2 : ((turnAll g a cs).take i ++ cs.drop i).set i cs[i] = (turnAll g a cs).take i ++ cs.drop i := by
     rw [List.drop_eq_getElem_cons hil,set_at _ _ _ _ _ (by rw [List.length_take,turnAll_len]; omega)]
    rw [e2] at st
    rw [st]
    exact ih (i + 1) (by omega)
   by_cases h6 : cs[i].f0 = 6
   ·refine Ev.pos h6 (Ev.pos (by omega) (Ev.pos h0 (Ev.pos (by omega) ?_)))
    by_cases hq : rd g i = rd g a
    ·rw [if_pos ⟨h6,hq⟩] at st
     refine Ev.pos hq (Ev.bind (Ev.val (paTurn_ok (h.good _ (List.getElem_mem hil)))) ?_)
     have e3 : (⟨(flipped cs[i]).f0,(flipped cs[i]).f1⟩ : S88) = flipped cs[i] := rfl
     rw [e3,st]
     exact ih (i + 1) (by omega)
    ·exact Ev.neg hq (same (fun hh => hq hh.2))
   ·exact Ev.neg h6 (same (fun hh => h6 hh.1))
 unfold spec_flPass.f pass
 refine Ev.pos h0 (Ev.pos h1 ?_)
 by_cases h3 : (rd_T88 cs a).f0 = 3
 ·rw [if_pos h3]
  exact Ev.pos h3 (Ev.bind (Ev.val (paTurn_ok (h.good _ (rdC_mem h0 h1)))) (Ev.now _))
 rw [if_neg h3]
 refine Ev.neg h3 ?_
 by_cases h6 : (rd_T88 cs a).f0 = 6
 ·rw [if_pos h6]
  refine Ev.pos h6 ?_
  have := key cs.length 0 (by omega)
  rwa [List.take_zero,List.drop_zero,List.nil_append] at this
 ·rw [if_neg h6]
  exact Ev.neg h6 (Ev.now _)
theorem paGoes_ev {c : S88} (h : goodCell c = true) {side : Int} (h0 : -1 ≤ side) (h1 : side ≤ 1) : Ev (fun k => spec_paGoes.f k c.f0 c.f1 side) (goes c side) := by
 have hs := good_state h
 unfold spec_paGoes.f goes
 by_cases a1 : c.f0 = 1
 ·rw [if_pos a1]; exact Ev.pos a1 (Ev.now _)
 rw [if_neg a1]
 refine Ev.neg a1 ?_
 by_cases a2 : c.f0 = 2
 ·rw [if_pos a2]; exact Ev.pos a2 (Ev.now _)
 rw [if_neg a2]
 refine Ev.neg a2 ?_
 by_cases a3 : c.f0 = 3
 ·rw [if_pos (Or.inl a3)]
  refine Ev.pos a3 (Ev.succ ?_)
  simp only [spec_paGoes.j0]
  rw [w64 (x := 2 * c.f1) (by omega) (by omega),w64 (by omega) (by omega)]
  exact Ev.pos (by simp [a3]) (Ev.now _)
 refine Ev.neg a3 (Ev.succ ?_)
 simp only [spec_paGoes.j0]
 by_cases a6 : c.f0 = 6
 ·rw [if_pos (Or.inr a6),w64 (x := 2 * c.f1) (by omega) (by omega),w64 (x := 2 * c.f1 - 1) (by omega) (by omega)]
  exact Ev.pos (by simp [a6]) (Ev.now _)
 rw [if_neg (show ¬ (c.f0 = 3 ∨ c.f0 = 6) by omega)]
 refine Ev.neg (by simp [a6]) ?_
 exact Ev.ite (fun _ => Ev.ret (w64 (by omega) (by omega))) (fun _ => Ev.now _)
theorem GoesTo_ev {c : S88} (h : goodCell c = true) {side : Int} (h0 : -1 ≤ side) (h1 : side ≤ 1) : Ev (fun k => impl_GoesTo.f k c.f0 c.f1 side) (if c.f0 = 5 then (0,false) else (goes c side,true)) := by
 have hs := good_state h
 unfold impl_GoesTo.f goes
 refine Ev.bind (Ev.val (IsCell_ok c)) (Ev.pos h (Ev.neg (by omega) (Ev.neg (by omega) (Ev.succ ?_))))
 simp only [impl_GoesTo.j0]
 by_cases a5 : c.f0 = 5
 ·rw [if_pos a5]; exact Ev.pos (by simp [a5]) (Ev.now _)
 rw [if_neg a5]
 refine Ev.neg (by simp [a5]) ?_
 by_cases a1 : c.f0 = 1
 ·rw [if_pos a1]; exact Ev.pos a1 (Ev.now _)
 rw [if_neg a1]
 refine Ev.neg a1 ?_
 by_cases a2 : c.f0 = 2
 ·rw [if_pos a2]; exact Ev.pos a2 (Ev.now _)
 rw [if_neg a2]
 refine Ev.neg a2 ?_
 by_cases a3 : c.f0 = 3
 ·rw [if_pos (Or.inl a3)]
  refine Ev.pos a3 (Ev.succ ?_)
  simp only [impl_GoesTo.j1]
  rw [w64 (x := 2 * c.f1) (by omega) (by omega),w64 (x := 2 * c.f1 - 1) (by omega) (by omega)]
  exact Ev.pos (by simp [a3]) (Ev.now _)
 refine Ev.neg a3 (Ev.succ ?_)
 simp only [impl_GoesTo.j1]
 by_cases a6 : c.f0 = 6
 ·rw [if_pos (Or.inr a6),w64 (x := 2 * c.f1) (by omega) (by omega),w64 (x := 2 * c.f1 - 1) (by omega) (by omega)]
  exact Ev.pos (by simp [a6]) (Ev.now _)
 rw [if_neg (show ¬ (c.f0 = 3 ∨ c.f0 = 6) by omega)]
 refine Ev.neg (by simp [a6]) ?_
 by_cases a4 : c.f0 = 4
 ·refine Ev.pos a4 (Ev.ret ?_)
  rw [w64 (by omega) (by omega),if_pos a4]
 ·exact Ev.neg a4 (Ev.ret (by rw [if_neg a4]))
theorem dropL_ev {R C : Int} (g : List Int) : ∀ (m : Nat) (row col side : Int) (cs : List S88) (way : List Int),GoodB R C cs → g.length = cs.length → row + m = R → 0 ≤ row → 0 ≤ col → col < C → -1 ≤ side → side ≤ 1 → (way.length : Int) ≤ row → Ev (fun k => impl_drop.l0 k g col way side row R C cs) (fallGo R C g m row col side cs way) := by
 intro m
 induction m with
 | zero =>
  intro row col side cs way h hg hr h0 c0 c1 s0 s1 hw
  refine Ev.succ ?_
  simp only [impl_drop.l0]
  exact Ev.neg (by omega) (Ev.now _)
 | succ m ih =>
  intro row col side cs way h hg hr h0 c0 c1 s0 s1 hw
  have b := h.idx h0 (show row < R by omega) c0 c1
  have l90 := h.len90
  have hc2 := h.c2
  have hr2 := h.r2
  have hgc := h.good _ (rdC_mem b.2.2.1 b.2.2.2)
  have hst := good_state hgc
  have hgo := goes_in hgc s0 s1
  have hp := h.pass g b.2.2.1 b.2.2.2
  refine Ev.succ ?_
  simp only [impl_drop.l0,fallGo]
  rw [w64 (x := row * C) (by omega) (by omega),w64 (x := row * C + col) (by omega) (by omega)]
  refine Ev.pos (by omega) (Ev.pos (by omega) (Ev.bind (Ev.now _) (Ev.pos b.2.2.1 (Ev.pos b.2.2.2 (Ev.bind (GoesTo_ev hgc s0 s1) ?_)))))
  by_cases a5 : (rd_T88 cs (row * C + col)).f0 = 5
  ·rw [if_pos a5,if_pos a5]
   exact Ev.neg (by simp) (Ev.now _)
  rw [if_neg a5,if_neg a5]
  refine Ev.pos (by trivial) ?_
  have tail : ∀ cs' : List S88,cs' = pass g (row * C + col) cs → Ev (fun k => if wrap64 (col + goes (rd_T88 cs (row * C + col)) side) < 0 then some (3,row,wrap64 (col + goes (rd_T88 cs (row * C + col)) side),way ++ [row * C + col],cs') else if wrap64 (col + goes (rd_T88 cs (row * C + col)) side) ≥ C then some (3,row,wrap64 (col + goes (rd_T88 cs (row * C + col)) side),way ++ [row * C + col],cs') else impl_drop.l0 k g (wrap64 (col + goes (rd_T88 cs (row * C + col)) side)) (way ++ [row * C + col]) (wrap64 (-goes (rd_T88 cs (row * C + col)) side)) (wrap64 (row + 1)) R C cs')
    (if 0 ≤ col + goes (rd_T88 cs (row * C + col)) side ∧ col + goes (rd_T88 cs (row * C + col)) side < C then fallGo R C g m (row + 1) (col + goes (rd_T88 cs (row * C + col)) side) (-goes (rd_T88 cs (row * C + col)) side) (pass g (row * C + col) cs) (way ++ [row * C + col]) else (3,row,col + goes (rd_T88 cs (row * C + col)) side,way ++ [row * C + col],pass g (row * C + col) cs)) := by
   intro cs' e
   subst e
   rw [w64 (x := col + goes (rd_T88 cs (row * C + col)) side) (by omega) (by omega),w64 (x := -goes (rd_T88 cs (row * C + col)) side) (by omega) (by omega),w64 (x := row + 1) (by omega) (by omega)]
   by_cases n0 : col + goes (rd_T88 cs (row * C + col)) side < 0
   ·rw [if_neg (fun hh => by omega)]; exact Ev.pos n0 (Ev.now _)
   refine Ev.neg n0 ?_
   by_cases n1 : col + goes (rd_T88 cs (row * C + col)) side ≥ C
   ·rw [if_neg (fun hh => by omega)]; exact Ev.pos n1 (Ev.now _)
   rw [if_pos ⟨by omega,by omega⟩]
   refine Ev.neg n1 (ih _ _ _ _ _ hp (by rw [pass_len]; exact hg) (by omega) (by omega) (by omega) (by omega) (by omega) (by omega) ?_)
   rw [List.length_append]
   simp
   omega
  by_cases a3 : (rd_T88 cs (row * C + col)).f0 = 3
  ·refine Ev.pos a3 (Ev.succ ?_)
   simp only [impl_drop.j1]
   refine Ev.neg (by omega) (tail _ ?_)
   unfold pass
   rw [if_pos a3,w64 (x := 1 - (rd_T88 cs (row * C + col)).f1) (by omega) (by omega)]
   rfl
  refine Ev.neg a3 (Ev.succ ?_)
  simp only [impl_drop.j1]
  by_cases a6 : (rd_T88 cs (row * C + col)).f0 = 6
  ·refine Ev.pos a6 (Ev.bind (turnGroup_ev h g hg b.2.2.1 b.2.2.2) (tail _ ?_))
   unfold pass
   rw [if_neg a3,if_pos a6]
  ·refine Ev.neg a6 (tail _ ?_)
   unfold pass
   rw [if_neg a3,if_neg a6]
theorem drop_ev {R C : Int} {g : List Int} {cs : List S88} (h : GoodB R C cs) (hg : g.length = cs.length) {col : Int} (c0 : 0 ≤ col) (c1 : col < C) : Ev (fun k => impl_drop.f k R C cs g col) (fallGo R C g R.toNat 0 col 0 cs []) := by
 have hr := h.r1
 exact dropL_ev g R.toNat 0 col 0 cs [] h hg (by omega) (by omega) c0 c1 (by omega) (by omega) (by simp)
def wayL (C : Int) (way : List Int) : List (List Int) := way.map (fun a => [a / C,a % C])
theorem wayL_snoc {C row col : Int} (c0 : 0 ≤ col) (c1 : col < C) (way : List Int) : wayL C (way ++ [row * C + col]) = wayL C way ++ [[row,col]] := by
 unfold wayL
 rw [List.map_append,List.map_cons,List.map_nil]
 have e : row * C + col = col + row * C := by omega
 have e1 : (row * C + col) / C = row := by rw [e,Int.add_mul_ediv_right _ _ (by omega),Int.ediv_eq_zero_of_lt c0 c1,Int.zero_add]
 have e2 : (row * C + col) % C = col := by rw [e,Int.add_mul_emod_self_right]; exact Int.emod_eq_of_lt c0 c1
 rw [e1,e2]
theorem flGoL_ev {R C : Int} (g : List Int) (o : List S88) : ∀ (m : Nat) (row col side : Int) (cs : List S88) (way : List Int),GoodB R C cs → g.length = cs.length → row + m = R → 0 ≤ row → 0 ≤ col → col < C → -1 ≤ side → side ≤ 1 → (way.length : Int) ≤ row → Ev (fun k => spec_flGo.l0 k g col (wayL C way) side row R C o R C cs) ((fallGo R C g m row col side cs way).1,(fallGo R C g m row col side cs way).2.1,(fallGo R C g m row col side cs way).2.2.1,R,C,(fallGo R C g m row col side cs way).2.2.2.2,wayL C (fallGo R C g m row col side cs way).2.2.2.1) := by
 intro m
 induction m with
 | zero =>
  intro row col side cs way h hg hr h0 c0 c1 s0 s1 hw
  refine Ev.succ ?_
  simp only [spec_flGo.l0]
  exact Ev.neg (by omega) (Ev.now _)
 | succ m ih =>
  intro row col side cs way h hg hr h0 c0 c1 s0 s1 hw
  have b := h.idx h0 (show row < R by omega) c0 c1
  have l90 := h.len90
  have hc2 := h.c2
  have hr2 := h.r2
  have hgc := h.good _ (rdC_mem b.2.2.1 b.2.2.2)
  have hst := good_state hgc
  have hgo := goes_in hgc s0 s1
  have hp := h.pass g b.2.2.1 b.2.2.2
  refine Ev.succ ?_
  simp only [spec_flGo.l0,fallGo]
  have hwl : (wayL C way).length = way.length := by unfold wayL; exact List.length_map _
  rw [hwl,← wayL_snoc c0 c1]
  refine Ev.pos (by omega) (Ev.pos (by omega) (Ev.bind (Ev.now _) (Ev.bind (Ev.val (boAt_ok h h0 (show row < R by omega) c0 c1)) ?_)))
  by_cases a5 : (rd_T88 cs (row * C + col)).f0 = 5
  ·rw [if_pos a5]
   exact Ev.pos a5 (Ev.now _)
  rw [if_neg a5]
  refine Ev.neg a5 (Ev.bind (paGoes_ev hgc s0 s1) ?_)
  rw [w64 (x := row * C) (by omega) (by omega),w64 (x := row * C + col) (by omega) (by omega),w64 (x := col + goes (rd_T88 cs (row * C + col)) side) (by omega) (by omega),w64 (x := C - 1) (by omega) (by omega),w64 (x := -goes (rd_T88 cs (row * C + col)) side) (by omega) (by omega),w64 (x := row + 1) (by omega) (by omega)]
  refine Ev.bind (flPass_ev h g hg b.2.2.1 b.2.2.2) (Ev.bind (Ev.val (l1In_ok _ _ _)) ?_)
  by_cases n : 0 ≤ col + goes (rd_T88 cs (row * C + col)) side ∧ col + goes (rd_T88 cs (row * C + col)) side < C
  ·rw [if_pos n]
   refine Ev.pos (inR_iff.2 ⟨n.1,by omega⟩) (ih _ _ _ _ _ hp (by rw [pass_len]; exact hg) (by omega) (by omega) (by omega) (by omega) (by omega) (by omega) ?_)
   rw [List.length_append]
   simp
   omega
  ·rw [if_neg n]
   exact Ev.neg (fun hh => n (by have := inR_iff.1 hh; omega)) (Ev.now _)
theorem flGo_ev {R C : Int} {g : List Int} {cs : List S88} (h : GoodB R C cs) (hg : g.length = cs.length) {col : Int} (c0 : 0 ≤ col) (c1 : col < C) : Ev (fun k => spec_flGo.f k R C cs g col) ((fallGo R C g R.toNat 0 col 0 cs []).1,(fallGo R C g R.toNat 0 col 0 cs []).2.1,(fallGo R C g R.toNat 0 col 0 cs []).2.2.1,R,C,(fallGo R C g R.toNat 0 col 0 cs []).2.2.2.2,wayL C (fallGo R C g R.toNat 0 col 0 cs []).2.2.2.1) := by
 have hr := h.r1
 have l90 := h.len90
 unfold spec_flGo.f
 refine Ev.bind (Ev.val (boOwn_ok R C cs (by omega))) ?_
 exact flGoL_ev g cs R.toNat 0 col 0 cs [] h hg (by omega) (by omega) c0 c1 (by omega) (by omega) (by simp)
def fallR (R C : Int) (cs : List S88) (col : Int) : Int × Int × Int × List Int × List S88 := fallGo R C (groupsOf R C cs) R.toNat 0 col 0 cs []
theorem flRun_ev {R C : Int} {cs : List S88} (h : GoodB R C cs) {col : Int} (c0 : 0 ≤ col) (c1 : col < C) : Ev (fun k => spec_flRun.f k R C cs col) ((fallR R C cs col).1,(fallR R C cs col).2.1,(fallR R C cs col).2.2.1,R,C,(fallR R C cs col).2.2.2.2) := by
 unfold spec_flRun.f
 exact Ev.bind (ggGroups_ev h) (Ev.bind (flGo_ev h (groupsOf_len R C cs) c0 c1) (Ev.now _))
def endNum (C e col : Int) : Int := if e = 1 then col else if e = 2 then C else C + 1
theorem syEnd_ok {C : Int} (h0 : 0 ≤ C) (h1 : C ≤ 9) (R : Int) (cs : List S88) (e row col : Int) : spec_syEnd.f R C cs e row col = some (endNum C e col) := by
 unfold spec_syEnd.f endNum
 rw [w64 (x := C + 1) (by omega) (by omega)]
 split
 ·rfl
 split <;> rfl
theorem endNumber_ok {C : Int} (h0 : 0 ≤ C) (h1 : C ≤ 9) (R : Int) (cs : List S88) (e row col : Int) : impl_endNumber.f R C cs e row col = some (endNum C e col) := by
 unfold impl_endNumber.f endNum
 rw [w64 (x := C + 1) (by omega) (by omega)]
 split
 ·rfl
 split <;> rfl
theorem kind_at {cs ds : List S88} (h : cs.map (·.f0) = ds.map (·.f0)) (n : Int) : (rd_T88 cs n).f0 = (rd_T88 ds n).f0 := by
 have hl : cs.length = ds.length := by have := congrArg List.length h; simpa using this
 by_cases a : n.toNat < cs.length
 ·have e1 : rd_T88 cs n = cs[n.toNat] := by unfold rd_T88; rw [List.getD_eq_getElem?_getD,List.getElem?_eq_getElem a]; rfl
  have e2 : rd_T88 ds n = ds[n.toNat] := by unfold rd_T88; rw [List.getD_eq_getElem?_getD,List.getElem?_eq_getElem (hl ▸ a)]; rfl
  have e3 : (cs.map (·.f0))[n.toNat]? = (ds.map (·.f0))[n.toNat]? := by rw [h]
  rw [List.getElem?_map,List.getElem?_map,List.getElem?_eq_getElem a,List.getElem?_eq_getElem (hl ▸ a)] at e3
  rw [e1,e2]
  exact Option.some.inj e3
 ·unfold rd_T88
  rw [List.getD_eq_getElem?_getD,List.getD_eq_getElem?_getD,List.getElem?_eq_none (by omega),List.getElem?_eq_none (by omega)]
theorem geared_kind {c d : S88} (h : c.f0 = d.f0) : geared c = geared d := by unfold geared; rw [h]
theorem visit_kinds {cs ds : List S88} (h : cs.map (·.f0) = ds.map (·.f0)) (nx : Int) : ∀ (ns o q : List Int),visit cs nx ns o q = visit ds nx ns o q
 | [],o,q => rfl
 | n :: t,o,q => by rw [visit,visit,geared_kind (kind_at h n),visit_kinds h nx t,visit_kinds h nx t]
theorem bfs_kinds {cs ds : List S88} (h : cs.map (·.f0) = ds.map (·.f0)) (R C nx : Int) : ∀ (k : Nat) (o q : List Int),bfs R C cs nx k o q = bfs R C ds nx k o q
 | 0,o,q => rfl
 | k + 1,o,[] => rfl
 | k + 1,o,a :: q => by rw [bfs,bfs,visit_kinds h,bfs_kinds h R C nx k]
theorem grp_kinds {cs ds : List S88} (h : cs.map (·.f0) = ds.map (·.f0)) (R C : Int) : ∀ (m i : Nat) (nx : Int) (o : List Int),grp R C cs m i nx o = grp R C ds m i nx o
 | 0,i,nx,o => rfl
 | m + 1,i,nx,o => by
  have hl : cs.length = ds.length := by have := congrArg List.length h; simpa using this
  rw [grp,grp,geared_kind (kind_at h i),bfs_kinds h,hl,grp_kinds h R C m,grp_kinds h R C m]
theorem groupsOf_kinds {cs ds : List S88} (h : cs.map (·.f0) = ds.map (·.f0)) (R C : Int) : groupsOf R C cs = groupsOf R C ds := by
 have hl : cs.length = ds.length := by have := congrArg List.length h; simpa using this
 unfold groupsOf
 rw [hl,grp_kinds h]
theorem turnAll_kinds (g : List Int) (a : Int) (cs : List S88) : (turnAll g a cs).map (·.f0) = cs.map (·.f0) := by
 refine List.ext_getElem (by simp [turnAll_len]) (fun i h1 h2 => ?_)
 rw [List.getElem_map,List.getElem_map,turnAll_get g a cs i (by simpa using h2)]
 split
 ·rfl
 ·rfl
theorem pass_kinds (g : List Int) {a : Int} {cs : List S88} (h0 : 0 ≤ a) (h1 : a < (cs.length : Int)) : (pass g a cs).map (·.f0) = cs.map (·.f0) := by
 unfold pass
 split
 ·have hl : a.toNat < cs.length := by omega
  have e1 : rd_T88 cs a = cs[a.toNat] := by unfold rd_T88; rw [List.getD_eq_getElem?_getD,List.getElem?_eq_getElem hl]; rfl
  rw [List.map_set,e1]
  have e2 : (flipped cs[a.toNat]).f0 = (cs.map (·.f0))[a.toNat]'(by simpa using hl) := by rw [List.getElem_map]; rfl
  rw [e2,List.set_getElem_self]
 ·split
  ·exact turnAll_kinds g a cs
  ·rfl
theorem fallGo_keep {R C : Int} (g : List Int) : ∀ (m : Nat) (row col side : Int) (cs : List S88) (way : List Int),GoodB R C cs → row + m = R → 0 ≤ row → 0 ≤ col → col < C → -1 ≤ side → side ≤ 1 → GoodB R C (fallGo R C g m row col side cs way).2.2.2.2 ∧ (fallGo R C g m row col side cs way).2.2.2.2.map (·.f0) = cs.map (·.f0) := by
 intro m
 induction m with
 | zero => intro row col side cs way h hr h0 c0 c1 s0 s1; exact ⟨h,rfl⟩
 | succ m ih =>
  intro row col side cs way h hr h0 c0 c1 s0 s1
  have b := h.idx h0 (by omega) c0 c1
  have hgood := h.good _ (rdC_mem b.2.2.1 b.2.2.2)
  have hgo := goes_in hgood s0 s1
  have hp := h.pass g b.2.2.1 b.2.2.2
  have hk := pass_kinds g b.2.2.1 b.2.2.2
  rw [fallGo]
  split
  ·exact ⟨h,rfl⟩
  ·split
   case isTrue hin =>
    have e := ih (row + 1) _ (-goes (rd_T88 cs (row * C + col)) side) (pass g (row * C + col) cs) (way ++ [row * C + col]) hp (by omega) (by omega) hin.1 hin.2 (by omega) (by omega)
    exact ⟨e.1,e.2.trans hk⟩
   case isFalse => exact ⟨hp,hk⟩
theorem fallR_keep {R C : Int} {cs : List S88} (h : GoodB R C cs) {col : Int} (c0 : 0 ≤ col) (c1 : col < C) : GoodB R C (fallR R C cs col).2.2.2.2 ∧ (fallR R C cs col).2.2.2.2.map (·.f0) = cs.map (·.f0) := by
 have hr := h.r1
 exact fallGo_keep (groupsOf R C cs) R.toNat 0 col 0 cs [] h (by omega) (by omega) c0 c1 (by omega) (by omega)
def meetGo (R C : Int) : List S88 → List Int → List Int → Bool
 | _,[],_ => true
 | _,_ :: _,[] => false
 | cs,e :: es,n :: ns => if endNum C (fallR R C cs e).1 (fallR R C cs e).2.2.1 = n then meetGo R C (fallR R C cs e).2.2.2.2 es ns else false
theorem syMeets_ev {R C : Int} (r c : Int) (P : List S88) {es ns : List Int} (hn : ns.length = es.length) (hl : es.length ≤ 1000) (hes : ∀ e ∈ es,0 ≤ e ∧ e < C) {b : List S88} (h : GoodB R C b) : Ev (fun k => spec_syMeets.f k r c P es ns R C b) (meetGo R C b es ns) := by
 have hc1 := h.c1
 have hc2 := h.c2
 have key : ∀ (m i : Nat) (cs : List S88),i + m = es.length → GoodB R C cs → Ev (fun k => spec_syMeets.l0 k es (es.length : Int) i r c P es ns R C b R C cs) (meetGo R C cs (es.drop i) (ns.drop i)) := by
  intro m
  induction m with
  | zero =>
   intro i cs hi hg
   refine Ev.succ ?_
   simp only [spec_syMeets.l0]
   rw [List.drop_eq_nil_of_le (show es.length ≤ i by omega)]
   exact Ev.neg (by omega) (Ev.ret (by rw [meetGo]))
  | succ m ih =>
   intro i cs hi hg
   have h1 : i < es.length := by omega
   have h2 : i < ns.length := by omega
   have hb := hes _ (List.getElem_mem h1)
   refine Ev.succ ?_
   simp only [spec_syMeets.l0]
   rw [rd_at es i h1,rd_at ns i h2,w64 (by omega) (by omega),List.drop_eq_getElem_cons h1,List.drop_eq_getElem_cons h2,meetGo]
   refine Ev.pos (by omega) (Ev.pos (by omega) (Ev.pos (by omega) (Ev.bind (flRun_ev hg hb.1 hb.2) (Ev.bind (Ev.val (syEnd_ok (by omega) hc2 _ _ _ _ _)) (Ev.pos (by omega) ?_)))))
   exact Ev.ite (fun _ => ih (i + 1) _ (by omega) (fallR_keep hg hb.1 hb.2).1) (fun _ => Ev.now _)
 exact key es.length 0 b (by omega) h
theorem hasEnds_ev {R C : Int} (r c : Int) (P : List S88) {es ns : List Int} (hn : ns.length = es.length) (hl : es.length ≤ 1000) (hes : ∀ e ∈ es,0 ≤ e ∧ e < C) {b : List S88} (h : GoodB R C b) : Ev (fun k => impl_hasEnds.f k r c P es ns R C b) (meetGo R C b es ns) := by
 have hc1 := h.c1
 have hc2 := h.c2
 have l90 := h.len90
 have key : ∀ (m i : Nat) (cs : List S88),i + m = es.length → GoodB R C cs → groupsOf R C b = groupsOf R C cs → Ev (fun k => impl_hasEnds.l0 k (groupsOf R C b) es (es.length : Int) i r c P es ns R C b R C cs) (meetGo R C cs (es.drop i) (ns.drop i)) := by
  intro m
  induction m with
  | zero =>
   intro i cs hi hg hk
   refine Ev.succ ?_
   simp only [impl_hasEnds.l0]
   rw [List.drop_eq_nil_of_le (show es.length ≤ i by omega)]
   exact Ev.neg (by omega) (Ev.ret (by rw [meetGo]))
  | succ m ih =>
   intro i cs hi hg hk
   have h1 : i < es.length := by omega
   have h2 : i < ns.length := by omega
   have hb := hes _ (List.getElem_mem h1)
   have kp := fallR_keep hg hb.1 hb.2
   refine Ev.succ ?_
   simp only [impl_hasEnds.l0]
   rw [rd_at es i h1,rd_at ns i h2,w64 (by omega) (by omega),List.drop_eq_getElem_cons h1,List.drop_eq_getElem_cons h2,meetGo]
   have hd : Ev (fun k => impl_drop.f k R C cs (groupsOf R C b) es[i]) (fallR R C cs es[i]) := by
    rw [hk]
    exact drop_ev hg (groupsOf_len R C cs) hb.1 hb.2
   refine Ev.pos (by omega) (Ev.pos (by omega) (Ev.pos (by omega) (Ev.bind hd (Ev.bind (Ev.val (endNumber_ok (by omega) hc2 _ _ _ _ _)) (Ev.pos (by omega) ?_)))))
   exact Ev.ite (fun _ => ih (i + 1) _ (by omega) kp.1 (hk.trans (groupsOf_kinds kp.2 R C).symm)) (fun _ => Ev.now _)
 unfold impl_hasEnds.f
 exact Ev.bind (Ev.val (copyBoard_ok R C b (by omega))) (Ev.bind (groupNumbers_ev h) (key es.length 0 b (by omega) h rfl))
theorem l1All_ev (l : List Int) (lo hi : Int) (hl : l.length ≤ 4611686018427387904) : Ev (fun k => spec_l1All.f k l lo hi) (l.all fun x => inR x lo hi) := by
 have key : ∀ (n i : Nat),i + n = l.length → Ev (fun k => spec_l1All.l0 k lo hi l (l.length : Int) i) ((l.drop i).all fun x => inR x lo hi) := by
  intro n
  induction n with
  | zero =>
   intro i hi
   refine Ev.succ ?_
   simp only [spec_l1All.l0]
   refine Ev.neg (by omega) (Ev.ret ?_)
   rw [List.drop_eq_nil_of_le (by omega)]; rfl
  | succ n ih =>
   intro i hi'
   refine Ev.succ ?_
   simp only [spec_l1All.l0]
   refine Ev.pos (by omega) (Ev.pos (by omega) (Ev.pos (by omega) ?_))
   rw [rd_at l i (by omega),w64 (by omega) (by omega),List.drop_eq_getElem_cons (show i < l.length by omega)]
   have e := ih (i + 1) (by omega)
   refine Ev.bind (Ev.val (l1In_ok _ _ _)) ?_
   by_cases h : inR l[i] lo hi = true
   ·refine Ev.pos h (Ev.cast e ?_)
    rw [List.all_cons,h,Bool.true_and]
   ·refine Ev.neg h (Ev.ret ?_)
    rw [List.all_cons,Bool.eq_false_iff.mpr h]; rfl
 exact key l.length 0 (by omega)
def pw (a : Int) : Nat → Int → Int
 | 0,o => o
 | n + 1,o => if o ≤ 7000 then pw a n (o * a) else o
theorem pw_big (a : Int) (n : Nat) (o : Int) (h : ¬ o ≤ 7000) : pw a n o = o := by
 cases n with
 | zero => rfl
 | succ n => rw [pw,if_neg h]
theorem syPower_ev (a : Int) (ha : 2 ≤ a) (ha' : a ≤ 7) : ∀ (n : Nat) (o : Int),n ≤ 1000 → 1 ≤ o → o ≤ 49000 → Ev (fun k => spec_syPower.l0 k a n o) (pw a n o) := by
 intro n
 induction n with
 | zero =>
  intro o _ _ _
  refine Ev.succ ?_
  simp only [spec_syPower.l0]
  exact Ev.neg (by omega) (Ev.now _)
 | succ n ih =>
  intro o hn h1 h2
  refine Ev.succ ?_
  simp only [spec_syPower.l0,pw]
  refine Ev.pos (by omega) ?_
  by_cases h : o ≤ 7000
  ·refine Ev.pos h ?_
   rw [if_pos h]
   have b := mulb (show 0 ≤ o by omega) h (show 0 ≤ a by omega) ha'
   have b2 : 1 * 1 ≤ o * a := Int.mul_le_mul h1 (by omega) (by omega) (by omega)
   rw [w64 (x := o * a) (by omega) (by omega),w64 (by omega) (by omega)]
   have e : ((n + 1 : Nat) : Int) - 1 = (n : Int) := by omega
   rw [e]
   exact ih _ (by omega) (by omega) (by omega)
  ·rw [if_neg h]
   exact Ev.neg h (Ev.now _)
def tried (r c : Int) (n : Nat) : Int := pw ((n : Int) + 1) (r * c).toNat 1
theorem rc_bd {r c : Int} (hr : inR r 1 4 = true) (hc : inR c 1 4 = true) : 1 ≤ r * c ∧ r * c ≤ 16 := by
 rw [inR_iff] at hr hc
 have b := mulb (show 0 ≤ r by omega) hr.2 (show 0 ≤ c by omega) hc.2
 have b2 : 1 * 1 ≤ r * c := Int.mul_le_mul hr.1 hc.1 (by omega) (by omega)
 omega
theorem syTried_ev (r c : Int) (p : List S88) (e n : List Int) (hr : inR r 1 4 = true) (hc : inR c 1 4 = true) (hp : inR (p.length : Int) 1 6 = true) : Ev (fun k => spec_syTried.f k r c p e n) (tried r c p.length) := by
 have b := rc_bd hr hc
 rw [inR_iff] at hp
 unfold spec_syTried.f spec_syPower.f tried
 refine Ev.bind ?_ (Ev.now _)
 rw [w64 (by omega) (by omega),w64 (by omega) (by omega)]
 have h := syPower_ev ((p.length : Int) + 1) (by omega) (by omega) (r * c).toNat 1 (by omega) (by omega) (by omega)
 rw [Int.toNat_of_nonneg (by omega)] at h
 exact h
def partsFrom (pre : List S88) : List S88 → Bool
 | [] => true
 | p :: t => goodCell p && (!decide (p.f0 = 0) && (!decide (p ∈ pre) && partsFrom (pre ++ [p]) t))
def chRest (r c : Int) (p : List S88) (e n : List Int) : Bool := e.all (fun x => inR x 0 (c - 1)) && (n.all (fun x => inR x 0 (c + 1)) && decide (tried r c p.length ≤ 7000))
def chDims (r c : Int) (p : List S88) (e n : List Int) : Bool := inR r 1 4 && (inR c 1 4 && (inR (p.length : Int) 1 6 && (inR (e.length : Int) 1 8 && decide (n.length = e.length))))
def chGood (r c : Int) (p : List S88) (e n : List Int) : Bool := chDims r c p e n && (partsFrom [] p && chRest r c p e n)
theorem syGood_j3t (r c : Int) (p : List S88) (e n : List Int) : Ev (fun k => spec_syGood.j3 k true r c p e n) false := by
 refine Ev.succ ?_
 simp only [spec_syGood.j3]
 exact Ev.pos (by trivial) (Ev.now _)
theorem syGood_end (r c : Int) (p : List S88) (e n : List Int) (he : e.length ≤ 1048576) (hn : n.length ≤ 1048576) : Ev (fun k => spec_syGood.l0 k p (p.length : Int) (p.length : Int) r c p e n) (chDims r c p e n && chRest r c p e n) := by
 refine Ev.succ ?_
 simp only [spec_syGood.l0]
 unfold chDims
 refine Ev.neg (by omega) (Ev.bind (Ev.val (l1In_ok _ _ _)) ?_)
 by_cases h1 : inR r 1 4 = true
 case neg => exact Ev.neg h1 (Ev.cast (syGood_j3t r c p e n) (by simp [h1]))
 refine Ev.pos h1 (Ev.bind (Ev.val (l1In_ok _ _ _)) ?_)
 by_cases h2 : inR c 1 4 = true
 case neg => exact Ev.neg h2 (Ev.cast (syGood_j3t r c p e n) (by simp [h2]))
 refine Ev.pos h2 (Ev.bind (Ev.val (l1In_ok _ _ _)) ?_)
 by_cases h3 : inR (p.length : Int) 1 6 = true
 case neg => exact Ev.neg h3 (Ev.cast (syGood_j3t r c p e n) (by simp [h3]))
 refine Ev.pos h3 (Ev.bind (Ev.val (l1In_ok _ _ _)) ?_)
 by_cases h4 : inR (e.length : Int) 1 8 = true
 case neg => exact Ev.neg h4 (Ev.cast (syGood_j3t r c p e n) (by simp [h4]))
 refine Ev.pos h4 ?_
 by_cases h5 : n.length = e.length
 case neg =>
  have hb : ((n.length : Int) != (e.length : Int)) = true := by simp; omega
  rw [hb]
  exact Ev.cast (syGood_j3t r c p e n) (by simp [h5])
 have hb : ((n.length : Int) != (e.length : Int)) = false := by simp [h5]
 rw [hb,h1,h2,h3,h4,decide_eq_true h5]
 simp only [Bool.true_and]
 have h2' := inR_iff.1 h2
 refine Ev.succ ?_
 simp only [spec_syGood.j3]
 unfold chRest
 rw [w64 (x := c - 1) (by omega) (by omega),w64 (x := c + 1) (by omega) (by omega)]
 refine Ev.neg (by simp) (Ev.bind (l1All_ev e 0 (c - 1) (by omega)) ?_)
 by_cases h6 : (e.all fun x => inR x 0 (c - 1)) = true
 case neg => exact Ev.neg h6 (Ev.ret (by rw [Bool.eq_false_iff.mpr h6,Bool.false_and]))
 refine Ev.pos h6 (Ev.bind (l1All_ev n 0 (c + 1) (by omega)) ?_)
 by_cases h7 : (n.all fun x => inR x 0 (c + 1)) = true
 case neg => exact Ev.neg h7 (Ev.ret (by rw [Bool.eq_false_iff.mpr h7,Bool.false_and,Bool.and_false]))
 refine Ev.pos h7 (Ev.bind (syTried_ev r c p e n h1 h2 h3) (Ev.ret ?_))
 rw [h6,h7,Bool.true_and,Bool.true_and]
theorem syGood_parts (r c : Int) (p : List S88) (e n : List Int) (hp : p.length ≤ 1048576) (he : e.length ≤ 1048576) (hn : n.length ≤ 1048576) :
  ∀ (m i : Nat),i + m = p.length → Ev (fun k => spec_syGood.l0 k p (p.length : Int) i r c p e n) (partsFrom (p.take i) (p.drop i) && (chDims r c p e n && chRest r c p e n)) := by
 intro m
 induction m with
 | zero =>
  intro i hi
  obtain rfl : i = p.length := by omega
  rw [List.drop_eq_nil_of_le (Nat.le_refl _),partsFrom,Bool.true_and]
  exact syGood_end r c p e n he hn
 | succ m ih =>
  intro i hi
  have e1 := ih (i + 1) (by omega)
  generalize (chDims r c p e n && chRest r c p e n) = Z at e1 ⊢
  refine Ev.succ ?_
  simp only [spec_syGood.l0]
  refine Ev.pos (by omega) (Ev.pos (by omega) (Ev.pos (by omega) ?_))
  rw [rdC_at p i (by omega),List.drop_eq_getElem_cons (show i < p.length by omega),partsFrom,← List.take_succ_eq_append_getElem (by omega)]
  refine Ev.bind (Ev.val (paGood_ok p[i])) ?_
  by_cases h1 : goodCell p[i] = true
  case neg =>
   refine Ev.neg h1 (Ev.succ ?_)
   simp only [spec_syGood.j1]
   exact Ev.pos (by trivial) (Ev.ret (by simp [h1]))
  refine Ev.pos h1 (Ev.succ ?_)
  simp only [spec_syGood.j1]
  by_cases h2 : p[i].f0 = 0
  ·exact Ev.pos (by simp [h2]) (Ev.ret (by simp [h2]))
  refine Ev.neg (by simp [h2]) (Ev.pos (by omega) (Ev.pos (by omega) (Ev.bind (Ev.now _) ?_)))
  rw [h1,decide_eq_false h2,Bool.true_and,Bool.not_false,Bool.true_and]
  have hl : (p.take (i : Int).toNat) = p.take i := by rw [Int.toNat_natCast]
  rw [hl]
  have inner : ∀ (q j : Nat),j + q = (p.take i).length → Ev (fun k => spec_syGood.l1 k p (p.length : Int) i (p.take i) ((p.take i).length : Int) j r c p e n p[i].f0 p[i].f1) (!decide (p[i] ∈ (p.take i).drop j) && (partsFrom (p.take (i + 1)) (p.drop (i + 1)) && Z)) := by
   intro q
   induction q with
   | zero =>
    intro j hj
    refine Ev.succ ?_
    simp only [spec_syGood.l1]
    rw [List.drop_eq_nil_of_le (by omega),w64 (x := (i : Int) + 1) (by omega) (by omega)]
    exact Ev.neg (by omega) (Ev.cast e1 (by simp))
   | succ q ihq =>
    intro j hj
    refine Ev.succ ?_
    simp only [spec_syGood.l1]
    have hjl : (p.take i).length ≤ 1048576 := by rw [List.length_take]; omega
    refine Ev.pos (by omega) (Ev.pos (by omega) (Ev.pos (by omega) ?_))
    rw [rdC_at (p.take i) j (by omega),w64 (x := (j : Int) + 1) (by omega) (by omega),List.drop_eq_getElem_cons (show j < (p.take i).length by omega)]
    by_cases h3 : p[i] = (p.take i)[j]
    ·exact Ev.pos ((cell_eq_iff _ _).2 h3) (Ev.ret (by rw [← h3]; simp))
    ·refine Ev.neg (fun h => h3 ((cell_eq_iff _ _).1 h)) (Ev.cast (ihq (j + 1) (by omega)) ?_)
     simp only [List.mem_cons,h3,false_or]
  have := inner (p.take i).length 0 (by omega)
  rw [List.drop_zero] at this
  rw [Bool.and_assoc]
  exact this
theorem syGood_ev (r c : Int) (p : List S88) (e n : List Int) (hp : p.length ≤ 1048576) (he : e.length ≤ 1048576) (hn : n.length ≤ 1048576) : Ev (fun k => spec_syGood.f k r c p e n) (chGood r c p e n) := by
 have h := syGood_parts r c p e n hp he hn p.length 0 (by omega)
 refine Ev.cast h ?_
 rw [List.take_zero,List.drop_zero]
 unfold chGood
 rw [Bool.and_left_comm]
theorem IndexCell_ev (l : List S88) (x : S88) (hl : l.length ≤ 1048576) : ∃ v : Int,Ev (fun k => impl_Cell_125.f k l x.f0 x.f1) v ∧ (0 ≤ v ↔ x ∈ l) := by
 have key : ∀ (n i : Nat),i + n = l.length → ∃ v : Int,Ev (fun k => impl_Cell_125.l0 k l (l.length : Int) i x.f0 x.f1) v ∧ (0 ≤ v ↔ x ∈ l.drop i) := by
  intro n
  induction n with
  | zero =>
   intro i hi
   refine ⟨-1,Ev.succ ?_,?_⟩
   ·simp only [impl_Cell_125.l0]
    exact Ev.neg (by omega) (Ev.now _)
   ·rw [List.drop_eq_nil_of_le (by omega)]; simp
  | succ n ih =>
   intro i hi
   obtain ⟨v,hv,hm⟩ := ih (i + 1) (by omega)
   have e := rdC_at l i (by omega)
   by_cases h : x = l[i]
   ·refine ⟨i,Ev.succ ?_,?_⟩
    ·simp only [impl_Cell_125.l0]
     rw [e]
     exact Ev.pos (by omega) (Ev.pos (by omega) (Ev.pos (by omega) (Ev.pos ((cell_eq_iff _ _).2 h) (Ev.now _))))
    ·rw [List.drop_eq_getElem_cons (show i < l.length by omega),← h]; simp
   ·refine ⟨v,Ev.succ ?_,?_⟩
    ·simp only [impl_Cell_125.l0]
     rw [e,w64 (by omega) (by omega)]
     exact Ev.pos (by omega) (Ev.pos (by omega) (Ev.pos (by omega) (Ev.neg (fun g => h ((cell_eq_iff _ _).1 g)) hv)))
    ·rw [List.drop_eq_getElem_cons (show i < l.length by omega),List.mem_cons,hm]; simp [h]
 have := key l.length 0 (by omega)
 rwa [List.drop_zero] at this
theorem ContainsCell_ev (l : List S88) (x : S88) (hl : l.length ≤ 1048576) : Ev (fun k => impl_Cell_99.f k l x.f0 x.f1) (decide (x ∈ l)) := by
 obtain ⟨v,hv,hm⟩ := IndexCell_ev l x hl
 unfold impl_Cell_99.f
 exact Ev.bind hv (Ev.ret (decide_eq_decide.2 hm))
theorem IsChallenge_tried (r c : Int) (p : List S88) (e n : List Int) (hr : inR r 1 4 = true) (hc : inR c 1 4 = true) (hp : inR (p.length : Int) 1 6 = true) :
  ∀ (m i : Nat) (o : Int),(i : Int) + m = r * c → 1 ≤ o → o ≤ 7000 → Ev (fun k => impl_IsChallenge.l2 k o i r c p e n) (decide (pw ((p.length : Int) + 1) m o ≤ 7000)) := by
 have b := rc_bd hr hc
 rw [inR_iff] at hp
 intro m
 induction m with
 | zero =>
  intro i o hi h1 h2
  refine Ev.succ ?_
  simp only [impl_IsChallenge.l2]
  rw [w64 (x := r * c) (by omega) (by omega)]
  exact Ev.neg (by omega) (Ev.ret (by rw [pw,decide_eq_true h2]))
 | succ m ih =>
  intro i o hi h1 h2
  refine Ev.succ ?_
  simp only [impl_IsChallenge.l2]
  have b1 := mulb (show 0 ≤ o by omega) h2 (show 0 ≤ (p.length : Int) + 1 by omega) (show (p.length : Int) + 1 ≤ 7 by omega)
  have b2 : 1 * 1 ≤ o * ((p.length : Int) + 1) := Int.mul_le_mul h1 (by omega) (by omega) (by omega)
  rw [w64 (x := r * c) (by omega) (by omega),w64 (x := (p.length : Int) + 1) (by omega) (by omega),w64 (x := o * ((p.length : Int) + 1)) (by omega) (by omega),w64 (x := (i : Int) + 1) (by omega) (by omega)]
  refine Ev.pos (by omega) ?_
  rw [pw,if_pos h2]
  by_cases h : o * ((p.length : Int) + 1) > 7000
  ·refine Ev.pos h (Ev.ret ?_)
   rw [pw_big _ _ _ (by omega),decide_eq_false (by omega)]
  ·exact Ev.neg h (ih (i + 1) _ (by omega) (by omega) (by omega))
theorem IsChallenge_ends (r c : Int) (p : List S88) (e n : List Int) (hr : inR r 1 4 = true) (hc : inR c 1 4 = true) (hp : inR (p.length : Int) 1 6 = true) (he : inR (e.length : Int) 1 8 = true) (hn : n.length = e.length) :
  ∀ (m i : Nat),i + m = e.length → Ev (fun k => impl_IsChallenge.l1 k e (e.length : Int) i r c p e n) ((e.drop i).all (fun x => inR x 0 (c - 1)) && ((n.drop i).all (fun x => inR x 0 (c + 1)) && decide (tried r c p.length ≤ 7000))) := by
 have b := rc_bd hr hc
 have hc' := inR_iff.1 hc
 have he' := inR_iff.1 he
 intro m
 induction m with
 | zero =>
  intro i hi
  refine Ev.succ ?_
  simp only [impl_IsChallenge.l1]
  rw [List.drop_eq_nil_of_le (show e.length ≤ i by omega),List.drop_eq_nil_of_le (show n.length ≤ i by omega),List.all_nil,List.all_nil,Bool.true_and,Bool.true_and]
  refine Ev.neg (by omega) ?_
  have h := IsChallenge_tried r c p e n hr hc hp (r * c).toNat 0 1 (by omega) (by omega) (by omega)
  exact h
 | succ m ih =>
  intro i hi
  refine Ev.succ ?_
  simp only [impl_IsChallenge.l1]
  rw [rd_at e i (by omega),rd_at n i (by omega),w64 (x := c + 1) (by omega) (by omega),w64 (x := (i : Int) + 1) (by omega) (by omega),List.drop_eq_getElem_cons (show i < e.length by omega),List.drop_eq_getElem_cons (show i < n.length by omega),List.all_cons,List.all_cons]
  refine Ev.pos (by omega) (Ev.pos (by omega) (Ev.pos (by omega) ?_))
  by_cases h1 : e[i] < 0
  ·exact Ev.pos h1 (Ev.ret (by rw [inR_lo h1,Bool.false_and,Bool.false_and]))
  refine Ev.neg h1 ?_
  by_cases h2 : e[i] ≥ c
  ·exact Ev.pos h2 (Ev.ret (by rw [inR_hi (show e[i] > c - 1 by omega),Bool.false_and,Bool.false_and]))
  refine Ev.neg h2 (Ev.pos (by omega) ?_)
  by_cases h3 : n[i] < 0
  ·exact Ev.pos h3 (Ev.ret (by rw [inR_lo h3,Bool.false_and,Bool.false_and,Bool.and_false]))
  refine Ev.neg h3 ?_
  by_cases h4 : n[i] > c + 1
  ·exact Ev.pos h4 (Ev.ret (by rw [inR_hi h4,Bool.false_and,Bool.false_and,Bool.and_false]))
  refine Ev.neg h4 (Ev.cast (ih (i + 1) (by omega)) ?_)
  rw [inR_iff.2 ⟨by omega,by omega⟩,inR_iff.2 ⟨by omega,by omega⟩,Bool.true_and,Bool.true_and]
theorem IsChallenge_parts (r c : Int) (p : List S88) (e n : List Int) (hr : inR r 1 4 = true) (hc : inR c 1 4 = true) (hp : inR (p.length : Int) 1 6 = true) (he : inR (e.length : Int) 1 8 = true) (hn : n.length = e.length) :
  ∀ (m i : Nat),i + m = p.length → Ev (fun k => impl_IsChallenge.l0 k p (p.length : Int) i r c p e n) (partsFrom (p.take i) (p.drop i) && chRest r c p e n) := by
 have hp' := inR_iff.1 hp
 intro m
 induction m with
 | zero =>
  intro i hi
  refine Ev.succ ?_
  simp only [impl_IsChallenge.l0]
  rw [List.drop_eq_nil_of_le (by omega),partsFrom,Bool.true_and]
  refine Ev.neg (by omega) ?_
  have h := IsChallenge_ends r c p e n hr hc hp he hn e.length 0 (by omega)
  exact h
 | succ m ih =>
  intro i hi
  have e1 := ih (i + 1) (by omega)
  refine Ev.succ ?_
  simp only [impl_IsChallenge.l0]
  refine Ev.pos (by omega) (Ev.pos (by omega) (Ev.pos (by omega) ?_))
  rw [rdC_at p i (by omega),List.drop_eq_getElem_cons (show i < p.length by omega),partsFrom,← List.take_succ_eq_append_getElem (by omega),w64 (x := (i : Int) + 1) (by omega) (by omega)]
  refine Ev.bind (Ev.val (IsCell_ok p[i])) ?_
  by_cases h1 : goodCell p[i] = true
  case neg => exact Ev.neg h1 (Ev.ret (by simp [h1]))
  refine Ev.pos h1 ?_
  by_cases h2 : p[i].f0 = 0
  ·exact Ev.pos h2 (Ev.ret (by simp [h2]))
  refine Ev.neg h2 (Ev.pos (by omega) ?_)
  have hl : (p.take (i : Int).toNat) = p.take i := by rw [Int.toNat_natCast]
  rw [hl,h1,decide_eq_false h2,Bool.true_and,Bool.not_false,Bool.true_and]
  refine Ev.bind (ContainsCell_ev (p.take i) p[i] (by rw [List.length_take]; omega)) ?_
  by_cases h3 : p[i] ∈ p.take i
  ·exact Ev.pos (by simp [h3]) (Ev.ret (by rw [decide_eq_true h3]; rfl))
  ·refine Ev.neg (by simp [h3]) (Ev.cast e1 ?_)
   rw [decide_eq_false h3]; rfl
theorem IsChallenge_j0t (r c : Int) (p : List S88) (e n : List Int) : Ev (fun k => impl_IsChallenge.j0 k true r c p e n) false := by
 refine Ev.succ ?_
 simp only [impl_IsChallenge.j0]
 exact Ev.pos (by trivial) (Ev.now _)
theorem IsChallenge_ev (r c : Int) (p : List S88) (e n : List Int) : Ev (fun k => impl_IsChallenge.f k r c p e n) (chGood r c p e n) := by
 unfold impl_IsChallenge.f chGood chDims
 by_cases a1 : r < 1
 ·exact Ev.pos a1 (Ev.cast (IsChallenge_j0t r c p e n) (by rw [inR_lo a1]; rfl))
 refine Ev.neg a1 ?_
 by_cases a2 : r > 4
 ·exact Ev.pos a2 (Ev.cast (IsChallenge_j0t r c p e n) (by rw [inR_hi a2]; rfl))
 refine Ev.neg a2 ?_
 have hr : inR r 1 4 = true := inR_iff.2 ⟨by omega,by omega⟩
 rw [hr,Bool.true_and]
 by_cases a3 : c < 1
 ·exact Ev.pos a3 (Ev.cast (IsChallenge_j0t r c p e n) (by rw [inR_lo a3]; rfl))
 refine Ev.neg a3 ?_
 by_cases a4 : c > 4
 ·exact Ev.pos a4 (Ev.cast (IsChallenge_j0t r c p e n) (by rw [inR_hi a4]; rfl))
 refine Ev.neg a4 ?_
 have hc : inR c 1 4 = true := inR_iff.2 ⟨by omega,by omega⟩
 rw [hc,Bool.true_and]
 by_cases a5 : (p.length : Int) < 1
 ·exact Ev.pos a5 (Ev.cast (IsChallenge_j0t r c p e n) (by rw [inR_lo a5]; rfl))
 refine Ev.neg a5 ?_
 by_cases a6 : (p.length : Int) > 6
 ·exact Ev.pos a6 (Ev.cast (IsChallenge_j0t r c p e n) (by rw [inR_hi a6]; rfl))
 refine Ev.neg a6 ?_
 have hp : inR (p.length : Int) 1 6 = true := inR_iff.2 ⟨by omega,by omega⟩
 rw [hp,Bool.true_and]
 by_cases a7 : (e.length : Int) < 1
 ·exact Ev.pos a7 (Ev.cast (IsChallenge_j0t r c p e n) (by rw [inR_lo a7]; rfl))
 refine Ev.neg a7 ?_
 by_cases a8 : (e.length : Int) > 8
 ·exact Ev.pos a8 (Ev.cast (IsChallenge_j0t r c p e n) (by rw [inR_hi a8]; rfl))
 refine Ev.neg a8 ?_
 have he : inR (e.length : Int) 1 8 = true := inR_iff.2 ⟨by omega,by omega⟩
 rw [he,Bool.true_and]
 by_cases h5 : n.length = e.length
 case neg =>
  have hb : ((n.length : Int) != (e.length : Int)) = true := by simp; omega
  rw [hb,decide_eq_false h5]
  exact IsChallenge_j0t r c p e n
 have hb : ((n.length : Int) != (e.length : Int)) = false := by simp [h5]
 rw [hb,decide_eq_true h5,Bool.true_and]
 refine Ev.succ ?_
 simp only [impl_IsChallenge.j0]
 refine Ev.neg (by simp) ?_
 exact IsChallenge_parts r c p e n hr hc hp he h5 p.length 0 (by omega)
theorem boardsTriedL_ev (r c : Int) (p : List S88) (e n : List Int) (hr : inR r 1 4 = true) (hc : inR c 1 4 = true) (hp : inR (p.length : Int) 1 6 = true) :
  ∀ (m i : Nat) (o : Int),(i : Int) + m = r * c → 1 ≤ o → pw ((p.length : Int) + 1) m o ≤ 7000 → Ev (fun k => impl_boardsTried.l0 k o i r c p e n) (pw ((p.length : Int) + 1) m o) := by
 have b := rc_bd hr hc
 rw [inR_iff] at hp
 intro m
 induction m with
 | zero =>
  intro i o hi h1 _
  refine Ev.succ ?_
  simp only [impl_boardsTried.l0]
  rw [w64 (x := r * c) (by omega) (by omega),pw]
  exact Ev.neg (by omega) (Ev.now _)
 | succ m ih =>
  intro i o hi h1 h2
  by_cases h : o ≤ 7000
  case neg => rw [pw_big _ _ _ h] at h2; omega
  rw [pw,if_pos h] at h2 ⊢
  refine Ev.succ ?_
  simp only [impl_boardsTried.l0]
  have b1 := mulb (show 0 ≤ o by omega) h (show 0 ≤ (p.length : Int) + 1 by omega) (show (p.length : Int) + 1 ≤ 7 by omega)
  have b2 : 1 * 1 ≤ o * ((p.length : Int) + 1) := Int.mul_le_mul h1 (by omega) (by omega) (by omega)
  rw [w64 (x := r * c) (by omega) (by omega),w64 (x := (p.length : Int) + 1) (by omega) (by omega),w64 (x := o * ((p.length : Int) + 1)) (by omega) (by omega),w64 (x := (i : Int) + 1) (by omega) (by omega)]
  exact Ev.pos (by omega) (ih (i + 1) _ (by omega) (by omega) h2)
theorem chGood_dims {r c : Int} {p : List S88} {e n : List Int} (h : chGood r c p e n = true) : inR r 1 4 = true ∧ inR c 1 4 = true ∧ inR (p.length : Int) 1 6 = true ∧ inR (e.length : Int) 1 8 = true ∧ n.length = e.length ∧ tried r c p.length ≤ 7000 ∧ (e.all (fun x => inR x 0 (c - 1)) = true) ∧ (n.all (fun x => inR x 0 (c + 1)) = true) ∧ partsFrom [] p = true := by
 unfold chGood chDims chRest at h
 simp only [Bool.and_eq_true,decide_eq_true_eq] at h
 obtain ⟨⟨h1,h2,h3,h4,h5⟩,h6,h7,h8,h9⟩ := h
 exact ⟨h1,h2,h3,h4,h5,h9,h7,h8,h6⟩
theorem boardsTried_ev {r c : Int} {p : List S88} {e n : List Int} (h : chGood r c p e n = true) : Ev (fun k => impl_boardsTried.f k r c p e n) (tried r c p.length) := by
 obtain ⟨hr,hc,hp,_,_,ht,_⟩ := chGood_dims h
 have b := rc_bd hr hc
 exact boardsTriedL_ev r c p e n hr hc hp (r * c).toNat 0 1 (by omega) (by omega) ht
theorem syTriedG_ev {r c : Int} {p : List S88} {e n : List Int} (h : chGood r c p e n = true) : Ev (fun k => spec_syTried.f k r c p e n) (tried r c p.length) := by
 obtain ⟨hr,hc,hp,_⟩ := chGood_dims h
 exact syTried_ev r c p e n hr hc hp
theorem ents_in {r c : Int} {p : List S88} {e ns : List Int} (h : chGood r c p e ns = true) : ∀ x ∈ e,0 ≤ x ∧ x < c := by
 intro x hx
 have d := (chGood_dims h).2.2.2.2.2.2.1
 have := inR_iff.1 (List.all_eq_true.1 d x hx)
 omega
theorem partsFrom_good : ∀ (l pre : List S88),partsFrom pre l = true → ∀ x ∈ l,goodCell x = true
 | [],_,_,x,hx => by simp at hx
 | y :: l,pre,h,x,hx => by
  rw [partsFrom] at h
  simp only [Bool.and_eq_true] at h
  rcases List.mem_cons.1 hx with rfl | hx
  ·exact h.1
  ·exact partsFrom_good l _ h.2.2.2 x hx
def fillGo (p : List S88) : Nat → Int → List S88 → List S88
 | 0,_,q => q
 | m + 1,n,q => fillGo p m (Int.tdiv n ((p.length : Int) + 1)) (if Int.tmod n ((p.length : Int) + 1) > 0 then q.set m (rd_T88 p (Int.tmod n ((p.length : Int) + 1) - 1)) else q)
theorem fillGo_keep {p : List S88} (hp : ∀ c ∈ p,goodCell c = true) : ∀ (m : Nat) (n : Int) (q : List S88),(∀ c ∈ q,goodCell c = true) → (∀ c ∈ fillGo p m n q,goodCell c = true) ∧ (fillGo p m n q).length = q.length := by
 intro m
 induction m with
 | zero => intro n q h; exact ⟨h,rfl⟩
 | succ m ih =>
  intro n q h
  rw [fillGo]
  split
  ·rename_i hk
   have hl := Int.tmod_lt_of_pos n (show (0 : Int) < (p.length : Int) + 1 by omega)
   have hm := hp _ (rdC_mem (cs := p) (a := Int.tmod n ((p.length : Int) + 1) - 1) (by omega) (by omega))
   have e := ih (Int.tdiv n ((p.length : Int) + 1)) (q.set m (rd_T88 p (Int.tmod n ((p.length : Int) + 1) - 1))) (fun c hc => (List.mem_or_eq_of_mem_set hc).elim (h c) (fun e => e ▸ hm))
   rw [List.length_set] at e
   exact e
  ·exact ih _ q h
def bdOf (r c : Int) (p : List S88) (n : Int) : List S88 := fillGo p (r * c).toNat n (List.replicate (r * c).toNat ⟨0,0⟩)
theorem bdOf_good {r c : Int} {p : List S88} {e ns : List Int} (h : chGood r c p e ns = true) (n : Int) : GoodB r c (bdOf r c p n) := by
 have d := chGood_dims h
 have b := rc_bd d.1 d.2.1
 have h1 := inR_iff.1 d.1
 have h2 := inR_iff.1 d.2.1
 have k := fillGo_keep (partsFrom_good p [] d.2.2.2.2.2.2.2.2) (r * c).toNat n (List.replicate (r * c).toNat (⟨0,0⟩ : S88)) (fun c hc => by rw [List.eq_of_mem_replicate hc]; decide)
 exact ⟨by omega,by omega,by omega,by omega,by rw [bdOf,k.2,List.length_replicate]; omega,k.1⟩
theorem tdiv_in {n d : Int} (h0 : 0 ≤ n) (h1 : n ≤ 7000) (hd : 1 ≤ d) : 0 ≤ Int.tdiv n d ∧ Int.tdiv n d ≤ 7000 := by
 rw [Int.tdiv_eq_ediv_of_nonneg h0]
 have := Int.ediv_le_self d h0
 exact ⟨Int.ediv_nonneg h0 (by omega),by omega⟩
theorem syBoard_ev {r c : Int} {p : List S88} {e ns : List Int} (h : chGood r c p e ns = true) {n : Int} (n0 : 0 ≤ n) (n1 : n ≤ 7000) : Ev (fun k => spec_syBoard.f k r c p e ns n) (r,c,bdOf r c p n) := by
 have d := chGood_dims h
 have b := rc_bd d.1 d.2.1
 have hl := inR_iff.1 d.2.2.1
 have key : ∀ (m : Nat) (n : Int) (q : List S88),m ≤ q.length → q.length ≤ 16 → 0 ≤ n → n ≤ 7000 → Ev (fun k => spec_syBoard.l0 k n ((m : Int) - 1) r c p e ns r c q) (r,c,fillGo p m n q) := by
  intro m
  induction m with
  | zero =>
   intro n q hm hq h0 h1
   refine Ev.succ ?_
   simp only [spec_syBoard.l0]
   exact Ev.neg (by omega) (Ev.now _)
  | succ m ih =>
   intro n q hm hq h0 h1
   have t := tdiv_in (d := (p.length : Int) + 1) h0 h1 (by omega)
   have hmod := Int.tmod_lt_of_pos n (show (0 : Int) < (p.length : Int) + 1 by omega)
   have e1 : ((m + 1 : Nat) : Int) - 1 = (m : Int) := by omega
   rw [e1]
   refine Ev.succ ?_
   simp only [spec_syBoard.l0]
   rw [w64 (x := (p.length : Int) + 1) (by omega) (by omega),w64 (x := Int.tdiv n ((p.length : Int) + 1)) (by omega) (by omega),w64 (x := (m : Int) - 1) (by omega) (by omega),Int.toNat_natCast,fillGo]
   refine Ev.pos (by omega) (Ev.neg (by omega) ?_)
   by_cases a : Int.tmod n ((p.length : Int) + 1) > 0
   ·rw [w64 (x := Int.tmod n ((p.length : Int) + 1) - 1) (by omega) (by omega),if_pos a]
    exact Ev.pos a (Ev.pos (by omega) (Ev.pos (by omega) (Ev.pos (by omega) (Ev.pos (by omega) (ih _ _ (by rw [List.length_set]; omega) (by rw [List.length_set]; exact hq) t.1 t.2)))))
   ·rw [if_neg a]
    exact Ev.neg a (ih _ _ (by omega) hq t.1 t.2)
 unfold spec_syBoard.f
 rw [w64 (x := r * c) (by omega) (by omega)]
 refine Ev.pos (by omega) (Ev.pos (by omega) (Ev.bind (Ev.now _) ?_))
 rw [List.length_replicate,w64 (by omega) (by omega)]
 exact key (r * c).toNat n _ (by simp) (by simp; omega) n0 n1
theorem boardOf_ev {r c : Int} {p : List S88} {e ns : List Int} (h : chGood r c p e ns = true) {n : Int} (n0 : 0 ≤ n) (n1 : n ≤ 7000) : Ev (fun k => impl_boardOf.f k r c p e ns n) (r,c,bdOf r c p n) := by
 have d := chGood_dims h
 have b := rc_bd d.1 d.2.1
 have hl := inR_iff.1 d.2.2.1
 have key : ∀ (m : Nat) (n : Int) (q : List S88),m ≤ q.length → q.length ≤ 16 → 0 ≤ n → n ≤ 7000 → Ev (fun k => impl_boardOf.l0 k n ((m : Int) - 1) r c p e ns r c q) (r,c,fillGo p m n q) := by
  intro m
  induction m with
  | zero =>
   intro n q hm hq h0 h1
   refine Ev.succ ?_
   simp only [impl_boardOf.l0]
   exact Ev.neg (by omega) (Ev.now _)
  | succ m ih =>
   intro n q hm hq h0 h1
   have t := tdiv_in (d := (p.length : Int) + 1) h0 h1 (by omega)
   have hmod := Int.tmod_lt_of_pos n (show (0 : Int) < (p.length : Int) + 1 by omega)
   have e1 : ((m + 1 : Nat) : Int) - 1 = (m : Int) := by omega
   rw [e1]
   refine Ev.succ ?_
   simp only [impl_boardOf.l0]
   rw [w64 (x := (p.length : Int) + 1) (by omega) (by omega),w64 (x := Int.tdiv n ((p.length : Int) + 1)) (by omega) (by omega),w64 (x := (m : Int) - 1) (by omega) (by omega),Int.toNat_natCast,fillGo]
   refine Ev.pos (by omega) (Ev.neg (by omega) ?_)
   by_cases a : Int.tmod n ((p.length : Int) + 1) > 0
   ·rw [w64 (x := Int.tmod n ((p.length : Int) + 1) - 1) (by omega) (by omega),if_pos a]
    exact Ev.pos a (Ev.pos (by omega) (Ev.pos (by omega) (Ev.pos (by omega) (Ev.pos (by omega) (ih _ _ (by rw [List.length_set]; omega) (by rw [List.length_set]; exact hq) t.1 t.2)))))
   ·rw [if_neg a]
    exact Ev.neg a (ih _ _ (by omega) hq t.1 t.2)
 unfold impl_boardOf.f
 rw [w64 (x := r * c) (by omega) (by omega)]
 refine Ev.pos (by omega) (Ev.pos (by omega) (Ev.bind (Ev.now _) ?_))
 rw [List.length_replicate,w64 (by omega) (by omega)]
 exact key (r * c).toNat n _ (by simp) (by simp; omega) n0 n1
def cntGo (r c : Int) (p : List S88) (e ns : List Int) : Nat → Int → Nat
 | 0,_ => 0
 | m + 1,n => (if meetGo r c (bdOf r c p n) e ns = true then 1 else 0) + cntGo r c p e ns m (n + 1)
def cntOf (r c : Int) (p : List S88) (e ns : List Int) : Nat := cntGo r c p e ns (tried r c p.length).toNat 0
theorem count_ev {r c : Int} {p : List S88} {e ns : List Int} (h : chGood r c p e ns = true) : Ev (fun k => impl_countSolutions.f k r c p e ns) ((cntOf r c p e ns : Nat) : Int) := by
 have d := chGood_dims h
 have hl := inR_iff.1 d.2.2.2.1
 have ht := d.2.2.2.2.2.1
 have key : ∀ (m : Nat) (n s : Int),n + m = max 0 (tried r c p.length) → 0 ≤ n → 0 ≤ s → s ≤ n → Ev (fun k => impl_countSolutions.l0 k s n r c p e ns) (s + (cntGo r c p e ns m n : Nat)) := by
  intro m
  induction m with
  | zero =>
   intro n s hm h0 h1 h2
   refine Ev.succ ?_
   simp only [impl_countSolutions.l0]
   exact Ev.bind (boardsTried_ev h) (Ev.neg (by omega) (Ev.ret (by simp [cntGo])))
  | succ m ih =>
   intro n s hm h0 h1 h2
   refine Ev.succ ?_
   simp only [impl_countSolutions.l0]
   rw [w64 (x := s + 1) (by omega) (by omega),w64 (x := n + 1) (by omega) (by omega),cntGo]
   refine Ev.bind (boardsTried_ev h) (Ev.pos (by omega) (Ev.bind (boardOf_ev h h0 (by omega)) (Ev.bind (hasEnds_ev r c p d.2.2.2.2.1 (by omega) (ents_in h) (bdOf_good h n)) ?_)))
   by_cases y : meetGo r c (bdOf r c p n) e ns = true
   ·rw [if_pos y]
    exact Ev.pos y (Ev.cast (ih (n + 1) (s + 1) (by omega) (by omega) (by omega) (by omega)) (by omega))
   ·rw [if_neg y]
    exact Ev.neg y (Ev.cast (ih (n + 1) s (by omega) (by omega) (by omega) (by omega)) (by omega))
 unfold impl_countSolutions.f cntOf
 exact Ev.cast (key (tried r c p.length).toNat 0 0 (by omega) (by omega) (by omega) (by omega)) (by omega)
def nz (cs : List S88) : Nat := cs.countP (fun x => decide (x.f0 ≠ 0))
def bpGo : List Int → List S88 → List Int
 | q,[] => q
 | q,x :: l => bpGo (q.set x.f0.toNat (rd q x.f0 + 1)) l
theorem rd_set_self (q : List Int) (i v : Int) (h : i.toNat < q.length) : rd (q.set i.toNat v) i = v := by
 unfold rd
 rw [List.getD_eq_getElem?_getD,List.getElem?_set_self h]; rfl
theorem rd_set_ne (q : List Int) (i j v : Int) (h : i.toNat ≠ j.toNat) : rd (q.set i.toNat v) j = rd q j := by
 unfold rd
 rw [List.getD_eq_getElem?_getD,List.getD_eq_getElem?_getD,List.getElem?_set_ne h]
theorem rd_mem (q : List Int) (i : Int) (h : i.toNat < q.length) : rd q i ∈ q := by
 unfold rd
 rw [List.getD_eq_getElem?_getD,List.getElem?_eq_getElem h]
 exact List.getElem_mem h
theorem boParts_go (R C : Int) : ∀ (l pre : List S88) (q : List Int),(∀ x ∈ l,goodCell x = true) → q.length = 8 → pre.length + l.length ≤ 1000 → (∀ x ∈ q,0 ≤ x ∧ x ≤ (pre.length : Int)) → Ev (fun k => spec_boParts.l0 k q (pre ++ l) ((pre ++ l).length : Int) (pre.length : Int)) (bpGo q l) ∧ (bpGo q l).length = 8 ∧ rd (bpGo q l) 0 + nz l = rd q 0 + l.length := by
 intro l
 induction l with
 | nil =>
  intro pre q _ h8 _ _
  refine ⟨Ev.succ ?_,h8,by simp [bpGo,nz]⟩
  simp only [spec_boParts.l0]
  exact Ev.neg (by simp) (Ev.now _)
 | cons x l ih =>
  intro pre q hg h8 hl hq
  have hx := hg x (by simp)
  have hx2 : 0 ≤ x.f0 ∧ x.f0 ≤ 7 := by
   unfold goodCell at hx
   simp only [Bool.and_eq_true] at hx
   exact inR_iff.1 hx.1
  have er : rd_T88 (pre ++ x :: l) (pre.length : Int) = x := by unfold rd_T88; simp
  have hm := hq _ (rd_mem q x.f0 (by omega))
  have hi := ih (pre ++ [x]) (q.set x.f0.toNat (rd q x.f0 + 1)) (fun y hy => hg y (by simp [hy])) (by simpa using h8) (by simp at hl ⊢; omega) (fun y hy => by
   rcases List.mem_or_eq_of_mem_set hy with hy | rfl
   ·have := hq y hy; simp; omega
   ·simp; omega)
  refine ⟨Ev.succ ?_,hi.2.1,?_⟩
  ·simp only [spec_boParts.l0]
   rw [er,w64 (x := rd q x.f0 + 1) (by omega) (by simp at hl; omega),w64 (x := (pre.length : Int) + 1) (by omega) (by simp at hl; omega),bpGo]
   refine Ev.pos (by simp; omega) (Ev.pos (by omega) (Ev.pos (by simp; omega) (Ev.pos hx2.1 (Ev.pos (by omega) ?_))))
   have := hi.1
   simp only [List.append_assoc,List.cons_append,List.nil_append] at this
   exact Ev.cast (Ev.congr (fun k => by simp) this) rfl
  ·rw [bpGo]
   have h2 := hi.2.2
   by_cases z : x.f0 = 0
   ·have e : rd (q.set x.f0.toNat (rd q x.f0 + 1)) 0 = rd q 0 + 1 := by rw [z]; exact rd_set_self q 0 _ (by omega)
    have e2 : nz (x :: l) = nz l := by simp [nz,z]
    rw [e] at h2; rw [e2]; simp; omega
   ·have e : rd (q.set x.f0.toNat (rd q x.f0 + 1)) 0 = rd q 0 := rd_set_ne _ _ _ _ (by simp; omega)
    have e2 : nz (x :: l) = nz l + 1 := by simp [nz,z]
    rw [e] at h2; rw [e2]; simp; omega
theorem nz_le (cs : List S88) : nz cs ≤ cs.length := List.countP_le_length
theorem sySize_ev {R C : Int} {cs : List S88} (h : GoodB R C cs) : Ev (fun k => spec_sySize.f k R C cs) ((nz cs : Nat) : Int) := by
 have hl := h.len90
 have b := boParts_go R C cs [] (List.replicate 8 0) h.good (by simp) (by simp; omega) (fun x hx => by rw [List.eq_of_mem_replicate hx]; simp)
 unfold spec_sySize.f spec_boParts.f
 have hz : rd (List.replicate 8 (0 : Int)) 0 = 0 := by decide
 have hn := nz_le cs
 have e : rd (bpGo (List.replicate 8 0) cs) 0 = (cs.length : Int) - nz cs := by have := b.2.2; omega
 refine Ev.bind (Ev.pos (by omega) b.1) (Ev.pos (by rw [b.2.1]; omega) (Ev.ret ?_))
 rw [e,w64 (by omega) (by omega)]
 omega
def stepC (r c : Int) (p : List S88) (e ns : List Int) (n : Int) (q : List Int × Int × Int × Int) : List Int × Int × Int × Int :=
 if meetGo r c (bdOf r c p n) e ns = true then (q.1.set (nz (bdOf r c p n)) (rd q.1 (nz (bdOf r c p n)) + 1),if q.2.1 < 0 then n else q.2.1,if q.2.2.1 < 0 ∨ (nz (bdOf r c p n) : Int) < q.2.2.2 then n else q.2.2.1,if q.2.2.1 < 0 ∨ (nz (bdOf r c p n) : Int) < q.2.2.2 then (nz (bdOf r c p n) : Int) else q.2.2.2) else q
def runC (r c : Int) (p : List S88) (e ns : List Int) : Nat → Int → List Int × Int × Int × Int → List Int × Int × Int × Int
 | 0,_,q => q
 | m + 1,n,q => runC r c p e ns m (n + 1) (stepC r c p e ns n q)
def runAll (r c : Int) (p : List S88) (e ns : List Int) : List Int × Int × Int × Int := runC r c p e ns (tried r c p.length).toNat 0 (List.replicate (r * c + 1).toNat 0,-1,-1,0)
theorem partsOf_go : ∀ (l pre : List S88) (s : Int),pre.length + l.length ≤ 1000 → 0 ≤ s → s ≤ (pre.length : Int) → Ev (fun k => impl_partsOf.l0 k s (pre ++ l) ((pre ++ l).length : Int) (pre.length : Int)) (s + (nz l : Nat)) := by
 intro l
 induction l with
 | nil =>
  intro pre s _ _ _
  refine Ev.succ ?_
  simp only [impl_partsOf.l0]
  exact Ev.neg (by simp) (Ev.ret (by simp [nz]))
 | cons x l ih =>
  intro pre s hl h0 h1
  simp only [List.length_cons] at hl
  have er : rd_T88 (pre ++ x :: l) (pre.length : Int) = x := by unfold rd_T88; simp
  have q := fun s' hs1 hs2 => ih (pre ++ [x]) s' (by simp; omega) hs1 hs2
  simp only [List.append_assoc,List.cons_append,List.nil_append,List.length_append,List.length_cons,List.length_nil] at q
  refine Ev.succ ?_
  simp only [impl_partsOf.l0]
  rw [er,w64 (x := s + 1) (by omega) (by omega),w64 (x := (pre.length : Int) + 1) (by omega) (by omega)]
  refine Ev.pos (by simp; omega) (Ev.pos (by omega) (Ev.pos (by simp; omega) ?_))
  by_cases z : x.f0 = 0
  ·have e2 : nz (x :: l) = nz l := by simp [nz,z]
   rw [e2]
   exact Ev.pos z (Ev.congr (fun k => by simp) (q s h0 (by omega)))
  ·have e2 : nz (x :: l) = nz l + 1 := by simp [nz,z]
   rw [e2]
   exact Ev.neg z (Ev.cast (Ev.congr (fun k => by simp) (q (s + 1) (by omega) (by omega))) (by omega))
theorem partsOf_ev (R C : Int) {cs : List S88} (h : cs.length ≤ 1000) : Ev (fun k => impl_partsOf.f k R C cs) ((nz cs : Nat) : Int) := by
 unfold impl_partsOf.f
 exact Ev.cast (partsOf_go cs [] 0 (by simpa using h) (by omega) (by simp)) (by omega)
def outS (r c : Int) (p : List S88) (q : List Int × Int × Int × Int) : Int × Int × List S88 × Bool := if q.2.2.1 < 0 then (0,0,[],false) else (r,c,bdOf r c p q.2.2.1,true)
theorem smallest_ev {r c : Int} {p : List S88} {e ns : List Int} (h : chGood r c p e ns = true) : Ev (fun k => impl_smallestOf.f k r c p e ns) (outS r c p (runAll r c p e ns)) := by
 have d := chGood_dims h
 have hl := inR_iff.1 d.2.2.2.1
 have hr := inR_iff.1 d.1
 have ht := d.2.2.2.2.2.1
 have key : ∀ (m : Nat) (n : Int) (q : List Int × Int × Int × Int) (a b : Int) (xs : List S88),n + m = max 0 (tried r c p.length) → 0 ≤ n → ((q.2.2.1 < 0 ∧ a = 0 ∧ b = 0 ∧ xs = []) ∨ (0 ≤ q.2.2.1 ∧ a = r ∧ b = c ∧ xs = bdOf r c p q.2.2.1 ∧ q.2.2.2 = (nz (bdOf r c p q.2.2.1) : Nat))) → Ev (fun k => impl_smallestOf.l0 k n r c p e ns a b xs) (outS r c p (runC r c p e ns m n q)) := by
  intro m
  induction m with
  | zero =>
   intro n q a b xs hm h0 hq
   refine Ev.succ ?_
   simp only [impl_smallestOf.l0]
   refine Ev.bind (boardsTried_ev h) (Ev.neg (by omega) (Ev.ret ?_))
   rw [runC]
   unfold outS
   rcases hq with ⟨h1,rfl,rfl,rfl⟩ | ⟨h1,rfl,rfl,rfl,_⟩
   ·rw [if_pos h1]; rfl
   ·rw [if_neg (by omega),decide_eq_true (by omega)]
  | succ m ih =>
   intro n q a b xs hm h0 hq
   have g := bdOf_good h n
   have g1 := g.len90
   refine Ev.succ ?_
   simp only [impl_smallestOf.l0]
   rw [w64 (x := n + 1) (by omega) (by omega),runC]
   refine Ev.bind (boardsTried_ev h) (Ev.pos (by omega) (Ev.bind (boardOf_ev h h0 (by omega)) (Ev.bind (hasEnds_ev r c p d.2.2.2.2.1 (by omega) (ents_in h) g) ?_)))
   by_cases y : meetGo r c (bdOf r c p n) e ns = true
   ·refine Ev.pos y ?_
    have e1 : stepC r c p e ns n q = _ := if_pos y
    rcases hq with ⟨h1,rfl,rfl,rfl⟩ | ⟨h1,rfl,rfl,rfl,h2⟩
    ·refine Ev.pos rfl (ih (n + 1) _ r c (bdOf r c p n) (by omega) (by omega) (Or.inr ?_))
     rw [e1]
     dsimp only
     rw [if_pos (Or.inl h1),if_pos (Or.inl h1)]
     exact ⟨h0,rfl,rfl,rfl,rfl⟩
    ·have gb := (bdOf_good h q.2.2.1).len90
     refine Ev.neg (by omega) (Ev.bind (partsOf_ev _ _ (by dsimp only; omega)) (Ev.bind (partsOf_ev _ _ (by omega)) ?_))
     by_cases z : ((nz (bdOf a b p n) : Nat) : Int) < (nz (bdOf a b p q.2.2.1) : Nat)
     ·refine Ev.pos z (ih (n + 1) _ a b (bdOf a b p n) (by omega) (by omega) (Or.inr ?_))
      rw [e1]
      dsimp only
      rw [if_pos (Or.inr (by omega)),if_pos (Or.inr (by omega))]
      exact ⟨h0,rfl,rfl,rfl,rfl⟩
     ·refine Ev.neg z (ih (n + 1) _ a b _ (by omega) (by omega) (Or.inr ?_))
      rw [e1]
      dsimp only
      rw [if_neg (by omega),if_neg (by omega)]
      exact ⟨h1,rfl,rfl,rfl,h2⟩
   ·have e1 : stepC r c p e ns n q = q := if_neg y
    rw [e1]
    exact Ev.neg y (ih (n + 1) q a b xs (by omega) (by omega) hq)
 unfold impl_smallestOf.f runAll
 exact key (tried r c p.length).toNat 0 _ 0 0 [] (by omega) (by omega) (Or.inl ⟨by dsimp only; omega,rfl,rfl,rfl⟩)
def playA (r c : Int) (p : List S88) (e ns : List Int) : Bool := chGood r c p e ns && decide (tried r c p.length ≤ 2000)
theorem chGoodP_ev (r c : Int) (p : List S88) (e ns : List Int) (hp : p.length ≤ 1048576) (he : e.length ≤ 1048576) (hn : ns.length ≤ 1048576) : Ev (fun k => spec_chGood.f k r c p e ns) (playA r c p e ns) := by
 unfold spec_chGood.f playA
 by_cases g : chGood r c p e ns = true
 ·exact Ev.bind (syGood_ev r c p e ns hp he hn) (Ev.pos g (Ev.bind (syTriedG_ev g) (Ev.ret (by simp [g]))))
 ·exact Ev.bind (syGood_ev r c p e ns hp he hn) (Ev.neg g (Ev.ret (by simp [Bool.eq_false_iff.mpr g])))
theorem isPlayedP_ev (r c : Int) (p : List S88) (e ns : List Int) : Ev (fun k => impl_isPlayed.f k r c p e ns) (playA r c p e ns) := by
 unfold impl_isPlayed.f playA
 by_cases g : chGood r c p e ns = true
 ·exact Ev.bind (IsChallenge_ev r c p e ns) (Ev.pos g (Ev.bind (boardsTried_ev g) (Ev.ret (by simp [g]))))
 ·exact Ev.bind (IsChallenge_ev r c p e ns) (Ev.neg g (Ev.ret (by simp [Bool.eq_false_iff.mpr g])))
theorem playA_good {r c : Int} {p : List S88} {e ns : List Int} (h : playA r c p e ns = true) : chGood r c p e ns = true := by
 unfold playA at h
 simp only [Bool.and_eq_true] at h
 exact h.1
def solL (r c : Int) (p : List S88) (e ns : List Int) : Nat → Int → List S50
 | 0,_ => []
 | m + 1,n => if meetGo r c (bdOf r c p n) e ns = true then ⟨r,c,bdOf r c p n⟩ :: solL r c p e ns m (n + 1) else solL r c p e ns m (n + 1)
theorem solL_len (r c : Int) (p : List S88) (e ns : List Int) : ∀ (m : Nat) (n : Int),(solL r c p e ns m n).length = cntGo r c p e ns m n
 | 0,_ => rfl
 | m + 1,n => by
  rw [solL,cntGo]
  split
  ·rw [List.length_cons,solL_len r c p e ns m]; omega
  ·rw [solL_len r c p e ns m]; omega
def solAll (r c : Int) (p : List S88) (e ns : List Int) : List S50 := solL r c p e ns (tried r c p.length).toNat 0
theorem chSolutions_ev {r c : Int} {p : List S88} {e ns : List Int} (h : chGood r c p e ns = true) : Ev (fun k => spec_chSolutions.f k r c p e ns) (solAll r c p e ns) := by
 have d := chGood_dims h
 have hl := inR_iff.1 d.2.2.2.1
 have ht := d.2.2.2.2.2.1
 have key : ∀ (m : Nat) (n : Int) (o : List S50),n + m = max 0 (tried r c p.length) → 0 ≤ n → (o.length : Int) ≤ n → Ev (fun k => spec_chSolutions.l0 k o n r c p e ns) (o ++ solL r c p e ns m n) := by
  intro m
  induction m with
  | zero =>
   intro n o hm h0 h1
   refine Ev.succ ?_
   simp only [spec_chSolutions.l0]
   exact Ev.bind (syTriedG_ev h) (Ev.neg (by omega) (Ev.ret (by simp [solL])))
  | succ m ih =>
   intro n o hm h0 h1
   refine Ev.succ ?_
   simp only [spec_chSolutions.l0]
   rw [w64 (x := n + 1) (by omega) (by omega),solL]
   refine Ev.bind (syTriedG_ev h) (Ev.pos (by omega) (Ev.bind (syBoard_ev h h0 (by omega)) (Ev.bind (syMeets_ev r c p d.2.2.2.2.1 (by omega) (ents_in h) (bdOf_good h n)) ?_)))
   by_cases y : meetGo r c (bdOf r c p n) e ns = true
   ·rw [if_pos y]
    exact Ev.pos y (Ev.pos (by omega) (Ev.cast (ih (n + 1) _ (by omega) (by omega) (by simp; omega)) (by simp)))
   ·rw [if_neg y]
    exact Ev.neg y (ih (n + 1) o (by omega) (by omega) (by omega))
 unfold spec_chSolutions.f solAll
 exact key (tried r c p.length).toNat 0 [] (by omega) (by omega) (by simp)
theorem solAll_len (r c : Int) (p : List S88) (e ns : List Int) : (solAll r c p e ns).length = cntOf r c p e ns := solL_len r c p e ns _ _
theorem rdB_app (o : List S50) (b : S50) (l : List S50) : rd_T50 (o ++ b :: l) (o.length : Int) = b := by unfold rd_T50; simp
def bestL : S50 → List S50 → S50
 | b,[] => b
 | b,x :: l => bestL (if nz x.f2 < nz b.f2 then x else b) l
theorem bestL_run (r c : Int) (p : List S88) (e ns : List Int) : ∀ (m : Nat) (n : Int) (q : List Int × Int × Int × Int),0 ≤ n → 0 ≤ q.2.2.1 → q.2.2.2 = (nz (bdOf r c p q.2.2.1) : Nat) → 0 ≤ (runC r c p e ns m n q).2.2.1 ∧ bestL ⟨r,c,bdOf r c p q.2.2.1⟩ (solL r c p e ns m n) = ⟨r,c,bdOf r c p (runC r c p e ns m n q).2.2.1⟩ := by
 intro m
 induction m with
 | zero => intro n q _ h1 h2; exact ⟨h1,rfl⟩
 | succ m ih =>
  intro n q h0 h1 h2
  rw [runC,solL]
  by_cases y : meetGo r c (bdOf r c p n) e ns = true
  ·have e1 : stepC r c p e ns n q = _ := if_pos y
   rw [if_pos y,bestL,e1]
   by_cases z : nz (bdOf r c p n) < nz (bdOf r c p q.2.2.1)
   ·have z2 : q.2.2.1 < 0 ∨ ((nz (bdOf r c p n) : Nat) : Int) < q.2.2.2 := Or.inr (by omega)
    rw [if_pos z,if_pos z2,if_pos z2]
    exact ih (n + 1) _ (by omega) h0 rfl
   ·have z2 : ¬ (q.2.2.1 < 0 ∨ ((nz (bdOf r c p n) : Nat) : Int) < q.2.2.2) := by omega
    rw [if_neg z,if_neg z2,if_neg z2]
    exact ih (n + 1) _ (by omega) h1 h2
  ·have e1 : stepC r c p e ns n q = q := if_neg y
   rw [if_neg y,e1]
   exact ih (n + 1) q (by omega) h1 h2
theorem bestL_first (r c : Int) (p : List S88) (e ns : List Int) : ∀ (m : Nat) (n : Int) (q : List Int × Int × Int × Int),0 ≤ n → q.2.2.1 < 0 → (solL r c p e ns m n = [] ∧ (runC r c p e ns m n q).2.2.1 < 0) ∨ (∃ x l,solL r c p e ns m n = x :: l ∧ 0 ≤ (runC r c p e ns m n q).2.2.1 ∧ bestL x (x :: l) = ⟨r,c,bdOf r c p (runC r c p e ns m n q).2.2.1⟩) := by
 intro m
 induction m with
 | zero => intro n q _ h1; exact Or.inl ⟨rfl,h1⟩
 | succ m ih =>
  intro n q h0 h1
  rw [runC,solL]
  by_cases y : meetGo r c (bdOf r c p n) e ns = true
  ·have e1 : stepC r c p e ns n q = _ := if_pos y
   rw [if_pos y,e1]
   refine Or.inr ⟨_,_,rfl,?_⟩
   have z2 : q.2.2.1 < 0 ∨ ((nz (bdOf r c p n) : Nat) : Int) < q.2.2.2 := Or.inl h1
   rw [if_pos z2,if_pos z2,bestL,if_neg (Nat.lt_irrefl _)]
   exact bestL_run r c p e ns m (n + 1) _ (by omega) h0 rfl
  ·have e1 : stepC r c p e ns n q = q := if_neg y
   rw [if_neg y,e1]
   exact ih (n + 1) q (by omega) h1
theorem chSmall_go (R C : Int) : ∀ (l pre : List S50) (b : S50),(∀ x ∈ l,GoodB x.f0 x.f1 x.f2) → GoodB b.f0 b.f1 b.f2 → pre.length + l.length ≤ 10000 → Ev (fun k => spec_chSmallest.l0 k (pre ++ l) ((pre ++ l).length : Int) (pre.length : Int) b.f0 b.f1 b.f2) ((bestL b l).f0,(bestL b l).f1,(bestL b l).f2) := by
 intro l
 induction l with
 | nil =>
  intro pre b _ _ _
  refine Ev.succ ?_
  simp only [spec_chSmallest.l0]
  exact Ev.neg (by simp) (Ev.now _)
 | cons x l ih =>
  intro pre b hg hb hl
  simp only [List.length_cons] at hl
  have q := fun b' hb' => ih (pre ++ [x]) b' (fun y hy => hg y (by simp [hy])) hb' (by simp; omega)
  simp only [List.append_assoc,List.cons_append,List.nil_append,List.length_append,List.length_cons,List.length_nil] at q
  have hx := hg x (by simp)
  refine Ev.succ ?_
  simp only [spec_chSmallest.l0]
  rw [rdB_app,w64 (x := (pre.length : Int) + 1) (by omega) (by omega),bestL]
  refine Ev.pos (by simp; omega) (Ev.pos (by omega) (Ev.pos (by simp; omega) (Ev.bind (sySize_ev hx) (Ev.bind (sySize_ev hb) ?_))))
  by_cases z : nz x.f2 < nz b.f2
  ·rw [if_pos z]
   exact Ev.pos (by omega) (Ev.congr (fun k => by simp) (q x hx))
  ·rw [if_neg z]
   exact Ev.neg (by omega) (Ev.congr (fun k => by simp) (q b hb))
theorem solL_good {r c : Int} {p : List S88} {e ns : List Int} (h : chGood r c p e ns = true) : ∀ (m : Nat) (n : Int),∀ x ∈ solL r c p e ns m n,GoodB x.f0 x.f1 x.f2
 | 0,_,x,hx => by simp [solL] at hx
 | m + 1,n,x,hx => by
  rw [solL] at hx
  split at hx
  ·rcases List.mem_cons.1 hx with rfl | hx
   ·exact bdOf_good h n
   ·exact solL_good h m (n + 1) x hx
  ·exact solL_good h m (n + 1) x hx
theorem cntGo_le (r c : Int) (p : List S88) (e ns : List Int) : ∀ (m : Nat) (n : Int),cntGo r c p e ns m n ≤ m
 | 0,_ => Nat.le_refl 0
 | m + 1,n => by
  have := cntGo_le r c p e ns m (n + 1)
  rw [cntGo]
  split <;> omega
def afterR (R C : Int) (cs : List S88) : List Int → List S88
 | [] => cs
 | e :: es => afterR R C (fallR R C cs e).2.2.2.2 es
def endOn (R C : Int) (cs : List S88) (es : List Int) (e : Int) : Int := endNum C (fallR R C (afterR R C cs es) e).1 (fallR R C (afterR R C cs es) e).2.2.1
def endsR (R C : Int) (cs : List S88) : List Int → List Int
 | [] => []
 | e :: es => endNum C (fallR R C cs e).1 (fallR R C cs e).2.2.1 :: endsR R C (fallR R C cs e).2.2.2.2 es
theorem endsR_snoc (R C : Int) : ∀ (es : List Int) (cs : List S88) (e : Int),endsR R C cs (es ++ [e]) = endsR R C cs es ++ [endOn R C cs es e]
 | [],cs,e => rfl
 | x :: es,cs,e => by rw [List.cons_append,endsR,endsR,endsR_snoc R C es]; rfl
theorem endsR_len (R C : Int) : ∀ (es : List Int) (cs : List S88),(endsR R C cs es).length = es.length
 | [],cs => rfl
 | x :: es,cs => by rw [endsR,List.length_cons,endsR_len R C es,List.length_cons]
theorem chOwn_ok (R C : Int) (p : List S88) (e n : List Int) (hp : p.length ≤ 1000000) (he : e.length ≤ 1000000) (hn : n.length ≤ 1000000) : spec_chOwn.f R C p e n = some (R,C,p,e,n) := by
 unfold spec_chOwn.f spec_l1Own.f
 simp only [Option.bind_some,List.nil_append]
 rw [if_pos (by simp; omega),if_pos (by simp; omega),Option.bind_some,if_pos (by simp; omega),Option.bind_some]
theorem chEndOn_ev {R C : Int} (R' C' : Int) (P : List S88) (es ns : List Int) (hes : ∀ e ∈ es,0 ≤ e ∧ e < C) (hl : es.length ≤ 1000) {e : Int} (e0 : 0 ≤ e) (e1 : e < C) {cs : List S88} (h : GoodB R C cs) : Ev (fun k => spec_chEndOn.f k R' C' P es ns R C cs e) (endOn R C cs es e) := by
 have key : ∀ (m i : Nat) (cs : List S88),i + m = es.length → GoodB R C cs → Ev (fun k => spec_chEndOn.l0 k e es (es.length : Int) i R C cs) (endOn R C cs (es.drop i) e) := by
  intro m
  induction m with
  | zero =>
   intro i cs hi hg
   refine Ev.succ ?_
   simp only [spec_chEndOn.l0]
   rw [List.drop_eq_nil_of_le (by omega)]
   refine Ev.neg (by omega) (Ev.bind (flRun_ev hg e0 e1) (Ev.bind (Ev.val (syEnd_ok (by have := hg.c1; omega) hg.c2 _ _ _ _ _)) (Ev.now _)))
  | succ m ih =>
   intro i cs hi hg
   have hlt : i < es.length := by omega
   have hb := hes _ (List.getElem_mem hlt)
   refine Ev.succ ?_
   simp only [spec_chEndOn.l0]
   rw [rd_at es i hlt,w64 (by omega) (by omega),List.drop_eq_getElem_cons hlt]
   refine Ev.pos (by omega) (Ev.pos (by omega) (Ev.pos (by omega) (Ev.bind (flRun_ev hg hb.1 hb.2) ?_)))
   exact ih (i + 1) _ (by omega) (fallR_keep hg hb.1 hb.2).1
 exact key es.length 0 cs (by omega) h
theorem chAdd_ev {R C : Int} (P : List S88) (hP : P.length ≤ 1000) (es ns : List Int) (hes : ∀ e ∈ es,0 ≤ e ∧ e < C) (hl : es.length ≤ 1000) (hn : ns.length ≤ 1000) {e : Int} (e0 : 0 ≤ e) (e1 : e < C) {cs : List S88} (h : GoodB R C cs) : Ev (fun k => spec_chAdd.f k R C P es ns R C cs e) (R,C,P,es ++ [e],ns ++ [endOn R C cs es e]) := by
 unfold spec_chAdd.f
 refine Ev.bind (Ev.val (chOwn_ok R C P es ns (by omega) (by omega) (by omega))) (Ev.bind (chEndOn_ev R C P es ns hes hl e0 e1 h) ?_)
 exact Ev.pos (by simp only []; omega) (Ev.pos (by simp only []; omega) (Ev.now _))
def fallsR (R C : Int) (g : List Int) (cs : List S88) : List Int → List S127
 | [] => []
 | e :: es => ⟨(fallGo R C g R.toNat 0 e 0 cs []).1,(fallGo R C g R.toNat 0 e 0 cs []).2.1,(fallGo R C g R.toNat 0 e 0 cs []).2.2.1⟩ :: fallsR R C g (fallGo R C g R.toNat 0 e 0 cs []).2.2.2.2 es
theorem fallsR_ends {R C : Int} {g : List Int} : ∀ (es : List Int) (cs : List S88),GoodB R C cs → g = groupsOf R C cs → (∀ e ∈ es,0 ≤ e ∧ e < C) → (fallsR R C g cs es).map (fun f => endNum C f.f0 f.f2) = endsR R C cs es
 | [],cs,_,_,_ => rfl
 | e :: es,cs,h,hg,hes => by
  have b := hes e List.mem_cons_self
  have k := fallR_keep h b.1 b.2
  have hf : fallGo R C g R.toNat 0 e 0 cs [] = fallR R C cs e := by rw [hg]; rfl
  rw [fallsR,endsR,List.map_cons,hf]
  rw [fallsR_ends es _ k.1 (hg.trans (groupsOf_kinds k.2 R C).symm) (fun x hx => hes x (List.mem_cons_of_mem _ hx))]
theorem fallsR_len (R C : Int) (g : List Int) : ∀ (es : List Int) (cs : List S88),(fallsR R C g cs es).length = es.length
 | [],cs => rfl
 | e :: es,cs => by rw [fallsR,List.length_cons,List.length_cons,fallsR_len R C g es]
theorem dropAll_ev {R C : Int} {cs : List S88} (h : GoodB R C cs) (es : List Int) (hes : ∀ e ∈ es,0 ≤ e ∧ e < C) (hl : es.length ≤ 1000) : ∃ x : Int × Int × List S88,Ev (fun k => impl_dropAll.f k R C cs es) (fallsR R C (groupsOf R C cs) cs es,x.1,x.2.1,x.2.2) := by
 have l90 := h.len90
 have hr := h.r1
 have key : ∀ (g : List Int) (m i : Nat) (o : List S127) (p : List S88),i + m = es.length → o.length = i → GoodB R C p → g.length = p.length → ∃ x : Int × Int × List S88,Ev (fun k => impl_dropAll.l0 k g o es (es.length : Int) i R C p) (o ++ fallsR R C g p (es.drop i),x.1,x.2.1,x.2.2) := by
  intro g m
  induction m with
  | zero =>
   intro i o p hi ho hp hg
   refine ⟨(R,C,p),Ev.succ ?_⟩
   simp only [impl_dropAll.l0]
   rw [List.drop_eq_nil_of_le (by omega)]
   exact Ev.neg (by omega) (Ev.ret (by simp [fallsR]))
  | succ m ih =>
   intro i o p hi ho hp hg
   have hlt : i < es.length := by omega
   have hb := hes _ (List.getElem_mem hlt)
   have k := fallGo_keep g R.toNat 0 es[i] 0 p [] hp (by omega) (by omega) hb.1 hb.2 (by omega) (by omega)
   have kl : (fallGo R C g R.toNat 0 es[i] 0 p []).2.2.2.2.length = p.length := by have := congrArg List.length k.2; simpa using this
   obtain ⟨x,hx⟩ := ih (i + 1) (o ++ [⟨(fallGo R C g R.toNat 0 es[i] 0 p []).1,(fallGo R C g R.toNat 0 es[i] 0 p []).2.1,(fallGo R C g R.toNat 0 es[i] 0 p []).2.2.1⟩]) _ (by omega) (by simp; omega) k.1 (by rw [kl]; exact hg)
   refine ⟨x,Ev.succ ?_⟩
   simp only [impl_dropAll.l0]
   rw [rd_at es i hlt,w64 (by omega) (by omega)]
   refine Ev.pos (by omega) (Ev.pos (by omega) (Ev.pos (by omega) (Ev.bind (drop_ev hp hg hb.1 hb.2) (Ev.pos (by omega) (Ev.cast hx ?_)))))
   rw [List.drop_eq_getElem_cons hlt,fallsR,List.append_assoc]; rfl
 obtain ⟨x,hx⟩ := key (groupsOf R C cs) es.length 0 [] cs (by omega) rfl h (groupsOf_len R C cs)
 refine ⟨x,?_⟩
 unfold impl_dropAll.f
 exact Ev.bind (Ev.val (copyBoard_ok R C cs (by omega))) (Ev.bind (groupNumbers_ev h) hx)
theorem rdF_at (l : List S127) (i : Nat) (h : i < l.length) : rd_T127 l (i : Int) = l[i] := by
 unfold rd_T127
 rw [Int.toNat_natCast,List.getD_eq_getElem?_getD,List.getElem?_eq_getElem h]; rfl
theorem copyCh_ok (r c : Int) (p : List S88) (e n : List Int) (hp : p.length ≤ 1048576) (he : e.length ≤ 1048576) (hn : n.length ≤ 1048576) : impl_copyChallenge.f r c p e n = some (r,c,p,e,n) := by
 unfold impl_copyChallenge.f
 simp only [Option.bind_some]
 rw [if_pos (by simp; omega),if_pos (by simp; omega),if_pos (by simp; omega)]; rfl
theorem chSmallest_ev {r c : Int} {p : List S88} {e ns : List Int} (g2 : chGood r c p e ns = true) : ((solAll r c p e ns).length = 0 ∧ (runAll r c p e ns).2.2.1 < 0) ∨ ((solAll r c p e ns).length ≠ 0 ∧ ¬ (runAll r c p e ns).2.2.1 < 0 ∧ Ev (fun k => spec_chSmallest.f k (solAll r c p e ns)) (r,c,bdOf r c p (runAll r c p e ns).2.2.1)) := by
 have ht := (chGood_dims g2).2.2.2.2.2.1
 have hlen : (solAll r c p e ns).length ≤ 7000 := by
  rw [solAll_len]
  have := cntGo_le r c p e ns (tried r c p.length).toNat 0
  unfold cntOf
  omega
 rcases bestL_first r c p e ns (tried r c p.length).toNat 0 (List.replicate (r * c + 1).toNat 0,-1,-1,0) (by omega) (by dsimp only; omega) with ⟨h1,h2⟩ | ⟨x,l,h1,h2,h3⟩
 ·exact .inl ⟨by unfold solAll; rw [h1]; rfl,h2⟩
 ·have h2' : ¬ (runAll r c p e ns).2.2.1 < 0 := by unfold runAll; omega
  have hs : solAll r c p e ns = x :: l := h1
  have hgood := solL_good g2 (tried r c p.length).toNat 0
  have hgood2 : ∀ y ∈ x :: l,GoodB y.f0 y.f1 y.f2 := by rw [← h1]; exact hgood
  refine .inr ⟨by rw [hs]; simp,h2',?_⟩
  unfold spec_chSmallest.f
  rw [hs]
  have er : rd_T50 (x :: l) 0 = x := by unfold rd_T50; simp
  rw [er]
  have go := chSmall_go r c (x :: l) [] x hgood2 (hgood2 x (by simp)) (by rw [hs] at hlen; simp at hlen ⊢; omega)
  rw [h3] at go
  exact Ev.pos (by simp <;> omega) (Ev.cast (Ev.congr (fun k => by simp) go) rfl)
theorem withEntry_ev {r c : Int} {p : List S88} {e ns : List Int} (g2 : chGood r c p e ns = true) {a : Int} (a0 : 0 ≤ a) (a1 : a < c) {cs : List S88} (h : GoodB r c cs) : Ev (fun k => impl_withEntry.f k r c p e ns r c cs a) (r,c,p,e ++ [a],ns ++ [endOn r c cs e a]) := by
 have d := chGood_dims g2
 have c4 := inR_iff.1 d.2.1
 have p6 := inR_iff.1 d.2.2.1
 have e8 := inR_iff.1 d.2.2.2.1
 have hes : ∀ x ∈ e ++ [a],0 ≤ x ∧ x < c := by
  intro x hx
  rcases List.mem_append.1 hx with y | y
  ·exact ents_in g2 x y
  ·obtain rfl := List.mem_singleton.1 y; exact ⟨a0,a1⟩
 obtain ⟨x,hx⟩ := dropAll_ev h (e ++ [a]) hes (by simp; omega)
 have hF := fallsR_len r c (groupsOf r c cs) (e ++ [a]) cs
 have hm := fallsR_ends (g := groupsOf r c cs) (e ++ [a]) cs h rfl hes
 rw [endsR_snoc] at hm
 generalize fallsR r c (groupsOf r c cs) cs (e ++ [a]) = F at hx hF hm
 have hF2 : F.length = e.length + 1 := by rw [hF]; simp
 have he : endNum c F[e.length].f0 F[e.length].f2 = endOn r c cs e a := by
  have h1 : (F.map (fun f => endNum c f.f0 f.f2))[e.length]? = some (endNum c F[e.length].f0 F[e.length].f2) := by rw [List.getElem?_map,List.getElem?_eq_getElem (by omega)]; rfl
  have h2 : (endsR r c cs e ++ [endOn r c cs e a])[e.length]? = some (endOn r c cs e a) := by rw [List.getElem?_append_right (by rw [endsR_len]; omega),endsR_len]; simp
  rw [hm,h2] at h1
  exact (Option.some.inj h1).symm
 unfold impl_withEntry.f
 refine Ev.bind (Ev.val (copyCh_ok r c p e ns (by omega) (by omega) (by omega))) (Ev.pos (by dsimp only; omega) (Ev.bind (Ev.now _) (Ev.bind hx ?_)))
 rw [w64 (x := (F.length : Int) - 1) (by omega) (by omega),show (F.length : Int) - 1 = ((e.length : Nat) : Int) by omega,rdF_at F e.length (by omega)]
 refine Ev.pos (by omega) (Ev.pos (by dsimp only; omega) (Ev.bind (Ev.val (endNumber_ok (by omega) h.c2 _ _ _ _ _)) (Ev.pos (by dsimp only; omega) ?_)))
 rw [he]
 exact Ev.now _
theorem fallGo_col {R C : Int} (g : List Int) : ∀ (m : Nat) (row col side : Int) (cs : List S88) (way : List Int),0 ≤ col → col < C → (fallGo R C g m row col side cs way).1 = 1 → 0 ≤ (fallGo R C g m row col side cs way).2.2.1 ∧ (fallGo R C g m row col side cs way).2.2.1 < C
 | 0,_,_,_,_,_,h0,h1,_ => ⟨h0,h1⟩
 | m + 1,row,col,side,cs,way,h0,h1,h => by
  rw [fallGo] at h ⊢
  split at h
  ·simp at h
  ·rename_i c1
   rw [if_neg c1]
   split at h
   ·rename_i c2
    rw [if_pos c2]
    exact fallGo_col g m _ _ _ _ _ c2.1 c2.2 h
   ·simp at h
theorem endOn_in {r c : Int} (cs : List S88) (e : List Int) {x : Int} (x0 : 0 ≤ x) (x1 : x < c) : 0 ≤ endOn r c cs e x ∧ endOn r c cs e x ≤ c + 1 := by
 unfold endOn endNum fallR
 split
 ·rename_i h
  have := fallGo_col (groupsOf r c (afterR r c cs e)) r.toNat 0 x 0 (afterR r c cs e) [] x0 x1 h
  omega
 ·split <;> omega
theorem meetGo_snoc (R C x y : Int) : ∀ (es ns : List Int) (cs : List S88),ns.length = es.length → meetGo R C cs (es ++ [x]) (ns ++ [y]) = (meetGo R C cs es ns && decide (endOn R C cs es x = y))
 | [],[],cs,_ => by
  rw [List.nil_append,List.nil_append,meetGo,meetGo,meetGo]
  show _ = (true && decide (endNum C (fallR R C cs x).1 (fallR R C cs x).2.2.1 = y))
  by_cases h : endNum C (fallR R C cs x).1 (fallR R C cs x).2.2.1 = y <;> simp [h]
 | [],_ :: _,_,h => by simp at h
 | _ :: _,[],_,h => by simp at h
 | e :: es,n :: ns,cs,h => by
  rw [List.cons_append,List.cons_append,meetGo,meetGo,meetGo_snoc R C x y es ns _ (by simpa using h)]
  show _ = ((if endNum C (fallR R C cs e).1 (fallR R C cs e).2.2.1 = n then meetGo R C (fallR R C cs e).2.2.2.2 es ns else false) && decide (endOn R C (fallR R C cs e).2.2.2.2 es x = y))
  split <;> simp
def stillB (r c : Int) (e : List Int) (x y : Int) (b : S50) : Bool := decide (endOn r c b.f2 e x = y)
theorem solL_snoc (r c : Int) (p : List S88) (e ns : List Int) (x y : Int) (h : ns.length = e.length) : ∀ (m : Nat) (n : Int),solL r c p (e ++ [x]) (ns ++ [y]) m n = (solL r c p e ns m n).filter (stillB r c e x y)
 | 0,_ => rfl
 | m + 1,n => by
  rw [solL,solL,meetGo_snoc r c x y e ns _ h,solL_snoc r c p e ns x y h m (n + 1)]
  by_cases h1 : meetGo r c (bdOf r c p n) e ns = true
  ·rw [h1,Bool.true_and,if_pos rfl,List.filter_cons]
   rfl
  ·rw [Bool.eq_false_iff.mpr h1,Bool.false_and,if_neg (by simp),if_neg (by simp)]
theorem solAll_snoc (r c : Int) (p : List S88) (e ns : List Int) (x y : Int) (h : ns.length = e.length) : solAll r c p (e ++ [x]) (ns ++ [y]) = (solAll r c p e ns).filter (stillB r c e x y) := solL_snoc r c p e ns x y h _ _
theorem chGood_snoc {r c : Int} {p : List S88} {e ns : List Int} (g : chGood r c p e ns = true) {x y : Int} (x0 : 0 ≤ x) (x1 : x < c) (y0 : 0 ≤ y) (y1 : y ≤ c + 1) (h8 : e.length < 8) : chGood r c p (e ++ [x]) (ns ++ [y]) = true := by
 have d := chGood_dims g
 have e8 := inR_iff.1 d.2.2.2.1
 unfold chGood chDims chRest
 simp only [Bool.and_eq_true,decide_eq_true_eq,List.all_append,List.all_cons,List.all_nil,Bool.and_true,List.length_append,List.length_cons,List.length_nil]
 exact ⟨⟨d.1,d.2.1,d.2.2.1,inR_iff.2 (by omega),by have := d.2.2.2.2.1; omega⟩,d.2.2.2.2.2.2.2.2,⟨d.2.2.2.2.2.2.1,inR_iff.2 (by omega)⟩,⟨d.2.2.2.2.2.2.2.1,inR_iff.2 (by omega)⟩,d.2.2.2.2.2.1⟩
theorem solAll_le {r c : Int} {p : List S88} {e ns : List Int} (h : chGood r c p e ns = true) : (solAll r c p e ns).length ≤ 7000 := by
 have ht := (chGood_dims h).2.2.2.2.2.1
 have := cntGo_le r c p e ns (tried r c p.length).toNat 0
 rw [solAll_len,cntOf]
 omega
theorem solL_rc {r c : Int} {p : List S88} {e ns : List Int} : ∀ (m : Nat) (n : Int) (b : S50),b ∈ solL r c p e ns m n → ∃ j,b = ⟨r,c,bdOf r c p j⟩
 | 0,_,b,h => by simp [solL] at h
 | m + 1,n,b,h => by
  rw [solL] at h
  split at h
  ·rcases List.mem_cons.1 h with e | e
   ·exact ⟨n,e⟩
   ·exact solL_rc m (n + 1) b e
  ·exact solL_rc m (n + 1) b h
theorem chStill_ev {r c : Int} {p : List S88} {e ns : List Int} (g : chGood r c p e ns = true) {x : Int} (x0 : 0 ≤ x) (x1 : x < c) (y : Int) : Ev (fun k => spec_chStill.f k r c p e ns (solAll r c p e ns) x y) ((solAll r c p e ns).filter (stillB r c e x y)) := by
 have d := chGood_dims g
 have e8 := inR_iff.1 d.2.2.2.1
 have hl := solAll_le g
 have hm : ∀ b ∈ solAll r c p e ns,∃ j,b = ⟨r,c,bdOf r c p j⟩ := fun b hb => solL_rc _ _ b hb
 generalize solAll r c p e ns = L at hl hm
 have key : ∀ (l pre o : List S50),L = pre ++ l → o.length ≤ pre.length → Ev (fun k => spec_chStill.l0 k L x y o (L.length : Int) (pre.length : Int) r c p e ns) (o ++ l.filter (stillB r c e x y)) := by
  intro l
  induction l with
  | nil =>
   intro pre o h ho
   refine Ev.succ ?_
   simp only [spec_chStill.l0]
   exact Ev.neg (by rw [h]; simp) (Ev.ret (by simp))
  | cons b l ih =>
   intro pre o h ho
   have hp : pre.length < L.length := by rw [h]; simp
   have er : rd_T50 L (pre.length : Int) = b := by rw [h]; exact rdB_app pre b l
   obtain ⟨j,hj⟩ := hm b (by rw [h]; simp)
   have q := fun o' ho' => ih (pre ++ [b]) o' (by rw [h]; simp) ho'
   rw [show ((pre ++ [b]).length : Int) = (pre.length : Int) + 1 by simp] at q
   refine Ev.succ ?_
   simp only [spec_chStill.l0]
   rw [er,w64 (x := (pre.length : Int) + 1) (by omega) (by omega),List.filter_cons]
   refine Ev.pos (by omega) (Ev.pos (by omega) (Ev.pos (by omega) ?_))
   subst hj
   refine Ev.bind (chEndOn_ev r c p e ns (ents_in g) (by omega) x0 x1 (bdOf_good g j)) ?_
   by_cases z : endOn r c (bdOf r c p j) e x = y
   ·rw [if_pos (show stillB r c e x y ⟨r,c,bdOf r c p j⟩ = true from decide_eq_true z)]
    exact Ev.pos z (Ev.pos (by omega) (Ev.cast (q (o ++ [⟨r,c,bdOf r c p j⟩]) (by simp; omega)) (by simp)))
   ·rw [if_neg (show ¬ stillB r c e x y ⟨r,c,bdOf r c p j⟩ = true from fun w => z (of_decide_eq_true w))]
    exact Ev.neg z (q o (by simp; omega))
 unfold spec_chStill.f
 exact key L [] [] rfl (Nat.le_refl _)
/-- The end that a further marble has on the smallest board. -/
def yE (r c : Int) (p : List S88) (e ns : List Int) (x : Int) : Int := endOn r c (bdOf r c p (runAll r c p e ns).2.2.1) e x
def nE (r c : Int) (p : List S88) (e ns : List Int) (x : Int) : Nat := cntOf r c p (e ++ [x]) (ns ++ [yE r c p e ns x])
def shScan (r c : Int) (p : List S88) (e ns : List Int) : Nat → Int → Int → Nat → Int × Nat
 | 0,_,b,q => (b,q)
 | m + 1,x,b,q => if nE r c p e ns x < q then shScan r c p e ns m (x + 1) x (nE r c p e ns x) else shScan r c p e ns m (x + 1) b q
def shBest (r c : Int) (p : List S88) (e ns : List Int) : Int := (shScan r c p e ns c.toNat 0 (-1) (cntOf r c p e ns)).1
def shGo (r c : Int) (p : List S88) : Nat → List Int → List Int → List Int × List Int
 | 0,e,ns => (e,ns)
 | m + 1,e,ns => if 1 < cntOf r c p e ns ∧ e.length < 8 then (if shBest r c p e ns < 0 then (e,ns) else shGo r c p m (e ++ [shBest r c p e ns]) (ns ++ [yE r c p e ns (shBest r c p e ns)])) else (e,ns)
theorem shScan_in (r c : Int) (p : List S88) (e ns : List Int) : ∀ (m : Nat) (x b : Int) (q : Nat),0 ≤ x → b < x → (shScan r c p e ns m x b q).1 = b ∨ (0 ≤ (shScan r c p e ns m x b q).1 ∧ (shScan r c p e ns m x b q).1 < x + m)
 | 0,_,_,_,_,_ => Or.inl rfl
 | m + 1,x,b,q,h0,h1 => by
  rw [shScan]
  split
  ·rcases shScan_in r c p e ns m (x + 1) x (nE r c p e ns x) (by omega) (by omega) with h | h
   ·rw [h]; omega
   ·omega
  ·rcases shScan_in r c p e ns m (x + 1) b q (by omega) (by omega) with h | h
   ·exact Or.inl h
   ·omega
theorem yE_in (r c : Int) (p : List S88) (e ns : List Int) {x : Int} (x0 : 0 ≤ x) (x1 : x < c) : 0 ≤ yE r c p e ns x ∧ yE r c p e ns x ≤ c + 1 := endOn_in _ _ x0 x1
theorem specScan {r c : Int} {p : List S88} {e ns : List Int} (g : chGood r c p e ns = true) (h8 : e.length < 8) (hne : (solAll r c p e ns).length ≠ 0) (a0 : Int) (l2 : List S88) (l3 l4 : List Int) {v : Int × Int × List S88 × List Int × List Int × Bool} : ∀ (m : Nat) (x b : Int) (q : Nat) (lf : List S50),x + m = c → 0 ≤ x → b < x → lf.length = q → (0 ≤ b → lf = solAll r c p (e ++ [b]) (ns ++ [yE r c p e ns b])) → ((shScan r c p e ns m x b q).1 < 0 → v = (r,c,p,e,ns,true)) → (0 ≤ (shScan r c p e ns m x b q).1 → Ev (fun k => spec_SharpenChallenge.l0 k (solAll r c p (e ++ [(shScan r c p e ns m x b q).1]) (ns ++ [yE r c p e ns (shScan r c p e ns m x b q).1])) a0 c l2 l3 l4 r c p (e ++ [(shScan r c p e ns m x b q).1]) (ns ++ [yE r c p e ns (shScan r c p e ns m x b q).1])) v) → Ev (fun k => spec_SharpenChallenge.l1 k (solAll r c p e ns) b lf x a0 c l2 l3 l4 r c p e ns) v := by
 have d := chGood_dims g
 have c4 := inR_iff.1 d.2.1
 have p6 := inR_iff.1 d.2.2.1
 have e8 := inR_iff.1 d.2.2.2.1
 have hS : Ev (fun k => spec_chSmallest.f k (solAll r c p e ns)) (r,c,bdOf r c p (runAll r c p e ns).2.2.1) := by
  rcases chSmallest_ev g with ⟨h1,_⟩ | ⟨_,_,h3⟩
  ·exact absurd h1 hne
  ·exact h3
 intro m
 induction m with
 | zero =>
  intro x b q lf hm h0 h1 hq hb hv1 hv2
  refine Ev.succ ?_
  simp only [spec_SharpenChallenge.l1]
  refine Ev.neg (by omega) ?_
  rw [shScan] at hv1 hv2
  by_cases z : b < 0
  ·exact Ev.pos z (Ev.ret (hv1 z).symm)
  ·rw [hb (by omega)]
   refine Ev.neg z (Ev.bind hS (Ev.bind (chAdd_ev p (by omega) e ns (ents_in g) (by omega) (by have := d.2.2.2.2.1; omega) (by omega) (by omega) (bdOf_good g _)) ?_))
   exact hv2 (by dsimp only; omega)
 | succ m ih =>
  intro x b q lf hm h0 h1 hq hb hv1 hv2
  refine Ev.succ ?_
  simp only [spec_SharpenChallenge.l1]
  rw [w64 (x := x + 1) (by omega) (by omega)]
  refine Ev.pos (by omega) (Ev.bind hS (Ev.bind (chEndOn_ev r c p e ns (ents_in g) (by omega) h0 (by omega) (bdOf_good g _)) (Ev.bind (chStill_ev g h0 (by omega) _) ?_)))
  dsimp only
  rw [show endOn r c (bdOf r c p (runAll r c p e ns).2.2.1) e x = yE r c p e ns x from rfl,← solAll_snoc r c p e ns x _ d.2.2.2.2.1]
  have hn : (solAll r c p (e ++ [x]) (ns ++ [yE r c p e ns x])).length = nE r c p e ns x := solAll_len _ _ _ _ _
  rw [shScan] at hv1 hv2
  by_cases z : nE r c p e ns x < q
  ·rw [if_pos z] at hv1 hv2
   exact Ev.pos (by rw [hn,hq]; omega) (ih (x + 1) x _ _ (by omega) (by omega) (by omega) hn (fun _ => rfl) hv1 hv2)
  ·rw [if_neg z] at hv1 hv2
   exact Ev.neg (by rw [hn,hq]; omega) (ih (x + 1) b q lf (by omega) (by omega) (by omega) hq hb hv1 hv2)
theorem implScan {r c : Int} {p : List S88} {e ns : List Int} (g : chGood r c p e ns = true) (h8 : e.length < 8) (a0 : Int) (l2 : List S88) (l3 l4 : List Int) {v : Int × Int × List S88 × List Int × List Int × Bool} : ∀ (m : Nat) (x b : Int) (q : Nat) (b0 b1 : Int) (b2 : List S88) (b3 b4 : List Int),x + m = c → 0 ≤ x → b < x → q ≤ cntOf r c p e ns → (b < 0 → q = cntOf r c p e ns) → (0 ≤ b → q < cntOf r c p e ns ∧ b0 = r ∧ b1 = c ∧ b2 = p ∧ b3 = e ++ [b] ∧ b4 = ns ++ [yE r c p e ns b] ∧ q = nE r c p e ns b) → ((shScan r c p e ns m x b q).1 < 0 → v = (r,c,p,e,ns,true)) → (0 ≤ (shScan r c p e ns m x b q).1 → Ev (fun k => impl_SharpenChallenge.l0 k ((nE r c p e ns (shScan r c p e ns m x b q).1 : Nat) : Int) a0 c l2 l3 l4 r c p (e ++ [(shScan r c p e ns m x b q).1]) (ns ++ [yE r c p e ns (shScan r c p e ns m x b q).1])) v) → Ev (fun k => impl_SharpenChallenge.l1 k ((cntOf r c p e ns : Nat) : Int) (q : Int) x a0 c l2 l3 l4 r c p e ns r c (bdOf r c p (runAll r c p e ns).2.2.1) b0 b1 b2 b3 b4) v := by
 have d := chGood_dims g
 have c4 := inR_iff.1 d.2.1
 intro m
 induction m with
 | zero =>
  intro x b q b0 b1 b2 b3 b4 hm h0 h1 hq hb1 hb2 hv1 hv2
  refine Ev.succ ?_
  simp only [impl_SharpenChallenge.l1]
  refine Ev.neg (by omega) ?_
  rw [shScan] at hv1 hv2
  by_cases z : b < 0
  ·exact Ev.pos (by rw [hb1 z]) (Ev.ret (hv1 z).symm)
  ·obtain ⟨w1,rfl,rfl,rfl,rfl,rfl,w2⟩ := hb2 (by omega)
   refine Ev.neg (by omega) ?_
   rw [w2]
   exact hv2 (by dsimp only; omega)
 | succ m ih =>
  intro x b q b0 b1 b2 b3 b4 hm h0 h1 hq hb1 hb2 hv1 hv2
  have hy := yE_in r c p e ns h0 (show x < c by omega)
  have g3 := chGood_snoc g h0 (show x < c by omega) hy.1 hy.2 h8
  refine Ev.succ ?_
  simp only [impl_SharpenChallenge.l1]
  rw [w64 (x := x + 1) (by omega) (by omega)]
  refine Ev.pos (by omega) (Ev.bind (withEntry_ev g h0 (by omega) (bdOf_good g _)) (Ev.bind (count_ev g3) ?_))
  dsimp only
  rw [show endOn r c (bdOf r c p (runAll r c p e ns).2.2.1) e x = yE r c p e ns x from rfl,show cntOf r c p (e ++ [x]) (ns ++ [yE r c p e ns x]) = nE r c p e ns x from rfl]
  rw [shScan] at hv1 hv2
  by_cases z : nE r c p e ns x < q
  ·rw [if_pos z] at hv1 hv2
   exact Ev.pos (by omega) (ih (x + 1) x _ r c p _ _ (by omega) (by omega) (by omega) (by omega) (by omega) (fun _ => ⟨by omega,rfl,rfl,rfl,rfl,rfl,rfl⟩) hv1 hv2)
  ·rw [if_neg z] at hv1 hv2
   exact Ev.neg (by omega) (ih (x + 1) b q b0 b1 b2 b3 b4 (by omega) (by omega) (by omega) hq hb1 hb2 hv1 hv2)
theorem specSh {r c : Int} {p : List S88} (a0 : Int) (l2 : List S88) (l3 l4 : List Int) : ∀ (m : Nat) (e ns : List Int),chGood r c p e ns = true → e.length + m = 9 → Ev (fun k => spec_SharpenChallenge.l0 k (solAll r c p e ns) a0 c l2 l3 l4 r c p e ns) (r,c,p,(shGo r c p m e ns).1,(shGo r c p m e ns).2,true) := by
 intro m
 induction m with
 | zero =>
  intro e ns g h
  have e8 := inR_iff.1 (chGood_dims g).2.2.2.1
  omega
 | succ m ih =>
  intro e ns g h
  have c4 := inR_iff.1 (chGood_dims g).2.1
  have hl := solAll_len r c p e ns
  refine Ev.succ ?_
  simp only [spec_SharpenChallenge.l0]
  rw [hl,shGo]
  by_cases z : 1 < cntOf r c p e ns
  case neg =>
   rw [if_neg (fun w => z w.1)]
   refine Ev.neg (by omega) (Ev.succ ?_)
   simp only [spec_SharpenChallenge.j1]
   exact Ev.neg (by simp) (Ev.now _)
  refine Ev.pos (by omega) (Ev.succ ?_)
  simp only [spec_SharpenChallenge.j1]
  by_cases h8 : e.length < 8
  case neg =>
   rw [if_neg (fun w => h8 w.2)]
   exact Ev.neg (by simp; omega) (Ev.now _)
  rw [if_pos ⟨z,h8⟩]
  refine Ev.pos (by simp; omega) (specScan g h8 (by omega) a0 l2 l3 l4 c.toNat 0 (-1) (cntOf r c p e ns) _ (by omega) (by omega) (by omega) hl (fun w => by omega) (fun w => ?_) (fun w => ?_))
  ·rw [if_pos (show shBest r c p e ns < 0 from w)]
  ·have hb := shScan_in r c p e ns c.toNat 0 (-1) (cntOf r c p e ns) (by omega) (by omega)
   have hb2 : 0 ≤ shBest r c p e ns ∧ shBest r c p e ns < c := by unfold shBest; omega
   have hy := yE_in r c p e ns hb2.1 hb2.2
   rw [if_neg (show ¬ shBest r c p e ns < 0 by omega)]
   exact ih _ _ (chGood_snoc g hb2.1 hb2.2 hy.1 hy.2 h8) (by simp; omega)
theorem implSh {r c : Int} {p : List S88} (a0 : Int) (l2 : List S88) (l3 l4 : List Int) : ∀ (m : Nat) (e ns : List Int),chGood r c p e ns = true → e.length + m = 9 → Ev (fun k => impl_SharpenChallenge.l0 k ((cntOf r c p e ns : Nat) : Int) a0 c l2 l3 l4 r c p e ns) (r,c,p,(shGo r c p m e ns).1,(shGo r c p m e ns).2,true) := by
 intro m
 induction m with
 | zero =>
  intro e ns g h
  have e8 := inR_iff.1 (chGood_dims g).2.2.2.1
  omega
 | succ m ih =>
  intro e ns g h
  have c4 := inR_iff.1 (chGood_dims g).2.1
  have hl := solAll_len r c p e ns
  refine Ev.succ ?_
  simp only [impl_SharpenChallenge.l0]
  rw [shGo]
  by_cases z : 1 < cntOf r c p e ns
  case neg =>
   rw [if_neg (fun w => z w.1)]
   refine Ev.neg (by omega) (Ev.succ ?_)
   simp only [impl_SharpenChallenge.j1]
   exact Ev.neg (by simp) (Ev.now _)
  refine Ev.pos (by omega) (Ev.succ ?_)
  simp only [impl_SharpenChallenge.j1]
  by_cases h8 : e.length < 8
  case neg =>
   rw [if_neg (fun w => h8 w.2)]
   exact Ev.neg (by simp; omega) (Ev.now _)
  rw [if_pos ⟨z,h8⟩]
  have hS : Ev (fun k => impl_smallestOf.f k r c p e ns) (r,c,bdOf r c p (runAll r c p e ns).2.2.1,true) := by
   rcases chSmallest_ev g with ⟨h1,_⟩ | ⟨_,h2,_⟩
   ·omega
   ·refine Ev.cast (smallest_ev g) ?_
    unfold outS
    rw [if_neg h2]
  refine Ev.pos (by simp; omega) (Ev.bind hS (implScan g h8 a0 l2 l3 l4 c.toNat 0 (-1) (cntOf r c p e ns) 0 0 [] [] [] (by omega) (by omega) (by omega) (Nat.le_refl _) (fun _ => rfl) (fun w => by omega) (fun w => ?_) (fun w => ?_)))
  ·rw [if_pos (show shBest r c p e ns < 0 from w)]
  ·have hb := shScan_in r c p e ns c.toNat 0 (-1) (cntOf r c p e ns) (by omega) (by omega)
   have hb2 : 0 ≤ shBest r c p e ns ∧ shBest r c p e ns < c := by unfold shBest; omega
   have hy := yE_in r c p e ns hb2.1 hb2.2
   rw [if_neg (show ¬ shBest r c p e ns < 0 by omega)]
   exact ih _ _ (chGood_snoc g hb2.1 hb2.2 hy.1 hy.2 h8) (by simp; omega)
def sharpA (r c : Int) (p : List S88) (e ns : List Int) : Int × Int × List S88 × List Int × List Int × Bool := if playA r c p e ns = true ∧ cntOf r c p e ns ≠ 0 then (r,c,p,(shGo r c p (9 - e.length) e ns).1,(shGo r c p (9 - e.length) e ns).2,true) else (0,0,[],[],[],false)
theorem specSharp_ev (r c : Int) (p : List S88) (e ns : List Int) (hp : p.length ≤ 1048576) (he : e.length ≤ 1048576) (hn : ns.length ≤ 1048576) : Ev (fun k => spec_SharpenChallenge.f k r c p e ns) (sharpA r c p e ns) := by
 unfold spec_SharpenChallenge.f sharpA
 by_cases g : playA r c p e ns = true
 case neg =>
  rw [if_neg (fun o => g o.1)]
  exact Ev.bind (chGoodP_ev r c p e ns hp he hn) (Ev.neg g (Ev.now _))
 have g2 := playA_good g
 have d := chGood_dims g2
 have e8 := inR_iff.1 d.2.2.2.1
 have p6 := inR_iff.1 d.2.2.1
 have hl := solAll_len r c p e ns
 refine Ev.bind (chGoodP_ev r c p e ns hp he hn) (Ev.pos g (Ev.bind (Ev.val (chOwn_ok r c p e ns (by omega) (by omega) (by have := d.2.2.2.2.1; omega))) (Ev.bind (chSolutions_ev g2) ?_)))
 by_cases z : cntOf r c p e ns = 0
 ·rw [if_neg (fun o => o.2 z)]
  exact Ev.pos (by omega) (Ev.now _)
 ·rw [if_pos ⟨g,z⟩]
  exact Ev.neg (by omega) (specSh r p e ns (9 - e.length) e ns g2 (by omega))
theorem implSharp_ev (r c : Int) (p : List S88) (e ns : List Int) : Ev (fun k => impl_SharpenChallenge.f k r c p e ns) (sharpA r c p e ns) := by
 unfold impl_SharpenChallenge.f sharpA
 by_cases g : playA r c p e ns = true
 case neg =>
  rw [if_neg (fun o => g o.1)]
  exact Ev.bind (isPlayedP_ev r c p e ns) (Ev.neg g (Ev.now _))
 have g2 := playA_good g
 have d := chGood_dims g2
 have e8 := inR_iff.1 d.2.2.2.1
 have p6 := inR_iff.1 d.2.2.1
 refine Ev.bind (isPlayedP_ev r c p e ns) (Ev.pos g (Ev.bind (count_ev g2) ?_))
 by_cases z : cntOf r c p e ns = 0
 ·rw [if_neg (fun o => o.2 z)]
  exact Ev.pos (by omega) (Ev.now _)
 ·rw [if_pos ⟨g,z⟩]
  exact Ev.neg (by omega) (Ev.bind (Ev.val (copyCh_ok r c p e ns (by omega) (by omega) (by have := d.2.2.2.2.1; omega))) (implSh r p e ns (9 - e.length) e ns g2 (by omega)))
theorem shGo_len (r c : Int) (p : List S88) : ∀ (m : Nat) (e ns : List Int),(shGo r c p m e ns).1.length ≤ e.length + m ∧ (shGo r c p m e ns).2.length ≤ ns.length + m
 | 0,_,_ => ⟨Nat.le_refl _,Nat.le_refl _⟩
 | m + 1,e,ns => by
  rw [shGo]
  split
  ·split
   ·dsimp only; omega
   ·have := shGo_len r c p m (e ++ [shBest r c p e ns]) (ns ++ [yE r c p e ns (shBest r c p e ns)])
    simp only [List.length_append,List.length_cons,List.length_nil] at this
    omega
  ·dsimp only; omega
def mkI : Nat → Int → List Int
 | 0,_ => []
 | n + 1,k => k :: mkI n (k + 1)
def mkC : Nat → Int → List S88
 | 0,_ => []
 | n + 1,k => ⟨k,k + 1⟩ :: mkC n (k + 2)
theorem mkI_len : ∀ (n : Nat) (k : Int),(mkI n k).length = n
 | 0,_ => rfl
 | n + 1,k => by rw [mkI,List.length_cons,mkI_len n]
theorem mkC_len : ∀ (n : Nat) (k : Int),(mkC n k).length = n
 | 0,_ => rfl
 | n + 1,k => by rw [mkC,List.length_cons,mkC_len n]
theorem markIL_ev : ∀ (m : Nat) (pre l : List Int) (k : Int),l.length = m → pre.length + m ≤ 4294967296 → 0 ≤ k → k + m ≤ 4294967296 → Ev (fun r => laws_markIntS.l0 r (pre ++ l) k (pre.length : Int)) (k + m,pre ++ mkI m k) := by
 intro m
 induction m with
 | zero =>
  intro pre l k hl h1 h2 h3
  obtain rfl := List.eq_nil_of_length_eq_zero hl
  refine Ev.succ ?_
  simp only [laws_markIntS.l0]
  rw [List.append_nil]
  exact Ev.neg (by omega) (Ev.ret (by simp [mkI]))
 | succ m ih =>
  intro pre l k hl h1 h2 h3
  cases l with
  | nil => simp at hl
  | cons x l =>
   simp only [List.length_cons] at hl
   refine Ev.succ ?_
   simp only [laws_markIntS.l0]
   refine Ev.pos (by simp; omega) (Ev.pos (by omega) ?_)
   rw [Int.toNat_natCast,set_at _ _ _ _ _ rfl,w64 (x := k + 1) (by omega) (by omega),w64 (x := (pre.length : Int) + 1) (by omega) (by omega)]
   have e := ih (pre ++ [k]) l (k + 1) (by omega) (by simp; omega) (by omega) (by omega)
   rw [List.append_assoc,List.length_append] at e
   have e2 : (((pre.length + [k].length : Nat)) : Int) = (pre.length : Int) + 1 := by simp
   rw [e2] at e
   refine Ev.cast e ?_
   rw [mkI,List.append_assoc]
   refine Prod.ext ?_ rfl
   simp
   omega
theorem markIntS_ev (l : List Int) (k : Int) (h1 : l.length ≤ 2147483648) (h2 : 0 ≤ k) (h3 : k ≤ 2147483648) : Ev (fun r => laws_markIntS.f r l k) (k + l.length,mkI l.length k) := by
 have := markIL_ev l.length [] l k rfl (by simp; omega) h2 (by omega)
 exact this
theorem heldIL_ev : ∀ (m : Nat) (pre : List Int) (k : Int),pre.length + m ≤ 4294967296 → 0 ≤ k → k + m ≤ 4294967296 → Ev (fun r => laws_heldIntS.l0 r (pre ++ mkI m k) k (pre.length : Int)) (k + m) := by
 intro m
 induction m with
 | zero =>
  intro pre k h1 h2 h3
  refine Ev.succ ?_
  simp only [laws_heldIntS.l0,mkI]
  exact Ev.neg (by simp) (Ev.ret (by simp))
 | succ m ih =>
  intro pre k h1 h2 h3
  refine Ev.succ ?_
  simp only [laws_heldIntS.l0]
  have hr : rd (pre ++ mkI (m + 1) k) (pre.length : Int) = k := by
   rw [rd_at _ _ (by rw [List.length_append,mkI_len]; omega),List.getElem_append_right (Nat.le_refl _)]
   simp [mkI]
  rw [hr,w64 (x := k + 1) (by omega) (by omega),w64 (x := (pre.length : Int) + 1) (by omega) (by omega)]
  refine Ev.pos (by rw [List.length_append,mkI_len]; omega) (Ev.pos (by omega) (Ev.pos rfl ?_))
  have e := ih (pre ++ [k]) (k + 1) (by simp; omega) (by omega) (by omega)
  rw [List.append_assoc,List.length_append] at e
  have e2 : (((pre.length + [k].length : Nat)) : Int) = (pre.length : Int) + 1 := by simp
  rw [e2] at e
  exact Ev.cast e (by omega)
theorem heldIntS_ev (n : Nat) (k : Int) (h1 : n ≤ 2147483648) (h2 : 0 ≤ k) (h3 : k ≤ 2147483648) : Ev (fun r => laws_heldIntS.f r (mkI n k) k) (k + n) := by
 have := heldIL_ev n [] k (by simp; omega) h2 (by omega)
 exact this
theorem markCL_ev : ∀ (m : Nat) (pre l : List S88) (k : Int),l.length = m → pre.length + m ≤ 4294967296 → 0 ≤ k → k + 2 * m ≤ 4294967296 → Ev (fun r => laws_markCellS.l0 r (pre ++ l) k (pre.length : Int)) (k + 2 * m,pre ++ mkC m k) := by
 intro m
 induction m with
 | zero =>
  intro pre l k hl h1 h2 h3
  obtain rfl := List.eq_nil_of_length_eq_zero hl
  refine Ev.succ ?_
  simp only [laws_markCellS.l0]
  rw [List.append_nil]
  exact Ev.neg (by omega) (Ev.ret (by simp [mkC]))
 | succ m ih =>
  intro pre l k hl h1 h2 h3
  cases l with
  | nil => simp at hl
  | cons x l =>
   simp only [List.length_cons] at hl
   refine Ev.succ ?_
   simp only [laws_markCellS.l0]
   refine Ev.pos (by simp; omega) (Ev.pos (by omega) (Ev.bind (Ev.now _) ?_))
   rw [Int.toNat_natCast,set_at _ _ _ _ _ rfl,set_at _ _ _ _ _ rfl,w64 (x := k + 1) (by omega) (by omega),w64 (x := k + 1 + 1) (by omega) (by omega),w64 (x := (pre.length : Int) + 1) (by omega) (by omega)]
   have hr : (rd_T88 (pre ++ (⟨k,(rd_T88 (pre ++ x :: l) (pre.length : Int)).f1⟩ : S88) :: l) (pre.length : Int)).f0 = k := by
    rw [rdC_at _ _ (by simp),List.getElem_append_right (Nat.le_refl _)]
    simp
   rw [hr]
   have e := ih (pre ++ [⟨k,k + 1⟩]) l (k + 2) (by omega) (by simp; omega) (by omega) (by omega)
   rw [List.append_assoc,List.length_append] at e
   have e2 : (((pre.length + [(⟨k,k + 1⟩ : S88)].length : Nat)) : Int) = (pre.length : Int) + 1 := by simp
   rw [e2] at e
   have e3 : k + 1 + 1 = k + 2 := by omega
   rw [e3]
   refine Ev.cast e ?_
   rw [mkC,List.append_assoc]
   refine Prod.ext ?_ rfl
   simp
   omega
theorem markCellS_ev (l : List S88) (k : Int) (h1 : l.length ≤ 1073741824) (h2 : 0 ≤ k) (h3 : k ≤ 2147483648) : Ev (fun r => laws_markCellS.f r l k) (k + 2 * l.length,mkC l.length k) := by
 have := markCL_ev l.length [] l k rfl (by simp; omega) h2 (by omega)
 exact this
theorem heldCL_ev : ∀ (m : Nat) (pre : List S88) (k : Int),pre.length + m ≤ 4294967296 → 0 ≤ k → k + 2 * m ≤ 4294967296 → Ev (fun r => laws_heldCellS.l0 r (pre ++ mkC m k) k (pre.length : Int)) (k + 2 * m) := by
 intro m
 induction m with
 | zero =>
  intro pre k h1 h2 h3
  refine Ev.succ ?_
  simp only [laws_heldCellS.l0,mkC]
  exact Ev.neg (by simp) (Ev.ret (by simp))
 | succ m ih =>
  intro pre k h1 h2 h3
  refine Ev.succ ?_
  simp only [laws_heldCellS.l0]
  have hr : rd_T88 (pre ++ mkC (m + 1) k) (pre.length : Int) = ⟨k,k + 1⟩ := by
   rw [rdC_at _ _ (by rw [List.length_append,mkC_len]; omega),List.getElem_append_right (Nat.le_refl _)]
   simp [mkC]
  rw [hr,w64 (x := k + 1) (by omega) (by omega),w64 (x := k + 1 + 1) (by omega) (by omega),w64 (x := (pre.length : Int) + 1) (by omega) (by omega)]
  refine Ev.pos (by rw [List.length_append,mkC_len]; omega) (Ev.pos (by omega) (Ev.pos rfl (Ev.pos rfl ?_)))
  have e := ih (pre ++ [⟨k,k + 1⟩]) (k + 2) (by simp; omega) (by omega) (by omega)
  rw [List.append_assoc,List.length_append] at e
  have e2 : (((pre.length + [(⟨k,k + 1⟩ : S88)].length : Nat)) : Int) = (pre.length : Int) + 1 := by simp
  rw [e2] at e
  have e3 : k + 1 + 1 = k + 2 := by omega
  rw [e3]
  exact Ev.cast e (by omega)
theorem heldCellS_ev (n : Nat) (k : Int) (h1 : n ≤ 1073741824) (h2 : 0 ≤ k) (h3 : k ≤ 2147483648) : Ev (fun r => laws_heldCellS.f r (mkC n k) k) (k + 2 * n) := by
 have := heldCL_ev n [] k (by simp; omega) h2 (by omega)
 exact this
theorem markChallenge_ev (R C : Int) (p : List S88) (e n : List Int) (hp : p.length ≤ 1048576) (he : e.length ≤ 1048576) (hn : n.length ≤ 1048576) :
  Ev (fun k => laws_markChallenge.f k R C p e n 1) (1 + 2 * p.length + e.length + n.length,mkC p.length 1,mkI e.length (1 + 2 * p.length),mkI n.length (1 + 2 * p.length + e.length)) := by
 unfold laws_markChallenge.f
 exact Ev.bind (markCellS_ev p 1 (by omega) (by omega) (by omega)) (Ev.bind (markIntS_ev e _ (by omega) (by omega) (by omega)) (Ev.bind (markIntS_ev n _ (by omega) (by omega) (by omega)) (Ev.now _)))
theorem heldChallenge_ev (R C : Int) (a b c : Nat) (hp : a ≤ 1048576) (he : b ≤ 1048576) (hn : c ≤ 1048576) :
  Ev (fun k => laws_heldChallenge.f k R C (mkC a 1) (mkI b (1 + 2 * a)) (mkI c (1 + 2 * a + b)) 1) (1 + 2 * a + b + c) := by
 unfold laws_heldChallenge.f
 refine Ev.bind (heldCellS_ev a 1 (by omega) (by omega) (by omega)) (Ev.neg (by omega) (Ev.bind (heldIntS_ev b _ (by omega) (by omega) (by omega)) (Ev.neg (by omega) (Ev.bind (heldIntS_ev c _ (by omega) (by omega) (by omega)) (Ev.neg (by omega) (Ev.now _))))))
theorem szChallenge_ok (r c : Int) (p : List S106) (e n : List Int) (hp : p.length ≤ maxLen) (he : e.length ≤ maxLen) (hn : n.length ≤ maxLen) :
  (∃ t,laws_szChallenge.f r c p e n 1048576 = some t ∧ t < 0) ∨ (p.length ≤ 1048576 ∧ e.length ≤ 1048576 ∧ n.length ≤ 1048576 ∧ ∃ t,laws_szChallenge.f r c p e n 1048576 = some t ∧ ¬ t < 0) := by
 have hm : maxLen = 9223372036854775807 := by decide
 unfold laws_szChallenge.f laws_szCellS.f laws_szIntS.f
 rw [w64 (x := 1048576 - (p.length : Int)) (by omega) (by omega)]
 by_cases h1 : (1048576 : Int) - (p.length : Int) < 0
 ·left
  rw [if_pos h1,Option.bind_some,if_pos (by omega)]
  exact ⟨_,rfl,by omega⟩
 rw [if_neg h1,Option.bind_some,if_neg h1,w64 (x := 1048576 - (p.length : Int) - (e.length : Int)) (by omega) (by omega)]
 by_cases h2 : (1048576 : Int) - (p.length : Int) - (e.length : Int) < 0
 ·left
  rw [if_pos h2,Option.bind_some,if_pos (by omega)]
  exact ⟨_,rfl,by omega⟩
 rw [if_neg h2,Option.bind_some,if_neg h2,w64 (x := 1048576 - (p.length : Int) - (e.length : Int) - (n.length : Int)) (by omega) (by omega)]
 by_cases h3 : (1048576 : Int) - (p.length : Int) - (e.length : Int) - (n.length : Int) < 0
 ·left
  rw [if_pos h3,Option.bind_some,if_pos (by omega)]
  exact ⟨_,rfl,by omega⟩
 right
 rw [if_neg h3,Option.bind_some,if_neg h3]
 exact ⟨by omega,by omega,by omega,_,rfl,h3⟩
theorem toChallenge_ev (r c : Int) (p : List S106) (e n : List Int) (hp : p.length ≤ 1048576) (he : e.length ≤ 1048576) (hn : n.length ≤ 1048576) : Ev (fun k => laws_toChallenge.f k r c p e n) (r,c,p.map cv,e,n) := by
 unfold laws_toChallenge.f
 exact Ev.bind (toCellS_ev p (by omega)) (Ev.bind (toIntS_ev e (by omega)) (Ev.bind (toIntS_ev n (by omega)) (Ev.now _)))
theorem eqChallenge_ev (r c r' c' : Int) (p p' : List S88) (e n e' n' : List Int) (hp : p.length ≤ 1048576) (he : e.length ≤ 1048576) (hn : n.length ≤ 1048576) :
  Ev (fun k => laws_eqChallenge.f k r c p e n r' c' p' e' n') (decide (r = r' ∧ c = c' ∧ p = p' ∧ e = e' ∧ n = n')) := by
 unfold laws_eqChallenge.f
 by_cases h1 : r = r'
 case neg => exact Ev.neg h1 (Ev.ret (by simp [h1]))
 refine Ev.pos h1 ?_
 by_cases h2 : c = c'
 case neg => exact Ev.neg h2 (Ev.ret (by simp [h2]))
 refine Ev.pos h2 (Ev.bind (eqCellS_ev p p' (by omega)) ?_)
 by_cases h3 : p = p'
 case neg => exact Ev.neg (by simp [h3]) (Ev.ret (by simp [h3]))
 refine Ev.pos (by simp [h3]) (Ev.bind (eqIntS_ev e e' (by omega)) ?_)
 by_cases h4 : e = e'
 case neg => exact Ev.neg (by simp [h4]) (Ev.ret (by simp [h4]))
 refine Ev.pos (by simp [h4]) (Ev.bind (eqIntS_ev n n' (by omega)) ?_)
 by_cases h5 : n = n'
 case neg => exact Ev.neg (by simp [h5]) (Ev.ret (by simp [h5]))
 exact Ev.pos (by simp [h5]) (Ev.ret (by simp [h1,h2,h3,h4,h5]))
theorem sharpA_len (r c : Int) (p : List S88) (e ns : List Int) (hp : p.length ≤ 1048576) (he : e.length ≤ 1048576) (hn : ns.length ≤ 1048576) : (sharpA r c p e ns).2.2.1.length ≤ 1048576 ∧ (sharpA r c p e ns).2.2.2.1.length ≤ 1048576 ∧ (sharpA r c p e ns).2.2.2.2.1.length ≤ 1048576 := by
 unfold sharpA
 by_cases g : playA r c p e ns = true ∧ cntOf r c p e ns ≠ 0
 case neg => rw [if_neg g]; simp
 rw [if_pos g]
 have d := chGood_dims (playA_good g.1)
 have e8 := inR_iff.1 d.2.2.2.1
 have hn2 := d.2.2.2.2.1
 have := shGo_len r c p (9 - e.length) e ns
 dsimp only
 omega
theorem FnExactSharpenChallenge : StmtFnExactSharpenChallenge.Stmt := by
 intro r c p e n _ _ hp he hn
 refine Ev.rounds ?_
 unfold laws_FnExactSharpenChallenge.f
 rcases szChallenge_ok r c p e n hp.2 he.2 hn.2 with ⟨t,h,ht⟩ | ⟨hp,he,hn,t,h,ht⟩
 ·exact Ev.bind (Ev.val h) (Ev.pos ht (Ev.now _))
 have hpm : (p.map cv).length ≤ 1048576 := by simp; omega
 have hto := toChallenge_ev r c p e n hp he hn
 have hl := sharpA_len r c (p.map cv) e n hpm he hn
 generalize hA : sharpA r c (p.map cv) e n = A at hl
 have hS := specSharp_ev r c (p.map cv) e n hpm he hn
 have hI := implSharp_ev r c (p.map cv) e n
 rw [hA] at hS hI
 have l1 : A.2.2.1.length ≤ 1048576 := by omega
 have l2 : A.2.2.2.1.length ≤ 1048576 := by omega
 have l3 : A.2.2.2.2.1.length ≤ 1048576 := by omega
 have heq : Ev (fun k => laws_eqChallenge.f k A.1 A.2.1 A.2.2.1 A.2.2.2.1 A.2.2.2.2.1 A.1 A.2.1 A.2.2.1 A.2.2.2.1 A.2.2.2.2.1) true := Ev.cast (eqChallenge_ev _ _ _ _ _ _ _ _ _ _ l1 l2 l3) (by simp)
 refine Ev.bind (Ev.val h) (Ev.neg ht (Ev.bind hto (Ev.bind hS (Ev.bind hto (Ev.bind hI (Ev.bind heq (Ev.pos rfl ?_)))))))
 refine Ev.succ ?_
 simp only [laws_FnExactSharpenChallenge.j0]
 refine Ev.neg (by simp) (Ev.bind hto (Ev.bind (eqChallenge_ev _ _ _ _ _ _ _ _ _ _ hpm he hn) (Ev.pos (by simp) ?_)))
 refine Ev.bind (markChallenge_ev _ _ _ _ _ hpm he hn) (Ev.neg (by omega) (Ev.bind heq (Ev.pos rfl (Ev.succ ?_))))
 simp only [laws_FnExactSharpenChallenge.j1]
 have hh := heldChallenge_ev A.1 A.2.1 A.2.2.1.length A.2.2.2.1.length A.2.2.2.2.1.length l1 l2 l3
 refine Ev.neg (by simp) (Ev.bind (markChallenge_ev _ _ _ _ _ l1 l2 l3) (Ev.bind hh (Ev.neg (by omega) (Ev.pos rfl ?_))))
 refine Ev.bind hto (Ev.bind hI (Ev.bind heq (Ev.pos rfl (Ev.succ ?_))))
 simp only [laws_FnExactSharpenChallenge.j2]
 exact Ev.neg (by simp) (Ev.bind hh (Ev.neg (by omega) (Ev.pos rfl (Ev.now _))))
end Go.Proofs.Ytipaimgpmgbkiaa.Pure
