/- Proved: the pure statement of FnSearch, over numbers and lists; the lemmas on the printed functions that it takes. No further conditions. -/
import Derived.Test.YtnmffpfiichjgaaStmtFnSearch
import Derived.Test.YtnmffpfiichjgaaF2
import Derived.Test.YtnmffpfiichjgaaF3
import Derived.Test.YtnmffpfiichjgaaF4
import Derived.Test.YtnmffpfiichjgaaF5
import Derived.Test.YtnmffpfiichjgaaF6
import Derived.Test.YtnmffpfiichjgaaF7
namespace Go.Proofs.Ytnmffpfiichjgaa.Pure
open Go.RowKit Go.Proofs.Ytnmffpfiichjgaa.F Go.Proofs.YtnmffpfiichjgaaV.PrintWords Go.Proofs.YtnmffpfiichjgaaV.PrintLast Go.Proofs.Ytnmffpfiichjgaa
set_option linter.unusedVariables false

theorem Ev.succ {α : Type} {g : Nat → Option α} {r : α} (h : Ev (fun k => g (k + 1)) r) : Ev g r := Ev.step (fun _ => rfl) h
theorem Ev.pos {α : Type} {c : Prop} [Decidable c] {f g : Nat → Option α} {r : α} (hc : c) (h : Ev f r) : Ev (fun k => if c then f k else g k) r := Ev.congr (fun _ => if_pos hc) h
theorem Ev.neg {α : Type} {c : Prop} [Decidable c] {f g : Nat → Option α} {r : α} (hc : ¬ c) (h : Ev g r) : Ev (fun k => if c then f k else g k) r := Ev.congr (fun _ => if_neg hc) h
theorem Ev.ite {α : Type} {c : Prop} [Decidable c] {f g : Nat → Option α} {r s : α} (h : c → Ev f r) (h' : ¬ c → Ev g s) : Ev (fun k => if c then f k else g k) (if c then r else s) := by
 by_cases hc : c
 ·rw [if_pos hc]; exact Ev.pos hc (h hc)
 ·rw [if_neg hc]; exact Ev.neg hc (h' hc)
theorem Ev.ret {α : Type} {r s : α} (h : s = r) : Ev (fun _ => some s) r := by subst h; exact Ev.now _
theorem Ev.val {α : Type} {o : Option α} {r : α} (h : o = some r) : Ev (fun _ => o) r := ⟨0,fun _ _ => h⟩
theorem Ev.cast {α : Type} {g : Nat → Option α} {r s : α} (h : Ev g s) (e : s = r) : Ev g r := e ▸ h
theorem w64 {x : Int} (h : -9223372036854775808 ≤ x) (h' : x ≤ 9223372036854775807) : wrap64 x = x := by unfold wrap64; omega
theorem rd_at (l : List Int) (i : Nat) (h : i < l.length) : rd l (i : Int) = l[i] := by
 unfold rd
 rw [Int.toNat_natCast,List.getD_eq_getElem?_getD,List.getElem?_eq_getElem h]; rfl
theorem rdC_at (l : List S42) (i : Nat) (h : i < l.length) : rd_T42 l (i : Int) = l[i] := by
 unfold rd_T42
 rw [Int.toNat_natCast,List.getD_eq_getElem?_getD,List.getElem?_eq_getElem h]; rfl
def inR (x lo hi : Int) : Bool := decide (lo ≤ x) && decide (x ≤ hi)
theorem inR_iff {x lo hi : Int} : inR x lo hi = true ↔ lo ≤ x ∧ x ≤ hi := by unfold inR; simp
theorem inR_lo {x lo hi : Int} (h : x < lo) : inR x lo hi = false := Bool.eq_false_iff.mpr (fun g => absurd (inR_iff.1 g).1 (by omega))
theorem inR_hi {x lo hi : Int} (h : x > hi) : inR x lo hi = false := Bool.eq_false_iff.mpr (fun g => absurd (inR_iff.1 g).2 (by omega))
theorem l1In_ok (x lo hi : Int) : spec_l1In.f x lo hi = some (inR x lo hi) := by
 unfold spec_l1In.f inR
 by_cases h : lo ≤ x
 ·rw [if_pos (by omega)]; simp [h]
 ·rw [if_neg (by omega)]; simp [h]
def turning (c : S42) : Bool := decide (c.f0 = 3) || decide (c.f0 = 6)
def goodCell (c : S42) : Bool := inR c.f0 0 7 && (decide (c.f1 = 0) || (decide (c.f1 = 1) && turning c))
theorem turning_ok (c : S42) : spec_paTurning.f c.f0 c.f1 = some (turning c) := by
 unfold spec_paTurning.f turning
 by_cases h : c.f0 = 3
 ·rw [if_pos h]; simp [h]
 ·rw [if_neg h,decide_eq_false h,Bool.false_or]; rfl
theorem paGood_ok (c : S42) : spec_paGood.f c.f0 c.f1 = some (goodCell c) := by
 unfold spec_paGood.f goodCell
 rw [l1In_ok,Option.bind_some]
 by_cases h : inR c.f0 0 7 = true
 ·rw [if_pos h,h,Bool.true_and]
  by_cases h1 : c.f1 = 0
  ·rw [if_pos h1,decide_eq_true h1]; rfl
  ·rw [if_neg h1,decide_eq_false h1,Bool.false_or]
   by_cases h2 : c.f1 = 1
   ·rw [if_pos h2,turning_ok,Option.bind_some,decide_eq_true h2,Bool.true_and]
   ·rw [if_neg h2,decide_eq_false h2,Bool.false_and]
 ·rw [if_neg h,Bool.eq_false_iff.mpr h,Bool.false_and]
theorem IsCell_ok (c : S42) : impl_IsCell.f c.f0 c.f1 = some (goodCell c) := by
 unfold impl_IsCell.f goodCell turning inR
 by_cases h1 : c.f0 < 0
 ·rw [if_pos h1,decide_eq_false (show ¬ 0 ≤ c.f0 by omega)]; rfl
 rw [if_neg h1,decide_eq_true (show 0 ≤ c.f0 by omega)]
 by_cases h2 : c.f0 > 7
 ·rw [if_pos h2,decide_eq_false (show ¬ c.f0 ≤ 7 by omega)]; rfl
 rw [if_neg h2,decide_eq_true (show c.f0 ≤ 7 by omega)]
 by_cases h3 : c.f1 = 0
 ·rw [if_neg (by omega),if_neg (by omega),if_pos h3,decide_eq_true h3]; rfl
 rw [decide_eq_false h3]
 by_cases h4 : c.f1 = 1
 ·rw [if_neg (by omega),if_neg (by omega),if_neg h3,decide_eq_true h4]
  by_cases h5 : c.f0 = 3
  ·rw [if_pos h5,decide_eq_true h5]; rfl
  ·rw [if_neg h5,decide_eq_false h5]; rfl
 rw [decide_eq_false h4]
 by_cases h6 : c.f1 < 0
 ·rw [if_pos h6]; rfl
 ·rw [if_neg h6,if_pos (by omega)]; rfl
theorem cell_eq_iff (a b : S42) : (a.f0 == b.f0 && (a.f1 == b.f1)) = true ↔ a = b := by
 cases a; cases b; simp
instance : DecidableEq S42 := fun a b => if h : (a.f0 == b.f0 && (a.f1 == b.f1)) = true then isTrue ((cell_eq_iff a b).1 h) else isFalse fun e => h ((cell_eq_iff a b).2 e)
theorem set_at {α : Type} (p q : List α) (x y : α) (i : Nat) (hi : p.length = i) : (p ++ x :: q).set i y = p ++ y :: q := by
 subst hi; simp
theorem mulc {C q R : Int} (hC : 1 ≤ C) (h : q + 1 ≤ R) : C * q + C ≤ C * R := by
 have := Int.mul_le_mul_of_nonneg_left h (show 0 ≤ C by omega)
 rw [Int.mul_add,Int.mul_one] at this
 exact this
theorem mulb {x y m n : Int} (h0 : 0 ≤ x) (h1 : x ≤ m) (g0 : 0 ≤ y) (g1 : y ≤ n) : 0 ≤ x * y ∧ x * y ≤ m * n :=
 ⟨Int.mul_nonneg h0 g0,Int.mul_le_mul h1 g1 g0 (Int.le_trans h0 h1)⟩
structure GoodB (R C : Int) (cs : List S42) : Prop where
 r1 : 1 ≤ R
 r2 : R ≤ 10
 c1 : 1 ≤ C
 c2 : C ≤ 9
 len : (cs.length : Int) = R * C
 good : ∀ c ∈ cs,goodCell c = true
theorem GoodB.le {R C : Int} {cs : List S42} (h : GoodB R C cs) : 1 ≤ R * C ∧ R * C ≤ 90 := by
 have b := mulb (show 0 ≤ R by have := h.r1; omega) h.r2 (show 0 ≤ C by have := h.c1; omega) h.c2
 have b2 : 1 * 1 ≤ R * C := Int.mul_le_mul h.r1 h.c1 (by omega) (by have := h.r1; omega)
 omega
theorem GoodB.len90 {R C : Int} {cs : List S42} (h : GoodB R C cs) : cs.length ≤ 90 := by have := h.le; have := h.len; omega
theorem GoodB.idx {R C : Int} {cs : List S42} (h : GoodB R C cs) {r c : Int} (h0 : 0 ≤ r) (h1 : r < R) (h2 : 0 ≤ c) (h3 : c < C) : 0 ≤ r * C ∧ r * C ≤ 90 ∧ 0 ≤ r * C + c ∧ r * C + c < (cs.length : Int) := by
 have a := mulc h.c1 (show r + 1 ≤ R by omega)
 have b : 0 ≤ r * C := Int.mul_nonneg h0 (by have := h.c1; omega)
 have e := h.le
 rw [h.len]
 rw [Int.mul_comm C r,Int.mul_comm C R] at a
 have := h.c1
 omega
def boardGood (R C : Int) (cs : List S42) : Bool := inR R 1 10 && (inR C 1 9 && (decide ((cs.length : Int) = R * C) && cs.all goodCell))
theorem GoodB.of {R C : Int} {cs : List S42} (h : boardGood R C cs = true) : GoodB R C cs := by
 unfold boardGood at h
 simp only [Bool.and_eq_true,decide_eq_true_eq,inR_iff,List.all_eq_true] at h
 exact ⟨h.1.1,h.1.2,h.2.1.1,h.2.1.2,h.2.2.1,h.2.2.2⟩
theorem GoodB.to {R C : Int} {cs : List S42} (h : GoodB R C cs) : boardGood R C cs = true := by
 unfold boardGood
 simp only [Bool.and_eq_true,decide_eq_true_eq,inR_iff,List.all_eq_true]
 exact ⟨⟨h.r1,h.r2⟩,⟨h.c1,h.c2⟩,h.len,h.good⟩
theorem boGood_ev (R C : Int) (cs : List S42) (hl : cs.length ≤ 1048576) : Ev (fun k => spec_boGood.f k R C cs) (boardGood R C cs) := by
 have key : ∀ (m i : Nat),i + m = cs.length → Ev (fun k => spec_boGood.l0 k cs (cs.length : Int) i) ((cs.drop i).all goodCell) := by
  intro m
  induction m with
  | zero =>
   intro i hi
   refine Ev.succ ?_
   simp only [spec_boGood.l0]
   rw [List.drop_eq_nil_of_le (by omega)]
   exact Ev.neg (by omega) (Ev.now _)
  | succ m ih =>
   intro i hi
   refine Ev.succ ?_
   simp only [spec_boGood.l0]
   refine Ev.pos (by omega) (Ev.pos (by omega) (Ev.pos (by omega) ?_))
   rw [rdC_at cs i (by omega),w64 (by omega) (by omega),List.drop_eq_getElem_cons (show i < cs.length by omega),List.all_cons]
   refine Ev.bind (Ev.val (paGood_ok _)) ?_
   by_cases h : goodCell cs[i] = true
   ·rw [h,Bool.true_and]
    exact Ev.pos (by trivial) (ih (i + 1) (by omega))
   ·exact Ev.neg h (Ev.ret (by rw [Bool.eq_false_iff.mpr h,Bool.false_and]))
 have jt : Ev (fun k => spec_boGood.j0 k true R C cs) false := by
  refine Ev.succ ?_
  simp only [spec_boGood.j0]
  exact Ev.pos (by trivial) (Ev.now _)
 unfold spec_boGood.f boardGood
 refine Ev.bind (Ev.val (l1In_ok _ _ _)) ?_
 by_cases h1 : inR R 1 10 = true
 case neg => exact Ev.neg h1 (Ev.cast jt (by rw [Bool.eq_false_iff.mpr h1,Bool.false_and]))
 refine Ev.pos h1 (Ev.bind (Ev.val (l1In_ok _ _ _)) ?_)
 rw [h1,Bool.true_and]
 by_cases h2 : inR C 1 9 = true
 case neg => exact Ev.neg h2 (Ev.cast jt (by rw [Bool.eq_false_iff.mpr h2,Bool.false_and]))
 refine Ev.pos h2 ?_
 rw [h2,Bool.true_and]
 have b := mulb (show 0 ≤ R by have := inR_iff.1 h1; omega) (inR_iff.1 h1).2 (show 0 ≤ C by have := inR_iff.1 h2; omega) (inR_iff.1 h2).2
 rw [w64 (x := R * C) (by omega) (by omega)]
 by_cases h3 : (cs.length : Int) = R * C
 case neg =>
  rw [bne_iff_ne.mpr h3,decide_eq_false h3,Bool.false_and]
  exact jt
 rw [bne_eq_false_iff_eq.mpr h3,decide_eq_true h3,Bool.true_and]
 refine Ev.succ ?_
 simp only [spec_boGood.j0]
 exact Ev.neg (by simp) (key cs.length 0 (by omega))
theorem validCells_ev (cs : List S42) : Ev (fun k => impl_validCells.f k cs) (decide (cs.length ≤ 90) && cs.all goodCell) := by
 unfold impl_validCells.f
 by_cases h : (cs.length : Int) > 90
 ·exact Ev.pos h (Ev.ret (by rw [decide_eq_false (by omega)]; rfl))
 refine Ev.neg h ?_
 rw [decide_eq_true (show cs.length ≤ 90 by omega),Bool.true_and]
 have key : ∀ (m i : Nat),i + m = cs.length → Ev (fun k => impl_validCells.l0 k cs (cs.length : Int) i) ((cs.drop i).all goodCell) := by
  intro m
  induction m with
  | zero =>
   intro i hi
   refine Ev.succ ?_
   simp only [impl_validCells.l0]
   rw [List.drop_eq_nil_of_le (by omega)]
   exact Ev.neg (by omega) (Ev.now _)
  | succ m ih =>
   intro i hi
   refine Ev.succ ?_
   simp only [impl_validCells.l0]
   refine Ev.pos (by omega) (Ev.pos (by omega) (Ev.pos (by omega) ?_))
   rw [rdC_at cs i (by omega),w64 (by omega) (by omega),List.drop_eq_getElem_cons (show i < cs.length by omega),List.all_cons]
   refine Ev.bind (Ev.val (IsCell_ok _)) ?_
   by_cases h : goodCell cs[i] = true
   ·rw [h,Bool.true_and]
    exact Ev.pos (by trivial) (ih (i + 1) (by omega))
   ·exact Ev.neg h (Ev.ret (by rw [Bool.eq_false_iff.mpr h,Bool.false_and]))
 exact key cs.length 0 (by omega)
theorem IsBoard_ev (R C : Int) (cs : List S42) : Ev (fun k => impl_IsBoard.f k R C cs) (boardGood R C cs) := by
 unfold impl_IsBoard.f boardGood
 by_cases a1 : R ≥ 1
 case neg => exact Ev.neg a1 (Ev.ret (by rw [inR_lo (by omega)]; rfl))
 refine Ev.pos a1 ?_
 by_cases a2 : R ≤ 10
 case neg => exact Ev.neg a2 (Ev.ret (by rw [inR_hi (by omega)]; rfl))
 refine Ev.pos a2 ?_
 rw [inR_iff.2 ⟨a1,a2⟩,Bool.true_and]
 by_cases a3 : C ≥ 1
 case neg => exact Ev.neg a3 (Ev.ret (by rw [inR_lo (by omega)]; rfl))
 refine Ev.pos a3 ?_
 by_cases a4 : C ≤ 9
 case neg => exact Ev.neg a4 (Ev.ret (by rw [inR_hi (by omega)]; rfl))
 refine Ev.pos a4 ?_
 rw [inR_iff.2 ⟨a3,a4⟩,Bool.true_and]
 have b := mulb (show 0 ≤ R by omega) a2 (show 0 ≤ C by omega) a4
 rw [w64 (x := R * C) (by omega) (by omega)]
 by_cases h3 : (cs.length : Int) = R * C
 case neg => exact Ev.neg h3 (Ev.ret (by rw [decide_eq_false h3,Bool.false_and]))
 refine Ev.pos h3 (Ev.bind (validCells_ev cs) (Ev.ret ?_))
 rw [decide_eq_true h3,decide_eq_true (show cs.length ≤ 90 by omega),Bool.true_and]
theorem boOwn_ok (R C : Int) (cs : List S42) (hl : cs.length ≤ 1048576) : spec_boOwn.f R C cs = some (R,C,cs) := by
 unfold spec_boOwn.f
 simp only [Option.bind_some]
 rw [if_pos (by simp; omega)]; rfl
theorem copyBoard_ok (R C : Int) (cs : List S42) (hl : cs.length ≤ 1048576) : impl_copyBoard.f R C cs = some (R,C,cs) := by
 unfold impl_copyBoard.f
 simp only [Option.bind_some]
 rw [if_pos (by simp; omega)]; rfl
theorem boAt_ok {R C : Int} {cs : List S42} (h : GoodB R C cs) {r c : Int} (h0 : 0 ≤ r) (h1 : r < R) (h2 : 0 ≤ c) (h3 : c < C) : spec_boAt.f R C cs r c = some ((rd_T42 cs (r * C + c)).f0,(rd_T42 cs (r * C + c)).f1) := by
 have b := h.idx h0 h1 h2 h3
 have l := h.len90
 unfold spec_boAt.f
 rw [w64 (x := r * C) (by omega) (by omega),w64 (by omega) (by omega),if_pos b.2.2.1,if_pos b.2.2.2]
def near (R C i : Int) : List Int := (if 0 < i / C then [i - C] else []) ++ ((if 0 < i % C then [i - 1] else []) ++ ((if i % C + 1 < C then [i + 1] else []) ++ (if i / C + 1 < R then [i + C] else [])))
theorem near_in {R C : Int} {cs : List S42} (h : GoodB R C cs) {i : Int} (h0 : 0 ≤ i) (h1 : i < (cs.length : Int)) : ∀ n ∈ near R C i,0 ≤ n ∧ n < (cs.length : Int) := by
 have hc := h.c1
 have e := Int.mul_ediv_add_emod i C
 have r0 := Int.emod_nonneg i (show C ≠ 0 by omega)
 have r1 := Int.emod_lt_of_pos i (show 0 < C by omega)
 have q0 : 0 ≤ i / C := Int.ediv_nonneg h0 (by omega)
 have hl := h.len
 have cq : 0 ≤ C * (i / C) := Int.mul_nonneg (by omega) q0
 have qR : i / C < R := by
  rcases (show i / C < R ∨ R ≤ i / C by omega) with hq | hq
  ·exact hq
  ·have := Int.mul_le_mul_of_nonneg_left hq (show 0 ≤ C by omega)
   rw [Int.mul_comm C R] at this
   omega
 have m1 := mulc hc (show i / C + 1 ≤ R by omega)
 rw [Int.mul_comm C R] at m1
 intro n hn
 unfold near at hn
 simp only [List.mem_append] at hn
 rcases hn with hn | hn | hn | hn
 ·split at hn
  ·rename_i hq
   have := mulc hc (show 0 + 1 ≤ i / C by omega)
   simp at hn this
   omega
  ·simp at hn
 ·split at hn
  ·simp at hn; omega
  ·simp at hn
 ·split at hn
  ·simp at hn; omega
  ·simp at hn
 ·split at hn
  ·rename_i hq
   have m2 := mulc hc (show (i / C + 1) + 1 ≤ R by omega)
   rw [Int.mul_comm C R,Int.mul_add,Int.mul_one] at m2
   simp at hn
   omega
  ·simp at hn
theorem near_len (R C i : Int) : (near R C i).length ≤ 4 := by
 unfold near
 simp only [List.length_append]
 split <;> split <;> split <;> split <;> simp
def geared (c : S42) : Bool := decide (c.f0 = 6) || decide (c.f0 = 7)
theorem ggGear_ok (c : S42) : spec_ggGear.f c.f0 c.f1 = some (geared c) := by
 unfold spec_ggGear.f geared
 by_cases h : c.f0 = 6
 ·rw [if_pos h,decide_eq_true h]; rfl
 ·rw [if_neg h,decide_eq_false h]; rfl
theorem isGeared_ok (c : S42) : impl_isGeared.f c.f0 c.f1 = some (geared c) := by
 unfold impl_isGeared.f geared
 by_cases h : c.f0 = 6
 ·rw [if_pos h,decide_eq_true h]; rfl
 ·rw [if_neg h,decide_eq_false h]; rfl
theorem ggNear_ev {R C : Int} {cs : List S42} (h : GoodB R C cs) {i : Int} (h0 : 0 ≤ i) (h1 : i < (cs.length : Int)) : Ev (fun k => spec_ggNear.f k R C cs i) (near R C i) := by
 have hc := h.c1
 have hc2 := h.c2
 have hl := h.len90
 have hr2 := h.r2
 have q0 : 0 ≤ i / C := Int.ediv_nonneg h0 (by omega)
 have q1 : i / C ≤ i := Int.ediv_le_self C h0
 have r0 := Int.emod_nonneg i (show C ≠ 0 by omega)
 have r1 := Int.emod_lt_of_pos i (show 0 < C by omega)
 have last : ∀ p : List Int,p.length ≤ 2 → Ev (fun k => spec_ggNear.j1 k i (i / C) (i % C) p R C cs) (p ++ ((if i % C + 1 < C then [i + 1] else []) ++ (if i / C + 1 < R then [i + C] else []))) := by
  intro p hp
  refine Ev.succ ?_
  simp only [spec_ggNear.j1]
  rw [w64 (x := i % C + 1) (by omega) (by omega),w64 (x := i / C + 1) (by omega) (by omega),w64 (x := i + 1) (by omega) (by omega),w64 (x := i + C) (by omega) (by omega)]
  by_cases g1 : i % C + 1 < C
  ·refine Ev.pos g1 (Ev.pos (by omega) (Ev.bind (Ev.now _) ?_))
   rw [if_pos g1]
   by_cases g2 : i / C + 1 < R
   ·refine Ev.pos g2 (Ev.pos (by simp; omega) (Ev.ret ?_))
    rw [if_pos g2,List.append_assoc]
   ·refine Ev.neg g2 (Ev.ret ?_)
    rw [if_neg g2,List.append_nil]
  ·refine Ev.neg g1 ?_
   rw [if_neg g1,List.nil_append]
   by_cases g2 : i / C + 1 < R
   ·refine Ev.pos g2 (Ev.pos (by omega) (Ev.ret ?_))
    rw [if_pos g2]
   ·refine Ev.neg g2 (Ev.ret ?_)
    rw [if_neg g2,List.append_nil]
 have mid : ∀ p : List Int,p.length ≤ 1 → Ev (fun k => spec_ggNear.j0 k i (i / C) (i % C) p R C cs) (p ++ ((if 0 < i % C then [i - 1] else []) ++ ((if i % C + 1 < C then [i + 1] else []) ++ (if i / C + 1 < R then [i + C] else [])))) := by
  intro p hp
  refine Ev.succ ?_
  simp only [spec_ggNear.j0]
  rw [w64 (x := i - 1) (by omega) (by omega)]
  by_cases g : i % C > 0
  ·refine Ev.pos g (Ev.pos (by omega) (Ev.cast (last (p ++ [i - 1]) (by simp; omega)) ?_))
   rw [if_pos g,List.append_assoc]
  ·refine Ev.neg g (Ev.cast (last p (by omega)) ?_)
   rw [if_neg g,List.nil_append]
 unfold spec_ggNear.f near
 rw [Int.tdiv_eq_ediv_of_nonneg h0,Int.tmod_eq_emod_of_nonneg h0,w64 (x := i / C) (by omega) (by omega),w64 (x := i - C) (by omega) (by omega)]
 refine Ev.neg (by omega) ?_
 by_cases g : i / C > 0
 ·refine Ev.pos g (Ev.pos (by simp) (Ev.cast (mid [i - C] (by simp)) ?_))
  rw [if_pos g]
 ·refine Ev.neg g (Ev.cast (mid [] (by simp)) ?_)
  rw [if_neg g]
theorem besideOf_ev {R C : Int} {cs : List S42} (h : GoodB R C cs) {i : Int} (h0 : 0 ≤ i) (h1 : i < (cs.length : Int)) : Ev (fun k => impl_besideOf.f k R C cs i) (near R C i) := by
 have hc := h.c1
 have hc2 := h.c2
 have hl := h.len90
 have hr2 := h.r2
 have q0 : 0 ≤ i / C := Int.ediv_nonneg h0 (by omega)
 have q1 : i / C ≤ i := Int.ediv_le_self C h0
 have r0 := Int.emod_nonneg i (show C ≠ 0 by omega)
 have r1 := Int.emod_lt_of_pos i (show 0 < C by omega)
 have last : ∀ p : List Int,p.length ≤ 2 → Ev (fun k => impl_besideOf.j1 k i p (i / C) (i % C) R C cs) (p ++ ((if i % C + 1 < C then [i + 1] else []) ++ (if i / C + 1 < R then [i + C] else []))) := by
  intro p hp
  refine Ev.succ ?_
  simp only [impl_besideOf.j1]
  rw [w64 (x := i % C + 1) (by omega) (by omega),w64 (x := i / C + 1) (by omega) (by omega),w64 (x := i + 1) (by omega) (by omega),w64 (x := i + C) (by omega) (by omega)]
  by_cases g1 : i % C + 1 < C
  ·refine Ev.pos g1 (Ev.pos (by omega) (Ev.bind (Ev.now _) ?_))
   rw [if_pos g1]
   by_cases g2 : i / C + 1 < R
   ·refine Ev.pos g2 (Ev.pos (by simp; omega) (Ev.ret ?_))
    rw [if_pos g2,List.append_assoc]
   ·refine Ev.neg g2 (Ev.ret ?_)
    rw [if_neg g2,List.append_nil]
  ·refine Ev.neg g1 ?_
   rw [if_neg g1,List.nil_append]
   by_cases g2 : i / C + 1 < R
   ·refine Ev.pos g2 (Ev.pos (by omega) (Ev.ret ?_))
    rw [if_pos g2]
   ·refine Ev.neg g2 (Ev.ret ?_)
    rw [if_neg g2,List.append_nil]
 have mid : ∀ p : List Int,p.length ≤ 1 → Ev (fun k => impl_besideOf.j0 k i p (i / C) (i % C) R C cs) (p ++ ((if 0 < i % C then [i - 1] else []) ++ ((if i % C + 1 < C then [i + 1] else []) ++ (if i / C + 1 < R then [i + C] else [])))) := by
  intro p hp
  refine Ev.succ ?_
  simp only [impl_besideOf.j0]
  rw [w64 (x := i - 1) (by omega) (by omega)]
  by_cases g : i % C > 0
  ·refine Ev.pos g (Ev.pos (by omega) (Ev.cast (last (p ++ [i - 1]) (by simp; omega)) ?_))
   rw [if_pos g,List.append_assoc]
  ·refine Ev.neg g (Ev.cast (last p (by omega)) ?_)
   rw [if_neg g,List.nil_append]
 unfold impl_besideOf.f near
 rw [Int.tdiv_eq_ediv_of_nonneg h0,Int.tmod_eq_emod_of_nonneg h0,w64 (x := i / C) (by omega) (by omega),w64 (x := i - C) (by omega) (by omega)]
 refine Ev.bind (Ev.now _) (Ev.neg (by omega) ?_)
 by_cases g : i / C > 0
 ·refine Ev.pos g (Ev.pos (by simp) (Ev.cast (mid [i - C] (by simp)) ?_))
  rw [if_pos g]
 ·refine Ev.neg g (Ev.cast (mid [] (by simp)) ?_)
  rw [if_neg g]
def visit (cs : List S42) (nx : Int) : List Int → List Int → List Int → List Int × List Int
 | [],o,q => (o,q)
 | n :: t,o,q => if geared (rd_T42 cs n) = true ∧ rd o n < 0 then visit cs nx t (o.set n.toNat nx) (q ++ [n]) else visit cs nx t o q
def negs (o : List Int) : Nat := o.countP (fun x => decide (x < 0))
theorem visit_len (cs : List S42) (nx : Int) : ∀ (ns o q : List Int),(visit cs nx ns o q).1.length = o.length
 | [],o,q => rfl
 | n :: t,o,q => by
  rw [visit]
  split
  ·rw [visit_len cs nx t,List.length_set]
  ·exact visit_len cs nx t o q
theorem visit_q (cs : List S42) (nx : Int) (p : List Int) : ∀ (ns o q : List Int),visit cs nx ns o (p ++ q) = ((visit cs nx ns o q).1,p ++ (visit cs nx ns o q).2)
 | [],o,q => rfl
 | n :: t,o,q => by
  rw [visit,visit]
  split
  ·rw [List.append_assoc,visit_q cs nx p t]
  ·exact visit_q cs nx p t o q
theorem visit_sum (cs : List S42) {nx : Int} (hx : 0 ≤ nx) : ∀ (ns o q : List Int),(∀ n ∈ ns,0 ≤ n ∧ n < (o.length : Int)) → negs (visit cs nx ns o q).1 + (visit cs nx ns o q).2.length = negs o + q.length
 | [],o,q,_ => rfl
 | n :: t,o,q,h => by
  have h2 : ∀ m ∈ t,0 ≤ m ∧ m < (o.length : Int) := fun m hm => h m (List.mem_cons_of_mem _ hm)
  obtain ⟨n0,n1⟩ := h n List.mem_cons_self
  rw [visit]
  split
  ·rename_i hc
   rw [visit_sum cs hx t _ _ (fun m hm => by rw [List.length_set]; exact h2 m hm),List.length_append]
   have hl : n.toNat < o.length := by omega
   have hr : rd o n = o[n.toNat] := by
    have := rd_at o n.toNat hl
    rwa [Int.toNat_of_nonneg n0] at this
   have hn := hc.2
   rw [hr] at hn
   have e : negs (o.set n.toNat nx) + 1 = negs o := by
    unfold negs
    rw [List.countP_set hl,decide_eq_true hn,decide_eq_false (show ¬ nx < 0 by omega)]
    have pos : 0 < o.countP (fun x => decide (x < 0)) := List.countP_pos_iff.2 ⟨o[n.toNat],List.getElem_mem hl,by simpa using hn⟩
    simp
    omega
   simp
   omega
  ·exact visit_sum cs hx t o q h2
theorem visit_in (cs : List S42) (nx : Int) (P : Int → Prop) : ∀ (ns o q : List Int),(∀ n ∈ ns,P n) → (∀ n ∈ q,P n) → ∀ n ∈ (visit cs nx ns o q).2,P n
 | [],o,q,_,h => h
 | n :: t,o,q,hs,h => by
  rw [visit]
  have h2 : ∀ m ∈ t,P m := fun m hm => hs m (List.mem_cons_of_mem _ hm)
  split
  ·refine visit_in cs nx P t _ _ h2 (fun m hm => ?_)
   rcases List.mem_append.1 hm with hm | hm
   ·exact h m hm
   ·rw [List.mem_singleton.1 hm]; exact hs n List.mem_cons_self
  ·exact visit_in cs nx P t o q h2 h
def bfs (R C : Int) (cs : List S42) (nx : Int) : Nat → List Int → List Int → List Int
 | 0,o,_ => o
 | _ + 1,o,[] => o
 | k + 1,o,a :: q => bfs R C cs nx k (visit cs nx (near R C a) o q).1 (visit cs nx (near R C a) o q).2
theorem bfs_len (R C : Int) (cs : List S42) (nx : Int) : ∀ (k : Nat) (o q : List Int),(bfs R C cs nx k o q).length = o.length
 | 0,o,q => rfl
 | k + 1,o,[] => rfl
 | k + 1,o,a :: q => by rw [bfs,bfs_len R C cs nx k,visit_len]
def grp (R C : Int) (cs : List S42) : Nat → Nat → Int → List Int → List Int
 | 0,_,_,o => o
 | m + 1,i,nx,o => if geared (rd_T42 cs i) = true ∧ rd o i < 0 then grp R C cs m (i + 1) (nx + 1) (bfs R C cs nx (cs.length + 1) (o.set i nx) [(i : Int)]) else grp R C cs m (i + 1) nx o
def groupsOf (R C : Int) (cs : List S42) : List Int := grp R C cs cs.length 0 0 (List.replicate cs.length (-1))
theorem grp_len (R C : Int) (cs : List S42) : ∀ (m i : Nat) (nx : Int) (o : List Int),(grp R C cs m i nx o).length = o.length
 | 0,i,nx,o => rfl
 | m + 1,i,nx,o => by
  rw [grp]
  split
  ·rw [grp_len R C cs m,bfs_len,List.length_set]
  ·exact grp_len R C cs m _ _ _
theorem groupsOf_len (R C : Int) (cs : List S42) : (groupsOf R C cs).length = cs.length := by
 unfold groupsOf
 rw [grp_len,List.length_replicate]
theorem rd_drop (q : List Int) (k : Nat) (h : k < q.length) : q.drop k = rd q k :: q.drop (k + 1) := by
 rw [rd_at q k h]; exact List.drop_eq_getElem_cons h
theorem ggGroups_l3 {R C : Int} {cs : List S42} (h : GoodB R C cs) {nx : Int} (hx : 0 ≤ nx) (ns : List Int) (hns : ∀ n ∈ ns,0 ≤ n ∧ n < (cs.length : Int)) (hn4 : ns.length ≤ 4) (i : Int) (r : List Int) (k0 : Nat) (hk0 : k0 ≤ 1000) :
  ∀ (m j : Nat) (o q : List Int),j + m = ns.length → o.length = cs.length → negs o + q.length ≤ 1000 → Ev (fun k => spec_ggGroups.l2 k (visit cs nx (ns.drop j) o q).1 nx (visit cs nx (ns.drop j) o q).2 ((k0 : Int) + 1) cs (cs.length : Int) i R C cs) r → Ev (fun k => spec_ggGroups.l3 k o nx q k0 cs (cs.length : Int) i ns (ns.length : Int) j R C cs) r := by
 have l90 := h.len90
 intro m
 induction m with
 | zero =>
  intro j o q hj ho hs e
  refine Ev.succ ?_
  simp only [spec_ggGroups.l3]
  rw [List.drop_eq_nil_of_le (by omega),visit] at e
  rw [w64 (x := (k0 : Int) + 1) (by omega) (by omega)]
  exact Ev.neg (by omega) e
 | succ m ih =>
  intro j o q hj ho hs e
  have hjl : j < ns.length := by omega
  obtain ⟨n0,n1⟩ := hns ns[j] (List.getElem_mem hjl)
  rw [List.drop_eq_getElem_cons hjl,visit] at e
  refine Ev.succ ?_
  simp only [spec_ggGroups.l3]
  rw [rd_at ns j hjl,w64 (x := (j : Int) + 1) (by omega) (by omega)]
  refine Ev.pos (by omega) (Ev.pos (by omega) (Ev.pos (by omega) (Ev.pos n0 (Ev.pos n1 (Ev.bind (Ev.val (ggGear_ok _)) ?_)))))
  by_cases g1 : geared (rd_T42 cs ns[j]) = true
  ·refine Ev.pos g1 (Ev.pos (by omega) ?_)
   by_cases g2 : rd o ns[j] < 0
   ·rw [if_pos ⟨g1,g2⟩] at e
    refine Ev.pos g2 (Ev.pos (by omega) ?_)
    have hv := visit_sum cs hx [ns[j]] o q (fun n hn => by rw [List.mem_singleton.1 hn]; omega)
    rw [visit,if_pos ⟨g1,g2⟩,visit] at hv
    exact ih (j + 1) _ _ (by omega) (by rw [List.length_set]; exact ho) (by simp only at hv; omega) e
   ·rw [if_neg (fun hh => g2 hh.2)] at e
    exact Ev.neg g2 (ih (j + 1) _ _ (by omega) ho hs e)
  ·rw [if_neg (fun hh => g1 hh.1)] at e
   exact Ev.neg g1 (ih (j + 1) _ _ (by omega) ho hs e)
theorem ggGroups_l2 {R C : Int} {cs : List S42} (h : GoodB R C cs) {nx : Int} (hx : 0 ≤ nx) (hx2 : nx ≤ 1000) (i : Nat) (hi : i ≤ 1000) (r : List Int) :
  ∀ (f : Nat) (o q : List Int) (k0 : Nat),o.length = cs.length → k0 ≤ q.length → negs o + (q.length - k0) ≤ f → negs o + q.length ≤ 1000 → (∀ n ∈ q,0 ≤ n ∧ n < (cs.length : Int)) → Ev (fun k => spec_ggGroups.l1 k (bfs R C cs nx f o (q.drop k0)) (nx + 1) cs (cs.length : Int) ((i : Int) + 1) R C cs) r → Ev (fun k => spec_ggGroups.l2 k o nx q k0 cs (cs.length : Int) i R C cs) r := by
 have l90 := h.len90
 intro f
 induction f with
 | zero =>
  intro o q k0 ho hk hm hs hq e
  refine Ev.succ ?_
  simp only [spec_ggGroups.l2]
  rw [w64 (x := nx + 1) (by omega) (by omega),w64 (x := (i : Int) + 1) (by omega) (by omega)]
  rw [bfs] at e
  exact Ev.neg (by omega) e
 | succ f ih =>
  intro o q k0 ho hk hm hs hq e
  by_cases hlt : k0 < q.length
  ·rw [rd_drop q k0 hlt,bfs] at e
   refine Ev.succ ?_
   simp only [spec_ggGroups.l2]
   have hin : 0 ≤ rd q k0 ∧ rd q k0 < (cs.length : Int) := by rw [rd_at q k0 hlt]; exact hq _ (List.getElem_mem hlt)
   have hnear := near_in h hin.1 hin.2
   refine Ev.pos (by omega) (Ev.pos (by omega) (Ev.bind (ggNear_ev h hin.1 hin.2) ?_))
   refine ggGroups_l3 h hx (near R C (rd q k0)) hnear (near_len _ _ _) i r k0 (by omega) _ 0 o q (Nat.zero_add _) ho hs ?_
   rw [List.drop_zero]
   have hsum := visit_sum cs hx (near R C (rd q k0)) o q (fun n hn => by rw [ho]; exact hnear n hn)
   have hsp : visit cs nx (near R C (rd q k0)) o q = ((visit cs nx (near R C (rd q k0)) o (q.drop (k0 + 1))).1,q.take (k0 + 1) ++ (visit cs nx (near R C (rd q k0)) o (q.drop (k0 + 1))).2) := by
    rw [← visit_q,List.take_append_drop]
   have hd : (visit cs nx (near R C (rd q k0)) o q).2.drop (k0 + 1) = (visit cs nx (near R C (rd q k0)) o (q.drop (k0 + 1))).2 := by
    rw [hsp]
    exact List.drop_left' (by rw [List.length_take]; omega)
   have h1 : (visit cs nx (near R C (rd q k0)) o q).1 = (visit cs nx (near R C (rd q k0)) o (q.drop (k0 + 1))).1 := by rw [hsp]
   have hlen : k0 + 1 ≤ (visit cs nx (near R C (rd q k0)) o q).2.length := by
    rw [hsp]; simp; omega
   refine ih _ _ (k0 + 1) (by rw [visit_len]; exact ho) hlen (by omega) (by omega) (visit_in cs nx _ _ o q hnear hq) ?_
   rw [hd,h1]
   exact e
  ·have hk0 : k0 = q.length := by omega
   rw [hk0,List.drop_eq_nil_of_le (Nat.le_refl _),bfs] at e
   refine Ev.succ ?_
   simp only [spec_ggGroups.l2]
   rw [w64 (x := nx + 1) (by omega) (by omega),w64 (x := (i : Int) + 1) (by omega) (by omega)]
   exact Ev.neg (by omega) e
theorem ggGroups_l1 {R C : Int} {cs : List S42} (h : GoodB R C cs) :
  ∀ (m i : Nat) (nx : Int) (o : List Int),i + m = cs.length → 0 ≤ nx → nx ≤ i → o.length = cs.length → Ev (fun k => spec_ggGroups.l1 k o nx cs (cs.length : Int) i R C cs) (grp R C cs m i nx o) := by
 have l90 := h.len90
 intro m
 induction m with
 | zero =>
  intro i nx o hi h0 h1 ho
  refine Ev.succ ?_
  simp only [spec_ggGroups.l1]
  rw [grp]
  exact Ev.neg (by omega) (Ev.now _)
 | succ m ih =>
  intro i nx o hi h0 h1 ho
  have e0 := ih (i + 1) nx o (by omega) h0 (by omega) ho
  have jt : Ev (fun k => spec_ggGroups.j2 k o nx i cs (cs.length : Int) i true R C cs) (grp R C cs m (i + 1) nx o) := by
   refine Ev.succ ?_
   simp only [spec_ggGroups.j2]
   rw [w64 (x := (i : Int) + 1) (by omega) (by omega)]
   exact Ev.pos (by trivial) e0
  refine Ev.succ ?_
  simp only [spec_ggGroups.l1]
  rw [grp]
  refine Ev.pos (by omega) (Ev.pos (by omega) (Ev.pos (by omega) (Ev.bind (Ev.val (ggGear_ok _)) ?_)))
  by_cases g1 : geared (rd_T42 cs i) = true
  case neg =>
   rw [if_neg (fun hh => g1 hh.1)]
   exact Ev.neg g1 jt
  refine Ev.pos g1 (Ev.pos (by omega) ?_)
  by_cases g2 : rd o i ≥ 0
  ·rw [if_neg (fun hh => by omega),decide_eq_true g2]
   exact jt
  rw [if_pos ⟨g1,by omega⟩,decide_eq_false g2]
  refine Ev.succ ?_
  simp only [spec_ggGroups.j2]
  refine Ev.neg (by simp) (Ev.pos (by omega) (Ev.pos (by omega) ?_))
  rw [Int.toNat_natCast]
  have ho2 : (o.set i nx).length = cs.length := by rw [List.length_set]; exact ho
  have hsum : negs (o.set i nx) + 1 = negs o := by
   have hl : i < o.length := by omega
   have hr := rd_at o i hl
   unfold negs
   rw [List.countP_set hl,decide_eq_true (show o[i] < 0 by omega),decide_eq_false (show ¬ nx < 0 by omega)]
   have pos : 0 < o.countP (fun x => decide (x < 0)) := List.countP_pos_iff.2 ⟨o[i],List.getElem_mem hl,by simp; omega⟩
   simp
   omega
  have hle : negs o ≤ o.length := List.countP_le_length
  refine ggGroups_l2 h h0 (by omega) i (by omega) _ (cs.length + 1) (o.set i nx) [(i : Int)] 0 ho2 (by simp) (by simp; omega) (by simp; omega) (fun n hn => by rw [List.mem_singleton.1 hn]; omega) ?_
  have e1 := ih (i + 1) (nx + 1) (bfs R C cs nx (cs.length + 1) (o.set i nx) [(i : Int)]) (by omega) (by omega) (by omega) (by rw [bfs_len]; exact ho2)
  exact e1
theorem ggGroups_ev {R C : Int} {cs : List S42} (h : GoodB R C cs) : Ev (fun k => spec_ggGroups.f k R C cs) (groupsOf R C cs) := by
 have l90 := h.len90
 have key : ∀ (m i : Nat),i + m = cs.length → Ev (fun k => spec_ggGroups.l0 k (List.replicate i (-1) ++ List.replicate m 0) (cs.length : Int) i R C cs) (groupsOf R C cs) := by
  intro m
  induction m with
  | zero =>
   intro i hi
   obtain rfl : i = cs.length := by omega
   refine Ev.succ ?_
   simp only [spec_ggGroups.l0]
   refine Ev.neg (by omega) ?_
   rw [List.replicate_zero,List.append_nil]
   exact ggGroups_l1 h cs.length 0 0 _ (by omega) (by omega) (by omega) (by simp)
  | succ m ih =>
   intro i hi
   refine Ev.succ ?_
   simp only [spec_ggGroups.l0]
   refine Ev.pos (by omega) (Ev.pos (by omega) (Ev.pos (by simp; omega) ?_))
   rw [w64 (x := (i : Int) + 1) (by omega) (by omega),Int.toNat_natCast,List.replicate_succ,set_at _ _ _ _ _ (by simp)]
   have e : (List.replicate i (-1 : Int) ++ -1 :: List.replicate m 0) = List.replicate (i + 1) (-1) ++ List.replicate m 0 := by
    rw [List.replicate_succ',List.append_assoc]; rfl
   rw [e]
   exact ih (i + 1) (by omega)
 unfold spec_ggGroups.f
 refine Ev.pos (by omega) (Ev.pos (by omega) (Ev.bind (Ev.now _) ?_))
 rw [Int.toNat_natCast,List.length_replicate]
 exact key cs.length 0 (by omega)
theorem groupNumbers_l3 {R C : Int} {cs : List S42} (h : GoodB R C cs) {nx : Int} (hx : 0 ≤ nx) (ns : List Int) (hns : ∀ n ∈ ns,0 ≤ n ∧ n < (cs.length : Int)) (hn4 : ns.length ≤ 4) (i : Int) (r : List Int) :
  ∀ (m j : Nat) (o q : List Int),j + m = ns.length → o.length = cs.length → negs o + q.length ≤ 1000 → Ev (fun k => impl_groupNumbers.l2 k (visit cs nx (ns.drop j) o q).1 nx (visit cs nx (ns.drop j) o q).2 cs (cs.length : Int) i R C cs) r → Ev (fun k => impl_groupNumbers.l3 k o nx q cs (cs.length : Int) i ns (ns.length : Int) j R C cs) r := by
 have l90 := h.len90
 intro m
 induction m with
 | zero =>
  intro j o q hj ho hs e
  refine Ev.succ ?_
  simp only [impl_groupNumbers.l3]
  rw [List.drop_eq_nil_of_le (by omega),visit] at e
  exact Ev.neg (by omega) e
 | succ m ih =>
  intro j o q hj ho hs e
  have hjl : j < ns.length := by omega
  obtain ⟨n0,n1⟩ := hns ns[j] (List.getElem_mem hjl)
  rw [List.drop_eq_getElem_cons hjl,visit] at e
  refine Ev.succ ?_
  simp only [impl_groupNumbers.l3]
  rw [rd_at ns j hjl,w64 (x := (j : Int) + 1) (by omega) (by omega)]
  refine Ev.pos (by omega) (Ev.pos (by omega) (Ev.pos (by omega) (Ev.pos n0 (Ev.pos n1 (Ev.bind (Ev.val (isGeared_ok _)) ?_)))))
  by_cases g1 : geared (rd_T42 cs ns[j]) = true
  ·refine Ev.pos g1 (Ev.pos (by omega) ?_)
   by_cases g2 : rd o ns[j] < 0
   ·rw [if_pos ⟨g1,g2⟩] at e
    refine Ev.pos g2 (Ev.pos (by omega) ?_)
    have hv := visit_sum cs hx [ns[j]] o q (fun n hn => by rw [List.mem_singleton.1 hn]; omega)
    rw [visit,if_pos ⟨g1,g2⟩,visit] at hv
    exact ih (j + 1) _ _ (by omega) (by rw [List.length_set]; exact ho) (by simp only at hv; omega) e
   ·rw [if_neg (fun hh => g2 hh.2)] at e
    exact Ev.neg g2 (ih (j + 1) _ _ (by omega) ho hs e)
  ·rw [if_neg (fun hh => g1 hh.1)] at e
   exact Ev.neg g1 (ih (j + 1) _ _ (by omega) ho hs e)
theorem groupNumbers_l2 {R C : Int} {cs : List S42} (h : GoodB R C cs) {nx : Int} (hx : 0 ≤ nx) (hx2 : nx ≤ 1000) (i : Nat) (hi : i ≤ 1000) (r : List Int) :
  ∀ (f : Nat) (o q : List Int),o.length = cs.length → negs o + q.length ≤ f → negs o + q.length ≤ 1000 → (∀ n ∈ q,0 ≤ n ∧ n < (cs.length : Int)) → Ev (fun k => impl_groupNumbers.l1 k (bfs R C cs nx f o q) (nx + 1) cs (cs.length : Int) ((i : Int) + 1) R C cs) r → Ev (fun k => impl_groupNumbers.l2 k o nx q cs (cs.length : Int) i R C cs) r := by
 have l90 := h.len90
 intro f
 induction f with
 | zero =>
  intro o q ho hm hs hq e
  refine Ev.succ ?_
  simp only [impl_groupNumbers.l2]
  rw [w64 (x := nx + 1) (by omega) (by omega),w64 (x := (i : Int) + 1) (by omega) (by omega)]
  rw [bfs] at e
  exact Ev.neg (by omega) e
 | succ f ih =>
  intro o q ho hm hs hq e
  cases q with
  | nil =>
   rw [bfs] at e
   refine Ev.succ ?_
   simp only [impl_groupNumbers.l2]
   rw [w64 (x := nx + 1) (by omega) (by omega),w64 (x := (i : Int) + 1) (by omega) (by omega)]
   exact Ev.neg (by simp) e
  | cons a q =>
   rw [bfs] at e
   refine Ev.succ ?_
   simp only [impl_groupNumbers.l2]
   have ha : rd (a :: q) 0 = a := rfl
   have hdr : (a :: q).drop (1 : Int).toNat = q := rfl
   have hin := hq a List.mem_cons_self
   have hq2 : ∀ n ∈ q,0 ≤ n ∧ n < (cs.length : Int) := fun n hn => hq n (List.mem_cons_of_mem _ hn)
   have hnear := near_in h hin.1 hin.2
   rw [ha,hdr]
   simp only [List.length_cons] at hm hs
   refine Ev.pos (by simp only [List.length_cons]; omega) (Ev.pos (by simp only [List.length_cons]; omega) (Ev.pos (by simp only [List.length_cons]; omega) (Ev.bind (besideOf_ev h hin.1 hin.2) ?_)))
   refine groupNumbers_l3 h hx (near R C a) hnear (near_len _ _ _) i r _ 0 o q (Nat.zero_add _) ho (by omega) ?_
   rw [List.drop_zero]
   have hsum := visit_sum cs hx (near R C a) o q (fun n hn => by rw [ho]; exact hnear n hn)
   exact ih _ _ (by rw [visit_len]; exact ho) (by omega) (by omega) (visit_in cs nx _ _ o q hnear hq2) e
theorem groupNumbers_l1 {R C : Int} {cs : List S42} (h : GoodB R C cs) :
  ∀ (m i : Nat) (nx : Int) (o : List Int),i + m = cs.length → 0 ≤ nx → nx ≤ i → o.length = cs.length → Ev (fun k => impl_groupNumbers.l1 k o nx cs (cs.length : Int) i R C cs) (grp R C cs m i nx o) := by
 have l90 := h.len90
 intro m
 induction m with
 | zero =>
  intro i nx o hi h0 h1 ho
  refine Ev.succ ?_
  simp only [impl_groupNumbers.l1]
  rw [grp]
  exact Ev.neg (by omega) (Ev.now _)
 | succ m ih =>
  intro i nx o hi h0 h1 ho
  have e0 := ih (i + 1) nx o (by omega) h0 (by omega) ho
  have jt : Ev (fun k => impl_groupNumbers.j2 k o nx i cs (cs.length : Int) i true R C cs) (grp R C cs m (i + 1) nx o) := by
   refine Ev.succ ?_
   simp only [impl_groupNumbers.j2]
   rw [w64 (x := (i : Int) + 1) (by omega) (by omega)]
   exact Ev.pos (by trivial) e0
  refine Ev.succ ?_
  simp only [impl_groupNumbers.l1]
  rw [grp]
  refine Ev.pos (by omega) (Ev.pos (by omega) (Ev.pos (by omega) (Ev.bind (Ev.val (isGeared_ok _)) ?_)))
  by_cases g1 : geared (rd_T42 cs i) = true
  case neg =>
   rw [if_neg (fun hh => g1 hh.1)]
   exact Ev.neg g1 jt
  refine Ev.pos g1 (Ev.pos (by omega) ?_)
  by_cases g2 : rd o i ≥ 0
  ·rw [if_neg (fun hh => by omega),decide_eq_true g2]
   exact jt
  rw [if_pos ⟨g1,by omega⟩,decide_eq_false g2]
  refine Ev.succ ?_
  simp only [impl_groupNumbers.j2]
  refine Ev.neg (by simp) (Ev.pos (by omega) (Ev.pos (by omega) ?_))
  rw [Int.toNat_natCast]
  have ho2 : (o.set i nx).length = cs.length := by rw [List.length_set]; exact ho
  have hsum : negs (o.set i nx) + 1 = negs o := by
   have hl : i < o.length := by omega
   have hr := rd_at o i hl
   unfold negs
   rw [List.countP_set hl,decide_eq_true (show o[i] < 0 by omega),decide_eq_false (show ¬ nx < 0 by omega)]
   have pos : 0 < o.countP (fun x => decide (x < 0)) := List.countP_pos_iff.2 ⟨o[i],List.getElem_mem hl,by simp; omega⟩
   simp
   omega
  have hle : negs o ≤ o.length := List.countP_le_length
  refine groupNumbers_l2 h h0 (by omega) i (by omega) _ (cs.length + 1) (o.set i nx) [(i : Int)] ho2 (by simp; omega) (by simp; omega) (fun n hn => by rw [List.mem_singleton.1 hn]; omega) ?_
  have e1 := ih (i + 1) (nx + 1) (bfs R C cs nx (cs.length + 1) (o.set i nx) [(i : Int)]) (by omega) (by omega) (by omega) (by rw [bfs_len]; exact ho2)
  exact e1
theorem groupNumbers_ev {R C : Int} {cs : List S42} (h : GoodB R C cs) : Ev (fun k => impl_groupNumbers.f k R C cs) (groupsOf R C cs) := by
 have l90 := h.len90
 have key : ∀ (m i : Nat),i + m = cs.length → Ev (fun k => impl_groupNumbers.l0 k (List.replicate i (-1) ++ List.replicate m 0) (cs.length : Int) i R C cs) (groupsOf R C cs) := by
  intro m
  induction m with
  | zero =>
   intro i hi
   obtain rfl : i = cs.length := by omega
   refine Ev.succ ?_
   simp only [impl_groupNumbers.l0]
   refine Ev.neg (by omega) ?_
   rw [List.replicate_zero,List.append_nil]
   exact groupNumbers_l1 h cs.length 0 0 _ (by omega) (by omega) (by omega) (by simp)
  | succ m ih =>
   intro i hi
   refine Ev.succ ?_
   simp only [impl_groupNumbers.l0]
   refine Ev.pos (by omega) (Ev.pos (by omega) (Ev.pos (by simp; omega) ?_))
   rw [w64 (x := (i : Int) + 1) (by omega) (by omega),Int.toNat_natCast,List.replicate_succ,set_at _ _ _ _ _ (by simp)]
   have e : (List.replicate i (-1 : Int) ++ -1 :: List.replicate m 0) = List.replicate (i + 1) (-1) ++ List.replicate m 0 := by
    rw [List.replicate_succ',List.append_assoc]; rfl
   rw [e]
   exact ih (i + 1) (by omega)
 unfold impl_groupNumbers.f
 refine Ev.pos (by omega) (Ev.pos (by omega) (Ev.bind (Ev.now _) ?_))
 rw [Int.toNat_natCast,List.length_replicate]
 exact key cs.length 0 (by omega)
def flipped (c : S42) : S42 := ⟨c.f0,1 - c.f1⟩
def goes (c : S42) (side : Int) : Int := if c.f0 = 1 then -1 else if c.f0 = 2 then 1 else if c.f0 = 3 ∨ c.f0 = 6 then 2 * c.f1 - 1 else if c.f0 = 4 then -side else 0
def turnAll (g : List Int) (a : Int) (cs : List S42) : List S42 := cs.mapIdx (fun i c => if c.f0 = 6 ∧ rd g i = rd g a then flipped c else c)
def pass (g : List Int) (a : Int) (cs : List S42) : List S42 := if (rd_T42 cs a).f0 = 3 then cs.set a.toNat (flipped (rd_T42 cs a)) else if (rd_T42 cs a).f0 = 6 then turnAll g a cs else cs
def fallGo (R C : Int) (g : List Int) : Nat → Int → Int → Int → List S42 → List Int → Int × Int × Int × List Int × List S42
 | 0,_,col,_,cs,way => (1,R,col,way,cs)
 | m + 1,row,col,side,cs,way => if (rd_T42 cs (row * C + col)).f0 = 5 then (2,row,col,way ++ [row * C + col],cs)
  else if 0 ≤ col + goes (rd_T42 cs (row * C + col)) side ∧ col + goes (rd_T42 cs (row * C + col)) side < C then fallGo R C g m (row + 1) (col + goes (rd_T42 cs (row * C + col)) side) (-goes (rd_T42 cs (row * C + col)) side) (pass g (row * C + col) cs) (way ++ [row * C + col])
  else (3,row,col + goes (rd_T42 cs (row * C + col)) side,way ++ [row * C + col],pass g (row * C + col) cs)
theorem good_state {c : S42} (h : goodCell c = true) : 0 ≤ c.f0 ∧ c.f0 ≤ 7 ∧ 0 ≤ c.f1 ∧ c.f1 ≤ 1 ∧ (c.f1 = 1 → c.f0 = 3 ∨ c.f0 = 6) := by
 unfold goodCell turning at h
 simp only [Bool.and_eq_true,Bool.or_eq_true,decide_eq_true_eq,inR_iff] at h
 omega
theorem good_flipped {c : S42} (h : goodCell c = true) (ht : c.f0 = 3 ∨ c.f0 = 6) : goodCell (flipped c) = true := by
 have := good_state h
 unfold goodCell turning flipped
 simp only [Bool.and_eq_true,Bool.or_eq_true,decide_eq_true_eq,inR_iff]
 omega
theorem goes_in {c : S42} (h : goodCell c = true) {side : Int} (h0 : -1 ≤ side) (h1 : side ≤ 1) : -1 ≤ goes c side ∧ goes c side ≤ 1 := by
 have := good_state h
 unfold goes
 split
 ·omega
 split
 ·omega
 split
 ·omega
 split <;> omega
theorem rdC_mem {cs : List S42} {a : Int} (h0 : 0 ≤ a) (h1 : a < (cs.length : Int)) : rd_T42 cs a ∈ cs := by
 have := rdC_at cs a.toNat (by omega)
 rw [Int.toNat_of_nonneg h0] at this
 rw [this]
 exact List.getElem_mem _
theorem turnAll_len (g : List Int) (a : Int) (cs : List S42) : (turnAll g a cs).length = cs.length := List.length_mapIdx
theorem pass_len (g : List Int) (a : Int) (cs : List S42) : (pass g a cs).length = cs.length := by
 unfold pass
 split
 ·exact List.length_set
 split
 ·exact turnAll_len _ _ _
 ·rfl
theorem turnAll_good {g : List Int} {a : Int} {cs : List S42} (h : ∀ c ∈ cs,goodCell c = true) : ∀ c ∈ turnAll g a cs,goodCell c = true := by
 intro c hc
 obtain ⟨i,hi,he⟩ := List.mem_iff_getElem.1 hc
 unfold turnAll at he hi
 rw [List.length_mapIdx] at hi
 rw [List.getElem_mapIdx] at he
 rw [← he]
 split
 ·rename_i hg
  exact good_flipped (h _ (List.getElem_mem _)) (Or.inr hg.1)
 ·exact h _ (List.getElem_mem _)
theorem pass_good {g : List Int} {a : Int} {cs : List S42} (h0 : 0 ≤ a) (h1 : a < (cs.length : Int)) (h : ∀ c ∈ cs,goodCell c = true) : ∀ c ∈ pass g a cs,goodCell c = true := by
 unfold pass
 intro c hc
 split at hc
 ·rename_i h3
  rcases List.mem_or_eq_of_mem_set hc with hc | rfl
  ·exact h _ hc
  ·exact good_flipped (h _ (rdC_mem h0 h1)) (Or.inl h3)
 split at hc
 ·exact turnAll_good h _ hc
 ·exact h _ hc
theorem GoodB.pass {R C : Int} {cs : List S42} (h : GoodB R C cs) (g : List Int) {a : Int} (h0 : 0 ≤ a) (h1 : a < (cs.length : Int)) : GoodB R C (pass g a cs) :=
 ⟨h.r1,h.r2,h.c1,h.c2,by rw [pass_len]; exact h.len,pass_good h0 h1 h.good⟩
theorem paTurn_ok {c : S42} (h : goodCell c = true) : spec_paTurn.f c.f0 c.f1 = some ((flipped c).f0,(flipped c).f1) := by
 have := good_state h
 unfold spec_paTurn.f flipped
 rw [w64 (by omega) (by omega)]
theorem turnAll_get (g : List Int) (a : Int) (cs : List S42) (i : Nat) (hi : i < cs.length) : ∀ h : i < (turnAll g a cs).length,(turnAll g a cs)[i] = if cs[i].f0 = 6 ∧ rd g i = rd g a then flipped cs[i] else cs[i] := by
 unfold turnAll
 intro h
 rw [List.getElem_mapIdx]
theorem turn_step (g : List Int) (a : Int) (cs : List S42) (i : Nat) (hi : i < cs.length) : ((turnAll g a cs).take i ++ cs.drop i).set i (if cs[i].f0 = 6 ∧ rd g i = rd g a then flipped cs[i] else cs[i]) = (turnAll g a cs).take (i + 1) ++ cs.drop (i + 1) := by
 have hl : i < (turnAll g a cs).length := by rw [turnAll_len]; exact hi
 rw [List.drop_eq_getElem_cons hi,set_at _ _ _ _ _ (by rw [List.length_take]; omega),List.take_succ_eq_append_getElem hl,List.append_assoc]
 rw [turnAll_get g a cs i hi]; rfl
theorem turn_cur (g : List Int) (a : Int) (cs : List S42) (i : Nat) (hi : i < cs.length) : ((turnAll g a cs).take i ++ cs.drop i).length = cs.length ∧ rd_T42 ((turnAll g a cs).take i ++ cs.drop i) (i : Int) = cs[i] := by
 have hl : ((turnAll g a cs).take i ++ cs.drop i).length = cs.length := by
  rw [List.length_append,List.length_take,List.length_drop,turnAll_len]; omega
 refine ⟨hl,?_⟩
 rw [rdC_at _ i (by omega),List.getElem_append_right (by rw [List.length_take,turnAll_len]; omega)]
 rw [List.getElem_drop]
 congr 1
 rw [List.length_take,turnAll_len]
 omega
theorem turnGroup_ev {R C : Int} {cs : List S42} (h : GoodB R C cs) (g : List Int) (hg : g.length = cs.length) {a : Int} (h0 : 0 ≤ a) (h1 : a < (cs.length : Int)) : Ev (fun k => impl_turnGroup.f k R C cs g a) (turnAll g a cs) := by
 have l90 := h.len90
 have key : ∀ (m i : Nat),i + m = cs.length → Ev (fun k => impl_turnGroup.l0 k g a (cs.length : Int) i R C ((turnAll g a cs).take i ++ cs.drop i)) (turnAll g a cs) := by
  intro m
  induction m with
  | zero =>
   intro i hi
   refine Ev.succ ?_
   simp only [impl_turnGroup.l0]
   refine Ev.neg (by omega) (Ev.ret ?_)
   rw [List.take_of_length_le (by rw [turnAll_len]; omega),List.drop_eq_nil_of_le (by omega),List.append_nil]
  | succ m ih =>
   intro i hi
   have hil : i < cs.length := by omega
   obtain ⟨cl,cr⟩ := turn_cur g a cs i hil
   have st := turn_step g a cs i hil
   have hgood := good_state (h.good _ (List.getElem_mem hil))
   refine Ev.succ ?_
   simp only [impl_turnGroup.l0]
   rw [cr,cl,w64 (x := (i : Int) + 1) (by omega) (by omega),w64 (x := 1 - cs[i].f1) (by omega) (by omega),Int.toNat_natCast]
   refine Ev.pos (by omega) (Ev.pos (by omega) (Ev.pos (by omega) ?_))
   have same : ¬ (cs[i].f0 = 6 ∧ rd g i = rd g a) → Ev (fun k => impl_turnGroup.l0 k g a (cs.length : Int) ((i : Int) + 1) R C ((turnAll g a cs).take i ++ cs.drop i)) (turnAll g a cs) := by
    intro hn
    rw [if_neg hn] at st
    have e2 : ((turnAll g a cs).take i ++ cs.drop i).set i cs[i] = (turnAll g a cs).take i ++ cs.drop i := by
     rw [List.drop_eq_getElem_cons hil,set_at _ _ _ _ _ (by rw [List.length_take,turnAll_len]; omega)]
    rw [e2] at st
    rw [st]
    exact ih (i + 1) (by omega)
   by_cases h6 : cs[i].f0 = 6
   ·refine Ev.pos h6 (Ev.pos (by omega) (Ev.pos h0 (Ev.pos (by omega) ?_)))
    by_cases hq : rd g i = rd g a
    ·rw [if_pos ⟨h6,hq⟩] at st
     refine Ev.pos hq ?_
     have e3 : (⟨cs[i].f0,1 - cs[i].f1⟩ : S42) = flipped cs[i] := rfl
     rw [e3,st]
     exact ih (i + 1) (by omega)
    ·exact Ev.neg hq (same (fun hh => hq hh.2))
   ·exact Ev.neg h6 (same (fun hh => h6 hh.1))
 unfold impl_turnGroup.f
 have := key cs.length 0 (by omega)
 rwa [List.take_zero,List.drop_zero,List.nil_append] at this
theorem flPass_ev {R C : Int} {cs : List S42} (h : GoodB R C cs) (g : List Int) (hg : g.length = cs.length) {a : Int} (h0 : 0 ≤ a) (h1 : a < (cs.length : Int)) : Ev (fun k => spec_flPass.f k R C cs g a) (pass g a cs) := by
 have l90 := h.len90
 have key : ∀ (m i : Nat),i + m = cs.length → Ev (fun k => spec_flPass.l0 k g a (cs.length : Int) i R C ((turnAll g a cs).take i ++ cs.drop i)) (turnAll g a cs) := by
  intro m
  induction m with
  | zero =>
   intro i hi
   refine Ev.succ ?_
   simp only [spec_flPass.l0]
   refine Ev.neg (by omega) (Ev.ret ?_)
   rw [List.take_of_length_le (by rw [turnAll_len]; omega),List.drop_eq_nil_of_le (by omega),List.append_nil]
  | succ m ih =>
   intro i hi
   have hil : i < cs.length := by omega
   obtain ⟨cl,cr⟩ := turn_cur g a cs i hil
   have st := turn_step g a cs i hil
   refine Ev.succ ?_
   simp only [spec_flPass.l0]
   rw [cr,cl,w64 (x := (i : Int) + 1) (by omega) (by omega),Int.toNat_natCast]
   refine Ev.pos (by omega) (Ev.pos (by omega) (Ev.pos (by omega) ?_))
   have same : ¬ (cs[i].f0 = 6 ∧ rd g i = rd g a) → Ev (fun k => spec_flPass.l0 k g a (cs.length : Int) ((i : Int) + 1) R C ((turnAll g a cs).take i ++ cs.drop i)) (turnAll g a cs) := by
    intro hn
    rw [if_neg hn] at st
    have e2 : ((turnAll g a cs).take i ++ cs.drop i).set i cs[i] = (turnAll g a cs).take i ++ cs.drop i := by
     rw [List.drop_eq_getElem_cons hil,set_at _ _ _ _ _ (by rw [List.length_take,turnAll_len]; omega)]
    rw [e2] at st
    rw [st]
    exact ih (i + 1) (by omega)
   by_cases h6 : cs[i].f0 = 6
   ·refine Ev.pos h6 (Ev.pos (by omega) (Ev.pos h0 (Ev.pos (by omega) ?_)))
    by_cases hq : rd g i = rd g a
    ·rw [if_pos ⟨h6,hq⟩] at st
     refine Ev.pos hq (Ev.bind (Ev.val (paTurn_ok (h.good _ (List.getElem_mem hil)))) ?_)
     have e3 : (⟨(flipped cs[i]).f0,(flipped cs[i]).f1⟩ : S42) = flipped cs[i] := rfl
     rw [e3,st]
     exact ih (i + 1) (by omega)
    ·exact Ev.neg hq (same (fun hh => hq hh.2))
   ·exact Ev.neg h6 (same (fun hh => h6 hh.1))
 unfold spec_flPass.f pass
 refine Ev.pos h0 (Ev.pos h1 ?_)
 by_cases h3 : (rd_T42 cs a).f0 = 3
 ·rw [if_pos h3]
  exact Ev.pos h3 (Ev.bind (Ev.val (paTurn_ok (h.good _ (rdC_mem h0 h1)))) (Ev.now _))
 rw [if_neg h3]
 refine Ev.neg h3 ?_
 by_cases h6 : (rd_T42 cs a).f0 = 6
 ·rw [if_pos h6]
  refine Ev.pos h6 ?_
  have := key cs.length 0 (by omega)
  rwa [List.take_zero,List.drop_zero,List.nil_append] at this
 ·rw [if_neg h6]
  exact Ev.neg h6 (Ev.now _)
theorem paGoes_ev {c : S42} (h : goodCell c = true) {side : Int} (h0 : -1 ≤ side) (h1 : side ≤ 1) : Ev (fun k => spec_paGoes.f k c.f0 c.f1 side) (goes c side) := by
 have hs := good_state h
 unfold spec_paGoes.f goes
 by_cases a1 : c.f0 = 1
 ·rw [if_pos a1]; exact Ev.pos a1 (Ev.now _)
 rw [if_neg a1]
 refine Ev.neg a1 ?_
 by_cases a2 : c.f0 = 2
 ·rw [if_pos a2]; exact Ev.pos a2 (Ev.now _)
 rw [if_neg a2]
 refine Ev.neg a2 ?_
 by_cases a3 : c.f0 = 3
 ·rw [if_pos (Or.inl a3)]
  refine Ev.pos a3 (Ev.succ ?_)
  simp only [spec_paGoes.j0]
  rw [w64 (x := 2 * c.f1) (by omega) (by omega),w64 (by omega) (by omega)]
  exact Ev.pos (by simp [a3]) (Ev.now _)
 refine Ev.neg a3 (Ev.succ ?_)
 simp only [spec_paGoes.j0]
 by_cases a6 : c.f0 = 6
 ·rw [if_pos (Or.inr a6),w64 (x := 2 * c.f1) (by omega) (by omega),w64 (x := 2 * c.f1 - 1) (by omega) (by omega)]
  exact Ev.pos (by simp [a6]) (Ev.now _)
 rw [if_neg (show ¬ (c.f0 = 3 ∨ c.f0 = 6) by omega)]
 refine Ev.neg (by simp [a6]) ?_
 exact Ev.ite (fun _ => Ev.ret (w64 (by omega) (by omega))) (fun _ => Ev.now _)
theorem GoesTo_ev {c : S42} (h : goodCell c = true) {side : Int} (h0 : -1 ≤ side) (h1 : side ≤ 1) : Ev (fun k => impl_GoesTo.f k c.f0 c.f1 side) (if c.f0 = 5 then (0,false) else (goes c side,true)) := by
 have hs := good_state h
 unfold impl_GoesTo.f goes
 refine Ev.bind (Ev.val (IsCell_ok c)) (Ev.pos h (Ev.neg (by omega) (Ev.neg (by omega) (Ev.succ ?_))))
 simp only [impl_GoesTo.j0]
 by_cases a5 : c.f0 = 5
 ·rw [if_pos a5]; exact Ev.pos (by simp [a5]) (Ev.now _)
 rw [if_neg a5]
 refine Ev.neg (by simp [a5]) ?_
 by_cases a1 : c.f0 = 1
 ·rw [if_pos a1]; exact Ev.pos a1 (Ev.now _)
 rw [if_neg a1]
 refine Ev.neg a1 ?_
 by_cases a2 : c.f0 = 2
 ·rw [if_pos a2]; exact Ev.pos a2 (Ev.now _)
 rw [if_neg a2]
 refine Ev.neg a2 ?_
 by_cases a3 : c.f0 = 3
 ·rw [if_pos (Or.inl a3)]
  refine Ev.pos a3 (Ev.succ ?_)
  simp only [impl_GoesTo.j1]
  rw [w64 (x := 2 * c.f1) (by omega) (by omega),w64 (x := 2 * c.f1 - 1) (by omega) (by omega)]
  exact Ev.pos (by simp [a3]) (Ev.now _)
 refine Ev.neg a3 (Ev.succ ?_)
 simp only [impl_GoesTo.j1]
 by_cases a6 : c.f0 = 6
 ·rw [if_pos (Or.inr a6),w64 (x := 2 * c.f1) (by omega) (by omega),w64 (x := 2 * c.f1 - 1) (by omega) (by omega)]
  exact Ev.pos (by simp [a6]) (Ev.now _)
 rw [if_neg (show ¬ (c.f0 = 3 ∨ c.f0 = 6) by omega)]
 refine Ev.neg (by simp [a6]) ?_
 by_cases a4 : c.f0 = 4
 ·refine Ev.pos a4 (Ev.ret ?_)
  rw [w64 (by omega) (by omega),if_pos a4]
 ·exact Ev.neg a4 (Ev.ret (by rw [if_neg a4]))
theorem dropL_ev {R C : Int} (g : List Int) : ∀ (m : Nat) (row col side : Int) (cs : List S42) (way : List Int),GoodB R C cs → g.length = cs.length → row + m = R → 0 ≤ row → 0 ≤ col → col < C → -1 ≤ side → side ≤ 1 → (way.length : Int) ≤ row → Ev (fun k => impl_drop.l0 k g col way side row R C cs) (fallGo R C g m row col side cs way) := by
 intro m
 induction m with
 | zero =>
  intro row col side cs way h hg hr h0 c0 c1 s0 s1 hw
  refine Ev.succ ?_
  simp only [impl_drop.l0]
  exact Ev.neg (by omega) (Ev.now _)
 | succ m ih =>
  intro row col side cs way h hg hr h0 c0 c1 s0 s1 hw
  have b := h.idx h0 (show row < R by omega) c0 c1
  have l90 := h.len90
  have hc2 := h.c2
  have hr2 := h.r2
  have hgc := h.good _ (rdC_mem b.2.2.1 b.2.2.2)
  have hst := good_state hgc
  have hgo := goes_in hgc s0 s1
  have hp := h.pass g b.2.2.1 b.2.2.2
  refine Ev.succ ?_
  simp only [impl_drop.l0,fallGo]
  rw [w64 (x := row * C) (by omega) (by omega),w64 (x := row * C + col) (by omega) (by omega)]
  refine Ev.pos (by omega) (Ev.pos (by omega) (Ev.bind (Ev.now _) (Ev.pos b.2.2.1 (Ev.pos b.2.2.2 (Ev.bind (GoesTo_ev hgc s0 s1) ?_)))))
  by_cases a5 : (rd_T42 cs (row * C + col)).f0 = 5
  ·rw [if_pos a5,if_pos a5]
   exact Ev.neg (by simp) (Ev.now _)
  rw [if_neg a5,if_neg a5]
  refine Ev.pos (by trivial) ?_
  have tail : ∀ cs' : List S42,cs' = pass g (row * C + col) cs → Ev (fun k => if wrap64 (col + goes (rd_T42 cs (row * C + col)) side) < 0 then some (3,row,wrap64 (col + goes (rd_T42 cs (row * C + col)) side),way ++ [row * C + col],cs') else if wrap64 (col + goes (rd_T42 cs (row * C + col)) side) ≥ C then some (3,row,wrap64 (col + goes (rd_T42 cs (row * C + col)) side),way ++ [row * C + col],cs') else impl_drop.l0 k g (wrap64 (col + goes (rd_T42 cs (row * C + col)) side)) (way ++ [row * C + col]) (wrap64 (-goes (rd_T42 cs (row * C + col)) side)) (wrap64 (row + 1)) R C cs')
    (if 0 ≤ col + goes (rd_T42 cs (row * C + col)) side ∧ col + goes (rd_T42 cs (row * C + col)) side < C then fallGo R C g m (row + 1) (col + goes (rd_T42 cs (row * C + col)) side) (-goes (rd_T42 cs (row * C + col)) side) (pass g (row * C + col) cs) (way ++ [row * C + col]) else (3,row,col + goes (rd_T42 cs (row * C + col)) side,way ++ [row * C + col],pass g (row * C + col) cs)) := by
   intro cs' e
   subst e
   rw [w64 (x := col + goes (rd_T42 cs (row * C + col)) side) (by omega) (by omega),w64 (x := -goes (rd_T42 cs (row * C + col)) side) (by omega) (by omega),w64 (x := row + 1) (by omega) (by omega)]
   by_cases n0 : col + goes (rd_T42 cs (row * C + col)) side < 0
   ·rw [if_neg (fun hh => by omega)]; exact Ev.pos n0 (Ev.now _)
   refine Ev.neg n0 ?_
   by_cases n1 : col + goes (rd_T42 cs (row * C + col)) side ≥ C
   ·rw [if_neg (fun hh => by omega)]; exact Ev.pos n1 (Ev.now _)
   rw [if_pos ⟨by omega,by omega⟩]
   refine Ev.neg n1 (ih _ _ _ _ _ hp (by rw [pass_len]; exact hg) (by omega) (by omega) (by omega) (by omega) (by omega) (by omega) ?_)
   rw [List.length_append]
   simp
   omega
  by_cases a3 : (rd_T42 cs (row * C + col)).f0 = 3
  ·refine Ev.pos a3 (Ev.succ ?_)
   simp only [impl_drop.j1]
   refine Ev.neg (by omega) (tail _ ?_)
   unfold pass
   rw [if_pos a3,w64 (x := 1 - (rd_T42 cs (row * C + col)).f1) (by omega) (by omega)]
   rfl
  refine Ev.neg a3 (Ev.succ ?_)
  simp only [impl_drop.j1]
  by_cases a6 : (rd_T42 cs (row * C + col)).f0 = 6
  ·refine Ev.pos a6 (Ev.bind (turnGroup_ev h g hg b.2.2.1 b.2.2.2) (tail _ ?_))
   unfold pass
   rw [if_neg a3,if_pos a6]
  ·refine Ev.neg a6 (tail _ ?_)
   unfold pass
   rw [if_neg a3,if_neg a6]
theorem drop_ev {R C : Int} {g : List Int} {cs : List S42} (h : GoodB R C cs) (hg : g.length = cs.length) {col : Int} (c0 : 0 ≤ col) (c1 : col < C) : Ev (fun k => impl_drop.f k R C cs g col) (fallGo R C g R.toNat 0 col 0 cs []) := by
 have hr := h.r1
 exact dropL_ev g R.toNat 0 col 0 cs [] h hg (by omega) (by omega) c0 c1 (by omega) (by omega) (by simp)
def wayL (C : Int) (way : List Int) : List (List Int) := way.map (fun a => [a / C,a % C])
theorem wayL_snoc {C row col : Int} (c0 : 0 ≤ col) (c1 : col < C) (way : List Int) : wayL C (way ++ [row * C + col]) = wayL C way ++ [[row,col]] := by
 unfold wayL
 rw [List.map_append,List.map_cons,List.map_nil]
 have e : row * C + col = col + row * C := by omega
 have e1 : (row * C + col) / C = row := by rw [e,Int.add_mul_ediv_right _ _ (by omega),Int.ediv_eq_zero_of_lt c0 c1,Int.zero_add]
 have e2 : (row * C + col) % C = col := by rw [e,Int.add_mul_emod_self_right]; exact Int.emod_eq_of_lt c0 c1
 rw [e1,e2]
theorem flGoL_ev {R C : Int} (g : List Int) (o : List S42) : ∀ (m : Nat) (row col side : Int) (cs : List S42) (way : List Int),GoodB R C cs → g.length = cs.length → row + m = R → 0 ≤ row → 0 ≤ col → col < C → -1 ≤ side → side ≤ 1 → (way.length : Int) ≤ row → Ev (fun k => spec_flGo.l0 k g col (wayL C way) side row R C o R C cs) ((fallGo R C g m row col side cs way).1,(fallGo R C g m row col side cs way).2.1,(fallGo R C g m row col side cs way).2.2.1,R,C,(fallGo R C g m row col side cs way).2.2.2.2,wayL C (fallGo R C g m row col side cs way).2.2.2.1) := by
 intro m
 induction m with
 | zero =>
  intro row col side cs way h hg hr h0 c0 c1 s0 s1 hw
  refine Ev.succ ?_
  simp only [spec_flGo.l0]
  exact Ev.neg (by omega) (Ev.now _)
 | succ m ih =>
  intro row col side cs way h hg hr h0 c0 c1 s0 s1 hw
  have b := h.idx h0 (show row < R by omega) c0 c1
  have l90 := h.len90
  have hc2 := h.c2
  have hr2 := h.r2
  have hgc := h.good _ (rdC_mem b.2.2.1 b.2.2.2)
  have hst := good_state hgc
  have hgo := goes_in hgc s0 s1
  have hp := h.pass g b.2.2.1 b.2.2.2
  refine Ev.succ ?_
  simp only [spec_flGo.l0,fallGo]
  have hwl : (wayL C way).length = way.length := by unfold wayL; exact List.length_map _
  rw [hwl,← wayL_snoc c0 c1]
  refine Ev.pos (by omega) (Ev.pos (by omega) (Ev.bind (Ev.now _) (Ev.bind (Ev.val (boAt_ok h h0 (show row < R by omega) c0 c1)) ?_)))
  by_cases a5 : (rd_T42 cs (row * C + col)).f0 = 5
  ·rw [if_pos a5]
   exact Ev.pos a5 (Ev.now _)
  rw [if_neg a5]
  refine Ev.neg a5 (Ev.bind (paGoes_ev hgc s0 s1) ?_)
  rw [w64 (x := row * C) (by omega) (by omega),w64 (x := row * C + col) (by omega) (by omega),w64 (x := col + goes (rd_T42 cs (row * C + col)) side) (by omega) (by omega),w64 (x := C - 1) (by omega) (by omega),w64 (x := -goes (rd_T42 cs (row * C + col)) side) (by omega) (by omega),w64 (x := row + 1) (by omega) (by omega)]
  refine Ev.bind (flPass_ev h g hg b.2.2.1 b.2.2.2) (Ev.bind (Ev.val (l1In_ok _ _ _)) ?_)
  by_cases n : 0 ≤ col + goes (rd_T42 cs (row * C + col)) side ∧ col + goes (rd_T42 cs (row * C + col)) side < C
  ·rw [if_pos n]
   refine Ev.pos (inR_iff.2 ⟨n.1,by omega⟩) (ih _ _ _ _ _ hp (by rw [pass_len]; exact hg) (by omega) (by omega) (by omega) (by omega) (by omega) (by omega) ?_)
   rw [List.length_append]
   simp
   omega
  ·rw [if_neg n]
   exact Ev.neg (fun hh => n (by have := inR_iff.1 hh; omega)) (Ev.now _)
theorem flGo_ev {R C : Int} {g : List Int} {cs : List S42} (h : GoodB R C cs) (hg : g.length = cs.length) {col : Int} (c0 : 0 ≤ col) (c1 : col < C) : Ev (fun k => spec_flGo.f k R C cs g col) ((fallGo R C g R.toNat 0 col 0 cs []).1,(fallGo R C g R.toNat 0 col 0 cs []).2.1,(fallGo R C g R.toNat 0 col 0 cs []).2.2.1,R,C,(fallGo R C g R.toNat 0 col 0 cs []).2.2.2.2,wayL C (fallGo R C g R.toNat 0 col 0 cs []).2.2.2.1) := by
 have hr := h.r1
 have l90 := h.len90
 unfold spec_flGo.f
 refine Ev.bind (Ev.val (boOwn_ok R C cs (by omega))) ?_
 exact flGoL_ev g cs R.toNat 0 col 0 cs [] h hg (by omega) (by omega) c0 c1 (by omega) (by omega) (by simp)
def fallR (R C : Int) (cs : List S42) (col : Int) : Int × Int × Int × List Int × List S42 := fallGo R C (groupsOf R C cs) R.toNat 0 col 0 cs []
theorem flRun_ev {R C : Int} {cs : List S42} (h : GoodB R C cs) {col : Int} (c0 : 0 ≤ col) (c1 : col < C) : Ev (fun k => spec_flRun.f k R C cs col) ((fallR R C cs col).1,(fallR R C cs col).2.1,(fallR R C cs col).2.2.1,R,C,(fallR R C cs col).2.2.2.2) := by
 unfold spec_flRun.f
 exact Ev.bind (ggGroups_ev h) (Ev.bind (flGo_ev h (groupsOf_len R C cs) c0 c1) (Ev.now _))
def validE (R C : Int) (cs : List S42) (col : Int) : Bool := boardGood R C cs && inR col 0 (C - 1)
theorem flHas_ev (R C : Int) (cs : List S42) (col : Int) (hl : cs.length ≤ 1048576) : Ev (fun k => spec_flHas.f k R C cs col) (validE R C cs col) := by
 unfold spec_flHas.f validE
 refine Ev.bind (boGood_ev R C cs hl) ?_
 by_cases h : boardGood R C cs = true
 ·have hb := GoodB.of h
  have := hb.c1
  have := hb.c2
  rw [h,Bool.true_and,w64 (x := C - 1) (by omega) (by omega)]
  exact Ev.pos (by trivial) (Ev.bind (Ev.val (l1In_ok _ _ _)) (Ev.now _))
 ·exact Ev.neg h (Ev.ret (by rw [Bool.eq_false_iff.mpr h,Bool.false_and]))
theorem validEntry_ev (R C : Int) (cs : List S42) (col : Int) : Ev (fun k => impl_validEntry.f k R C cs col) (validE R C cs col) := by
 unfold impl_validEntry.f validE
 refine Ev.bind (IsBoard_ev R C cs) ?_
 by_cases h : boardGood R C cs = true
 ·have hb := GoodB.of h
  rw [h,Bool.true_and]
  refine Ev.pos (by trivial) ?_
  unfold inR
  by_cases a : col ≥ 0
  ·refine Ev.pos a (Ev.ret ?_)
   rw [decide_eq_true a,Bool.true_and]
   exact decide_eq_decide.2 ⟨fun _ => by omega,fun _ => by omega⟩
  ·refine Ev.neg a (Ev.ret ?_)
   rw [decide_eq_false (show ¬ 0 ≤ col by omega),Bool.false_and]
 ·exact Ev.neg h (Ev.ret (by rw [Bool.eq_false_iff.mpr h,Bool.false_and]))
theorem validE_of {R C : Int} {cs : List S42} {col : Int} (h : validE R C cs col = true) : GoodB R C cs ∧ 0 ≤ col ∧ col < C := by
 unfold validE at h
 rw [Bool.and_eq_true,inR_iff] at h
 exact ⟨GoodB.of h.1,h.2.1,by omega⟩
theorem FallOf_ev (R C : Int) (cs : List S42) (col : Int) : Ev (fun k => impl_FallOf.f k R C cs col) (if validE R C cs col = true then ((fallR R C cs col).1,(fallR R C cs col).2.1,(fallR R C cs col).2.2.1,true) else (0,0,0,false)) := by
 unfold impl_FallOf.f
 refine Ev.bind (validEntry_ev R C cs col) (Ev.ite (fun h => ?_) (fun _ => Ev.now _))
 obtain ⟨hb,h0,h1⟩ := validE_of h
 have l90 := hb.len90
 exact Ev.bind (Ev.val (copyBoard_ok R C cs (by omega))) (Ev.bind (groupNumbers_ev hb) (Ev.bind (drop_ev hb (groupsOf_len R C cs) h0 h1) (Ev.now _)))
def endNum (C e col : Int) : Int := if e = 1 then col else if e = 2 then C else C + 1
theorem syEnd_ok {C : Int} (h0 : 0 ≤ C) (h1 : C ≤ 9) (R : Int) (cs : List S42) (e row col : Int) : spec_syEnd.f R C cs e row col = some (endNum C e col) := by
 unfold spec_syEnd.f endNum
 rw [w64 (x := C + 1) (by omega) (by omega)]
 split
 ·rfl
 split <;> rfl
theorem endNumber_ok {C : Int} (h0 : 0 ≤ C) (h1 : C ≤ 9) (R : Int) (cs : List S42) (e row col : Int) : impl_endNumber.f R C cs e row col = some (endNum C e col) := by
 unfold impl_endNumber.f endNum
 rw [w64 (x := C + 1) (by omega) (by omega)]
 split
 ·rfl
 split <;> rfl
theorem kind_at {cs ds : List S42} (h : cs.map (·.f0) = ds.map (·.f0)) (n : Int) : (rd_T42 cs n).f0 = (rd_T42 ds n).f0 := by
 have hl : cs.length = ds.length := by have := congrArg List.length h; simpa using this
 by_cases a : n.toNat < cs.length
 ·have e1 : rd_T42 cs n = cs[n.toNat] := by unfold rd_T42; rw [List.getD_eq_getElem?_getD,List.getElem?_eq_getElem a]; rfl
  have e2 : rd_T42 ds n = ds[n.toNat] := by unfold rd_T42; rw [List.getD_eq_getElem?_getD,List.getElem?_eq_getElem (hl ▸ a)]; rfl
  have e3 : (cs.map (·.f0))[n.toNat]? = (ds.map (·.f0))[n.toNat]? := by rw [h]
  rw [List.getElem?_map,List.getElem?_map,List.getElem?_eq_getElem a,List.getElem?_eq_getElem (hl ▸ a)] at e3
  rw [e1,e2]
  exact Option.some.inj e3
 ·unfold rd_T42
  rw [List.getD_eq_getElem?_getD,List.getD_eq_getElem?_getD,List.getElem?_eq_none (by omega),List.getElem?_eq_none (by omega)]
theorem geared_kind {c d : S42} (h : c.f0 = d.f0) : geared c = geared d := by unfold geared; rw [h]
theorem visit_kinds {cs ds : List S42} (h : cs.map (·.f0) = ds.map (·.f0)) (nx : Int) : ∀ (ns o q : List Int),visit cs nx ns o q = visit ds nx ns o q
 | [],o,q => rfl
 | n :: t,o,q => by rw [visit,visit,geared_kind (kind_at h n),visit_kinds h nx t,visit_kinds h nx t]
theorem bfs_kinds {cs ds : List S42} (h : cs.map (·.f0) = ds.map (·.f0)) (R C nx : Int) : ∀ (k : Nat) (o q : List Int),bfs R C cs nx k o q = bfs R C ds nx k o q
 | 0,o,q => rfl
 | k + 1,o,[] => rfl
 | k + 1,o,a :: q => by rw [bfs,bfs,visit_kinds h,bfs_kinds h R C nx k]
theorem grp_kinds {cs ds : List S42} (h : cs.map (·.f0) = ds.map (·.f0)) (R C : Int) : ∀ (m i : Nat) (nx : Int) (o : List Int),grp R C cs m i nx o = grp R C ds m i nx o
 | 0,i,nx,o => rfl
 | m + 1,i,nx,o => by
  have hl : cs.length = ds.length := by have := congrArg List.length h; simpa using this
  rw [grp,grp,geared_kind (kind_at h i),bfs_kinds h,hl,grp_kinds h R C m,grp_kinds h R C m]
theorem groupsOf_kinds {cs ds : List S42} (h : cs.map (·.f0) = ds.map (·.f0)) (R C : Int) : groupsOf R C cs = groupsOf R C ds := by
 have hl : cs.length = ds.length := by have := congrArg List.length h; simpa using this
 unfold groupsOf
 rw [hl,grp_kinds h]
theorem turnAll_kinds (g : List Int) (a : Int) (cs : List S42) : (turnAll g a cs).map (·.f0) = cs.map (·.f0) := by
 refine List.ext_getElem (by simp [turnAll_len]) (fun i h1 h2 => ?_)
 rw [List.getElem_map,List.getElem_map,turnAll_get g a cs i (by simpa using h2)]
 split
 ·rfl
 ·rfl
theorem pass_kinds (g : List Int) {a : Int} {cs : List S42} (h0 : 0 ≤ a) (h1 : a < (cs.length : Int)) : (pass g a cs).map (·.f0) = cs.map (·.f0) := by
 unfold pass
 split
 ·have hl : a.toNat < cs.length := by omega
  have e1 : rd_T42 cs a = cs[a.toNat] := by unfold rd_T42; rw [List.getD_eq_getElem?_getD,List.getElem?_eq_getElem hl]; rfl
  rw [List.map_set,e1]
  have e2 : (flipped cs[a.toNat]).f0 = (cs.map (·.f0))[a.toNat]'(by simpa using hl) := by rw [List.getElem_map]; rfl
  rw [e2,List.set_getElem_self]
 ·split
  ·exact turnAll_kinds g a cs
  ·rfl
theorem fallGo_keep {R C : Int} (g : List Int) : ∀ (m : Nat) (row col side : Int) (cs : List S42) (way : List Int),GoodB R C cs → row + m = R → 0 ≤ row → 0 ≤ col → col < C → -1 ≤ side → side ≤ 1 → GoodB R C (fallGo R C g m row col side cs way).2.2.2.2 ∧ (fallGo R C g m row col side cs way).2.2.2.2.map (·.f0) = cs.map (·.f0) := by
 intro m
 induction m with
 | zero => intro row col side cs way h hr h0 c0 c1 s0 s1; exact ⟨h,rfl⟩
 | succ m ih =>
  intro row col side cs way h hr h0 c0 c1 s0 s1
  have b := h.idx h0 (by omega) c0 c1
  have hgood := h.good _ (rdC_mem b.2.2.1 b.2.2.2)
  have hgo := goes_in hgood s0 s1
  have hp := h.pass g b.2.2.1 b.2.2.2
  have hk := pass_kinds g b.2.2.1 b.2.2.2
  rw [fallGo]
  split
  ·exact ⟨h,rfl⟩
  ·split
   case isTrue hin =>
    have e := ih (row + 1) _ (-goes (rd_T42 cs (row * C + col)) side) (pass g (row * C + col) cs) (way ++ [row * C + col]) hp (by omega) (by omega) hin.1 hin.2 (by omega) (by omega)
    exact ⟨e.1,e.2.trans hk⟩
   case isFalse => exact ⟨hp,hk⟩
theorem fallR_keep {R C : Int} {cs : List S42} (h : GoodB R C cs) {col : Int} (c0 : 0 ≤ col) (c1 : col < C) : GoodB R C (fallR R C cs col).2.2.2.2 ∧ (fallR R C cs col).2.2.2.2.map (·.f0) = cs.map (·.f0) := by
 have hr := h.r1
 exact fallGo_keep (groupsOf R C cs) R.toNat 0 col 0 cs [] h (by omega) (by omega) c0 c1 (by omega) (by omega)
def meetGo (R C : Int) : List S42 → List Int → List Int → Bool
 | _,[],_ => true
 | _,_ :: _,[] => false
 | cs,e :: es,n :: ns => if endNum C (fallR R C cs e).1 (fallR R C cs e).2.2.1 = n then meetGo R C (fallR R C cs e).2.2.2.2 es ns else false
theorem syMeets_ev {R C : Int} (r c : Int) (P : List S42) {es ns : List Int} (hn : ns.length = es.length) (hl : es.length ≤ 1000) (hes : ∀ e ∈ es,0 ≤ e ∧ e < C) {b : List S42} (h : GoodB R C b) : Ev (fun k => spec_syMeets.f k r c P es ns R C b) (meetGo R C b es ns) := by
 have hc1 := h.c1
 have hc2 := h.c2
 have key : ∀ (m i : Nat) (cs : List S42),i + m = es.length → GoodB R C cs → Ev (fun k => spec_syMeets.l0 k es (es.length : Int) i r c P es ns R C b R C cs) (meetGo R C cs (es.drop i) (ns.drop i)) := by
  intro m
  induction m with
  | zero =>
   intro i cs hi hg
   refine Ev.succ ?_
   simp only [spec_syMeets.l0]
   rw [List.drop_eq_nil_of_le (show es.length ≤ i by omega)]
   exact Ev.neg (by omega) (Ev.ret (by rw [meetGo]))
  | succ m ih =>
   intro i cs hi hg
   have h1 : i < es.length := by omega
   have h2 : i < ns.length := by omega
   have hb := hes _ (List.getElem_mem h1)
   refine Ev.succ ?_
   simp only [spec_syMeets.l0]
   rw [rd_at es i h1,rd_at ns i h2,w64 (by omega) (by omega),List.drop_eq_getElem_cons h1,List.drop_eq_getElem_cons h2,meetGo]
   refine Ev.pos (by omega) (Ev.pos (by omega) (Ev.pos (by omega) (Ev.bind (flRun_ev hg hb.1 hb.2) (Ev.bind (Ev.val (syEnd_ok (by omega) hc2 _ _ _ _ _)) (Ev.pos (by omega) ?_)))))
   exact Ev.ite (fun _ => ih (i + 1) _ (by omega) (fallR_keep hg hb.1 hb.2).1) (fun _ => Ev.now _)
 exact key es.length 0 b (by omega) h
theorem hasEnds_ev {R C : Int} (r c : Int) (P : List S42) {es ns : List Int} (hn : ns.length = es.length) (hl : es.length ≤ 1000) (hes : ∀ e ∈ es,0 ≤ e ∧ e < C) {b : List S42} (h : GoodB R C b) : Ev (fun k => impl_hasEnds.f k r c P es ns R C b) (meetGo R C b es ns) := by
 have hc1 := h.c1
 have hc2 := h.c2
 have l90 := h.len90
 have key : ∀ (m i : Nat) (cs : List S42),i + m = es.length → GoodB R C cs → groupsOf R C b = groupsOf R C cs → Ev (fun k => impl_hasEnds.l0 k (groupsOf R C b) es (es.length : Int) i r c P es ns R C b R C cs) (meetGo R C cs (es.drop i) (ns.drop i)) := by
  intro m
  induction m with
  | zero =>
   intro i cs hi hg hk
   refine Ev.succ ?_
   simp only [impl_hasEnds.l0]
   rw [List.drop_eq_nil_of_le (show es.length ≤ i by omega)]
   exact Ev.neg (by omega) (Ev.ret (by rw [meetGo]))
  | succ m ih =>
   intro i cs hi hg hk
   have h1 : i < es.length := by omega
   have h2 : i < ns.length := by omega
   have hb := hes _ (List.getElem_mem h1)
   have kp := fallR_keep hg hb.1 hb.2
   refine Ev.succ ?_
   simp only [impl_hasEnds.l0]
   rw [rd_at es i h1,rd_at ns i h2,w64 (by omega) (by omega),List.drop_eq_getElem_cons h1,List.drop_eq_getElem_cons h2,meetGo]
   have hd : Ev (fun k => impl_drop.f k R C cs (groupsOf R C b) es[i]) (fallR R C cs es[i]) := by
    rw [hk]
    exact drop_ev hg (groupsOf_len R C cs) hb.1 hb.2
   refine Ev.pos (by omega) (Ev.pos (by omega) (Ev.pos (by omega) (Ev.bind hd (Ev.bind (Ev.val (endNumber_ok (by omega) hc2 _ _ _ _ _)) (Ev.pos (by omega) ?_)))))
   exact Ev.ite (fun _ => ih (i + 1) _ (by omega) kp.1 (hk.trans (groupsOf_kinds kp.2 R C).symm)) (fun _ => Ev.now _)
 unfold impl_hasEnds.f
 exact Ev.bind (Ev.val (copyBoard_ok R C b (by omega))) (Ev.bind (groupNumbers_ev h) (key es.length 0 b (by omega) h rfl))
theorem l1All_ev (l : List Int) (lo hi : Int) (hl : l.length ≤ 4611686018427387904) : Ev (fun k => spec_l1All.f k l lo hi) (l.all fun x => inR x lo hi) := by
 have key : ∀ (n i : Nat),i + n = l.length → Ev (fun k => spec_l1All.l0 k lo hi l (l.length : Int) i) ((l.drop i).all fun x => inR x lo hi) := by
  intro n
  induction n with
  | zero =>
   intro i hi
   refine Ev.succ ?_
   simp only [spec_l1All.l0]
   refine Ev.neg (by omega) (Ev.ret ?_)
   rw [List.drop_eq_nil_of_le (by omega)]; rfl
  | succ n ih =>
   intro i hi'
   refine Ev.succ ?_
   simp only [spec_l1All.l0]
   refine Ev.pos (by omega) (Ev.pos (by omega) (Ev.pos (by omega) ?_))
   rw [rd_at l i (by omega),w64 (by omega) (by omega),List.drop_eq_getElem_cons (show i < l.length by omega)]
   have e := ih (i + 1) (by omega)
   refine Ev.bind (Ev.val (l1In_ok _ _ _)) ?_
   by_cases h : inR l[i] lo hi = true
   ·refine Ev.pos h (Ev.cast e ?_)
    rw [List.all_cons,h,Bool.true_and]
   ·refine Ev.neg h (Ev.ret ?_)
    rw [List.all_cons,Bool.eq_false_iff.mpr h]; rfl
 exact key l.length 0 (by omega)
def pw (a : Int) : Nat → Int → Int
 | 0,o => o
 | n + 1,o => if o ≤ 7000 then pw a n (o * a) else o
theorem pw_big (a : Int) (n : Nat) (o : Int) (h : ¬ o ≤ 7000) : pw a n o = o := by
 cases n with
 | zero => rfl
 | succ n => rw [pw,if_neg h]
theorem syPower_ev (a : Int) (ha : 2 ≤ a) (ha' : a ≤ 7) : ∀ (n : Nat) (o : Int),n ≤ 1000 → 1 ≤ o → o ≤ 49000 → Ev (fun k => spec_syPower.l0 k a n o) (pw a n o) := by
 intro n
 induction n with
 | zero =>
  intro o _ _ _
  refine Ev.succ ?_
  simp only [spec_syPower.l0]
  exact Ev.neg (by omega) (Ev.now _)
 | succ n ih =>
  intro o hn h1 h2
  refine Ev.succ ?_
  simp only [spec_syPower.l0,pw]
  refine Ev.pos (by omega) ?_
  by_cases h : o ≤ 7000
  ·refine Ev.pos h ?_
   rw [if_pos h]
   have b := mulb (show 0 ≤ o by omega) h (show 0 ≤ a by omega) ha'
   have b2 : 1 * 1 ≤ o * a := Int.mul_le_mul h1 (by omega) (by omega) (by omega)
   rw [w64 (x := o * a) (by omega) (by omega),w64 (by omega) (by omega)]
   have e : ((n + 1 : Nat) : Int) - 1 = (n : Int) := by omega
   rw [e]
   exact ih _ (by omega) (by omega) (by omega)
  ·rw [if_neg h]
   exact Ev.neg h (Ev.now _)
def tried (r c : Int) (n : Nat) : Int := pw ((n : Int) + 1) (r * c).toNat 1
theorem rc_bd {r c : Int} (hr : inR r 1 4 = true) (hc : inR c 1 4 = true) : 1 ≤ r * c ∧ r * c ≤ 16 := by
 rw [inR_iff] at hr hc
 have b := mulb (show 0 ≤ r by omega) hr.2 (show 0 ≤ c by omega) hc.2
 have b2 : 1 * 1 ≤ r * c := Int.mul_le_mul hr.1 hc.1 (by omega) (by omega)
 omega
theorem syTried_ev (r c : Int) (p : List S42) (e n : List Int) (hr : inR r 1 4 = true) (hc : inR c 1 4 = true) (hp : inR (p.length : Int) 1 6 = true) : Ev (fun k => spec_syTried.f k r c p e n) (tried r c p.length) := by
 have b := rc_bd hr hc
 rw [inR_iff] at hp
 unfold spec_syTried.f spec_syPower.f tried
 refine Ev.bind ?_ (Ev.now _)
 rw [w64 (by omega) (by omega),w64 (by omega) (by omega)]
 have h := syPower_ev ((p.length : Int) + 1) (by omega) (by omega) (r * c).toNat 1 (by omega) (by omega) (by omega)
 rw [Int.toNat_of_nonneg (by omega)] at h
 exact h
def partsFrom (pre : List S42) : List S42 → Bool
 | [] => true
 | p :: t => goodCell p && (!decide (p.f0 = 0) && (!decide (p ∈ pre) && partsFrom (pre ++ [p]) t))
def chRest (r c : Int) (p : List S42) (e n : List Int) : Bool := e.all (fun x => inR x 0 (c - 1)) && (n.all (fun x => inR x 0 (c + 1)) && decide (tried r c p.length ≤ 7000))
def chDims (r c : Int) (p : List S42) (e n : List Int) : Bool := inR r 1 4 && (inR c 1 4 && (inR (p.length : Int) 1 6 && (inR (e.length : Int) 1 8 && decide (n.length = e.length))))
def chGood (r c : Int) (p : List S42) (e n : List Int) : Bool := chDims r c p e n && (partsFrom [] p && chRest r c p e n)
theorem syGood_j3t (r c : Int) (p : List S42) (e n : List Int) : Ev (fun k => spec_syGood.j3 k true r c p e n) false := by
 refine Ev.succ ?_
 simp only [spec_syGood.j3]
 exact Ev.pos (by trivial) (Ev.now _)
theorem syGood_end (r c : Int) (p : List S42) (e n : List Int) (he : e.length ≤ 1048576) (hn : n.length ≤ 1048576) : Ev (fun k => spec_syGood.l0 k p (p.length : Int) (p.length : Int) r c p e n) (chDims r c p e n && chRest r c p e n) := by
 refine Ev.succ ?_
 simp only [spec_syGood.l0]
 unfold chDims
 refine Ev.neg (by omega) (Ev.bind (Ev.val (l1In_ok _ _ _)) ?_)
 by_cases h1 : inR r 1 4 = true
 case neg => exact Ev.neg h1 (Ev.cast (syGood_j3t r c p e n) (by simp [h1]))
 refine Ev.pos h1 (Ev.bind (Ev.val (l1In_ok _ _ _)) ?_)
 by_cases h2 : inR c 1 4 = true
 case neg => exact Ev.neg h2 (Ev.cast (syGood_j3t r c p e n) (by simp [h2]))
 refine Ev.pos h2 (Ev.bind (Ev.val (l1In_ok _ _ _)) ?_)
 by_cases h3 : inR (p.length : Int) 1 6 = true
 case neg => exact Ev.neg h3 (Ev.cast (syGood_j3t r c p e n) (by simp [h3]))
 refine Ev.pos h3 (Ev.bind (Ev.val (l1In_ok _ _ _)) ?_)
 by_cases h4 : inR (e.length : Int) 1 8 = true
 case neg => exact Ev.neg h4 (Ev.cast (syGood_j3t r c p e n) (by simp [h4]))
 refine Ev.pos h4 ?_
 by_cases h5 : n.length = e.length
 case neg =>
  have hb : ((n.length : Int) != (e.length : Int)) = true := by simp; omega
  rw [hb]
  exact Ev.cast (syGood_j3t r c p e n) (by simp [h5])
 have hb : ((n.length : Int) != (e.length : Int)) = false := by simp [h5]
 rw [hb,h1,h2,h3,h4,decide_eq_true h5]
 simp only [Bool.true_and]
 have h2' := inR_iff.1 h2
 refine Ev.succ ?_
 simp only [spec_syGood.j3]
 unfold chRest
 rw [w64 (x := c - 1) (by omega) (by omega),w64 (x := c + 1) (by omega) (by omega)]
 refine Ev.neg (by simp) (Ev.bind (l1All_ev e 0 (c - 1) (by omega)) ?_)
 by_cases h6 : (e.all fun x => inR x 0 (c - 1)) = true
 case neg => exact Ev.neg h6 (Ev.ret (by rw [Bool.eq_false_iff.mpr h6,Bool.false_and]))
 refine Ev.pos h6 (Ev.bind (l1All_ev n 0 (c + 1) (by omega)) ?_)
 by_cases h7 : (n.all fun x => inR x 0 (c + 1)) = true
 case neg => exact Ev.neg h7 (Ev.ret (by rw [Bool.eq_false_iff.mpr h7,Bool.false_and,Bool.and_false]))
 refine Ev.pos h7 (Ev.bind (syTried_ev r c p e n h1 h2 h3) (Ev.ret ?_))
 rw [h6,h7,Bool.true_and,Bool.true_and]
theorem syGood_parts (r c : Int) (p : List S42) (e n : List Int) (hp : p.length ≤ 1048576) (he : e.length ≤ 1048576) (hn : n.length ≤ 1048576) :
  ∀ (m i : Nat),i + m = p.length → Ev (fun k => spec_syGood.l0 k p (p.length : Int) i r c p e n) (partsFrom (p.take i) (p.drop i) && (chDims r c p e n && chRest r c p e n)) := by
 intro m
 induction m with
 | zero =>
  intro i hi
  obtain rfl : i = p.length := by omega
  rw [List.drop_eq_nil_of_le (Nat.le_refl _),partsFrom,Bool.true_and]
  exact syGood_end r c p e n he hn
 | succ m ih =>
  intro i hi
  have e1 := ih (i + 1) (by omega)
  generalize (chDims r c p e n && chRest r c p e n) = Z at e1 ⊢
  refine Ev.succ ?_
  simp only [spec_syGood.l0]
  refine Ev.pos (by omega) (Ev.pos (by omega) (Ev.pos (by omega) ?_))
  rw [rdC_at p i (by omega),List.drop_eq_getElem_cons (show i < p.length by omega),partsFrom,← List.take_succ_eq_append_getElem (by omega)]
  refine Ev.bind (Ev.val (paGood_ok p[i])) ?_
  by_cases h1 : goodCell p[i] = true
  case neg =>
   refine Ev.neg h1 (Ev.succ ?_)
   simp only [spec_syGood.j1]
   exact Ev.pos (by trivial) (Ev.ret (by simp [h1]))
  refine Ev.pos h1 (Ev.succ ?_)
  simp only [spec_syGood.j1]
  by_cases h2 : p[i].f0 = 0
  ·exact Ev.pos (by simp [h2]) (Ev.ret (by simp [h2]))
  refine Ev.neg (by simp [h2]) (Ev.pos (by omega) (Ev.pos (by omega) (Ev.bind (Ev.now _) ?_)))
  rw [h1,decide_eq_false h2,Bool.true_and,Bool.not_false,Bool.true_and]
  have hl : (p.take (i : Int).toNat) = p.take i := by rw [Int.toNat_natCast]
  rw [hl]
  have inner : ∀ (q j : Nat),j + q = (p.take i).length → Ev (fun k => spec_syGood.l1 k p (p.length : Int) i (p.take i) ((p.take i).length : Int) j r c p e n p[i].f0 p[i].f1) (!decide (p[i] ∈ (p.take i).drop j) && (partsFrom (p.take (i + 1)) (p.drop (i + 1)) && Z)) := by
   intro q
   induction q with
   | zero =>
    intro j hj
    refine Ev.succ ?_
    simp only [spec_syGood.l1]
    rw [List.drop_eq_nil_of_le (by omega),w64 (x := (i : Int) + 1) (by omega) (by omega)]
    exact Ev.neg (by omega) (Ev.cast e1 (by simp))
   | succ q ihq =>
    intro j hj
    refine Ev.succ ?_
    simp only [spec_syGood.l1]
    have hjl : (p.take i).length ≤ 1048576 := by rw [List.length_take]; omega
    refine Ev.pos (by omega) (Ev.pos (by omega) (Ev.pos (by omega) ?_))
    rw [rdC_at (p.take i) j (by omega),w64 (x := (j : Int) + 1) (by omega) (by omega),List.drop_eq_getElem_cons (show j < (p.take i).length by omega)]
    by_cases h3 : p[i] = (p.take i)[j]
    ·exact Ev.pos ((cell_eq_iff _ _).2 h3) (Ev.ret (by rw [← h3]; simp))
    ·refine Ev.neg (fun h => h3 ((cell_eq_iff _ _).1 h)) (Ev.cast (ihq (j + 1) (by omega)) ?_)
     simp only [List.mem_cons,h3,false_or]
  have := inner (p.take i).length 0 (by omega)
  rw [List.drop_zero] at this
  rw [Bool.and_assoc]
  exact this
theorem syGood_ev (r c : Int) (p : List S42) (e n : List Int) (hp : p.length ≤ 1048576) (he : e.length ≤ 1048576) (hn : n.length ≤ 1048576) : Ev (fun k => spec_syGood.f k r c p e n) (chGood r c p e n) := by
 have h := syGood_parts r c p e n hp he hn p.length 0 (by omega)
 refine Ev.cast h ?_
 rw [List.take_zero,List.drop_zero]
 unfold chGood
 rw [Bool.and_left_comm]
theorem IndexCell_ev (l : List S42) (x : S42) (hl : l.length ≤ 1048576) : ∃ v : Int,Ev (fun k => impl_Cell_184.f k l x.f0 x.f1) v ∧ (0 ≤ v ↔ x ∈ l) := by
 have key : ∀ (n i : Nat),i + n = l.length → ∃ v : Int,Ev (fun k => impl_Cell_184.l0 k l (l.length : Int) i x.f0 x.f1) v ∧ (0 ≤ v ↔ x ∈ l.drop i) := by
  intro n
  induction n with
  | zero =>
   intro i hi
   refine ⟨-1,Ev.succ ?_,?_⟩
   ·simp only [impl_Cell_184.l0]
    exact Ev.neg (by omega) (Ev.now _)
   ·rw [List.drop_eq_nil_of_le (by omega)]; simp
  | succ n ih =>
   intro i hi
   obtain ⟨v,hv,hm⟩ := ih (i + 1) (by omega)
   have e := rdC_at l i (by omega)
   by_cases h : x = l[i]
   ·refine ⟨i,Ev.succ ?_,?_⟩
    ·simp only [impl_Cell_184.l0]
     rw [e]
     exact Ev.pos (by omega) (Ev.pos (by omega) (Ev.pos (by omega) (Ev.pos ((cell_eq_iff _ _).2 h) (Ev.now _))))
    ·rw [List.drop_eq_getElem_cons (show i < l.length by omega),← h]; simp
   ·refine ⟨v,Ev.succ ?_,?_⟩
    ·simp only [impl_Cell_184.l0]
     rw [e,w64 (by omega) (by omega)]
     exact Ev.pos (by omega) (Ev.pos (by omega) (Ev.pos (by omega) (Ev.neg (fun g => h ((cell_eq_iff _ _).1 g)) hv)))
    ·rw [List.drop_eq_getElem_cons (show i < l.length by omega),List.mem_cons,hm]; simp [h]
 have := key l.length 0 (by omega)
 rwa [List.drop_zero] at this
theorem ContainsCell_ev (l : List S42) (x : S42) (hl : l.length ≤ 1048576) : Ev (fun k => impl_Cell_99.f k l x.f0 x.f1) (decide (x ∈ l)) := by
 obtain ⟨v,hv,hm⟩ := IndexCell_ev l x hl
 unfold impl_Cell_99.f
 exact Ev.bind hv (Ev.ret (decide_eq_decide.2 hm))
theorem IsChallenge_tried (r c : Int) (p : List S42) (e n : List Int) (hr : inR r 1 4 = true) (hc : inR c 1 4 = true) (hp : inR (p.length : Int) 1 6 = true) :
  ∀ (m i : Nat) (o : Int),(i : Int) + m = r * c → 1 ≤ o → o ≤ 7000 → Ev (fun k => impl_IsChallenge.l2 k o i r c p e n) (decide (pw ((p.length : Int) + 1) m o ≤ 7000)) := by
 have b := rc_bd hr hc
 rw [inR_iff] at hp
 intro m
 induction m with
 | zero =>
  intro i o hi h1 h2
  refine Ev.succ ?_
  simp only [impl_IsChallenge.l2]
  rw [w64 (x := r * c) (by omega) (by omega)]
  exact Ev.neg (by omega) (Ev.ret (by rw [pw,decide_eq_true h2]))
 | succ m ih =>
  intro i o hi h1 h2
  refine Ev.succ ?_
  simp only [impl_IsChallenge.l2]
  have b1 := mulb (show 0 ≤ o by omega) h2 (show 0 ≤ (p.length : Int) + 1 by omega) (show (p.length : Int) + 1 ≤ 7 by omega)
  have b2 : 1 * 1 ≤ o * ((p.length : Int) + 1) := Int.mul_le_mul h1 (by omega) (by omega) (by omega)
  rw [w64 (x := r * c) (by omega) (by omega),w64 (x := (p.length : Int) + 1) (by omega) (by omega),w64 (x := o * ((p.length : Int) + 1)) (by omega) (by omega),w64 (x := (i : Int) + 1) (by omega) (by omega)]
  refine Ev.pos (by omega) ?_
  rw [pw,if_pos h2]
  by_cases h : o * ((p.length : Int) + 1) > 7000
  ·refine Ev.pos h (Ev.ret ?_)
   rw [pw_big _ _ _ (by omega),decide_eq_false (by omega)]
  ·exact Ev.neg h (ih (i + 1) _ (by omega) (by omega) (by omega))
theorem IsChallenge_ends (r c : Int) (p : List S42) (e n : List Int) (hr : inR r 1 4 = true) (hc : inR c 1 4 = true) (hp : inR (p.length : Int) 1 6 = true) (he : inR (e.length : Int) 1 8 = true) (hn : n.length = e.length) :
  ∀ (m i : Nat),i + m = e.length → Ev (fun k => impl_IsChallenge.l1 k e (e.length : Int) i r c p e n) ((e.drop i).all (fun x => inR x 0 (c - 1)) && ((n.drop i).all (fun x => inR x 0 (c + 1)) && decide (tried r c p.length ≤ 7000))) := by
 have b := rc_bd hr hc
 have hc' := inR_iff.1 hc
 have he' := inR_iff.1 he
 intro m
 induction m with
 | zero =>
  intro i hi
  refine Ev.succ ?_
  simp only [impl_IsChallenge.l1]
  rw [List.drop_eq_nil_of_le (show e.length ≤ i by omega),List.drop_eq_nil_of_le (show n.length ≤ i by omega),List.all_nil,List.all_nil,Bool.true_and,Bool.true_and]
  refine Ev.neg (by omega) ?_
  have h := IsChallenge_tried r c p e n hr hc hp (r * c).toNat 0 1 (by omega) (by omega) (by omega)
  exact h
 | succ m ih =>
  intro i hi
  refine Ev.succ ?_
  simp only [impl_IsChallenge.l1]
  rw [rd_at e i (by omega),rd_at n i (by omega),w64 (x := c + 1) (by omega) (by omega),w64 (x := (i : Int) + 1) (by omega) (by omega),List.drop_eq_getElem_cons (show i < e.length by omega),List.drop_eq_getElem_cons (show i < n.length by omega),List.all_cons,List.all_cons]
  refine Ev.pos (by omega) (Ev.pos (by omega) (Ev.pos (by omega) ?_))
  by_cases h1 : e[i] < 0
  ·exact Ev.pos h1 (Ev.ret (by rw [inR_lo h1,Bool.false_and,Bool.false_and]))
  refine Ev.neg h1 ?_
  by_cases h2 : e[i] ≥ c
  ·exact Ev.pos h2 (Ev.ret (by rw [inR_hi (show e[i] > c - 1 by omega),Bool.false_and,Bool.false_and]))
  refine Ev.neg h2 (Ev.pos (by omega) ?_)
  by_cases h3 : n[i] < 0
  ·exact Ev.pos h3 (Ev.ret (by rw [inR_lo h3,Bool.false_and,Bool.false_and,Bool.and_false]))
  refine Ev.neg h3 ?_
  by_cases h4 : n[i] > c + 1
  ·exact Ev.pos h4 (Ev.ret (by rw [inR_hi h4,Bool.false_and,Bool.false_and,Bool.and_false]))
  refine Ev.neg h4 (Ev.cast (ih (i + 1) (by omega)) ?_)
  rw [inR_iff.2 ⟨by omega,by omega⟩,inR_iff.2 ⟨by omega,by omega⟩,Bool.true_and,Bool.true_and]
theorem IsChallenge_parts (r c : Int) (p : List S42) (e n : List Int) (hr : inR r 1 4 = true) (hc : inR c 1 4 = true) (hp : inR (p.length : Int) 1 6 = true) (he : inR (e.length : Int) 1 8 = true) (hn : n.length = e.length) :
  ∀ (m i : Nat),i + m = p.length → Ev (fun k => impl_IsChallenge.l0 k p (p.length : Int) i r c p e n) (partsFrom (p.take i) (p.drop i) && chRest r c p e n) := by
 have hp' := inR_iff.1 hp
 intro m
 induction m with
 | zero =>
  intro i hi
  refine Ev.succ ?_
  simp only [impl_IsChallenge.l0]
  rw [List.drop_eq_nil_of_le (by omega),partsFrom,Bool.true_and]
  refine Ev.neg (by omega) ?_
  have h := IsChallenge_ends r c p e n hr hc hp he hn e.length 0 (by omega)
  exact h
 | succ m ih =>
  intro i hi
  have e1 := ih (i + 1) (by omega)
  refine Ev.succ ?_
  simp only [impl_IsChallenge.l0]
  refine Ev.pos (by omega) (Ev.pos (by omega) (Ev.pos (by omega) ?_))
  rw [rdC_at p i (by omega),List.drop_eq_getElem_cons (show i < p.length by omega),partsFrom,← List.take_succ_eq_append_getElem (by omega),w64 (x := (i : Int) + 1) (by omega) (by omega)]
  refine Ev.bind (Ev.val (IsCell_ok p[i])) ?_
  by_cases h1 : goodCell p[i] = true
  case neg => exact Ev.neg h1 (Ev.ret (by simp [h1]))
  refine Ev.pos h1 ?_
  by_cases h2 : p[i].f0 = 0
  ·exact Ev.pos h2 (Ev.ret (by simp [h2]))
  refine Ev.neg h2 (Ev.pos (by omega) ?_)
  have hl : (p.take (i : Int).toNat) = p.take i := by rw [Int.toNat_natCast]
  rw [hl,h1,decide_eq_false h2,Bool.true_and,Bool.not_false,Bool.true_and]
  refine Ev.bind (ContainsCell_ev (p.take i) p[i] (by rw [List.length_take]; omega)) ?_
  by_cases h3 : p[i] ∈ p.take i
  ·exact Ev.pos (by simp [h3]) (Ev.ret (by rw [decide_eq_true h3]; rfl))
  ·refine Ev.neg (by simp [h3]) (Ev.cast e1 ?_)
   rw [decide_eq_false h3]; rfl
theorem IsChallenge_j0t (r c : Int) (p : List S42) (e n : List Int) : Ev (fun k => impl_IsChallenge.j0 k true r c p e n) false := by
 refine Ev.succ ?_
 simp only [impl_IsChallenge.j0]
 exact Ev.pos (by trivial) (Ev.now _)
theorem IsChallenge_ev (r c : Int) (p : List S42) (e n : List Int) : Ev (fun k => impl_IsChallenge.f k r c p e n) (chGood r c p e n) := by
 unfold impl_IsChallenge.f chGood chDims
 by_cases a1 : r < 1
 ·exact Ev.pos a1 (Ev.cast (IsChallenge_j0t r c p e n) (by rw [inR_lo a1]; rfl))
 refine Ev.neg a1 ?_
 by_cases a2 : r > 4
 ·exact Ev.pos a2 (Ev.cast (IsChallenge_j0t r c p e n) (by rw [inR_hi a2]; rfl))
 refine Ev.neg a2 ?_
 have hr : inR r 1 4 = true := inR_iff.2 ⟨by omega,by omega⟩
 rw [hr,Bool.true_and]
 by_cases a3 : c < 1
 ·exact Ev.pos a3 (Ev.cast (IsChallenge_j0t r c p e n) (by rw [inR_lo a3]; rfl))
 refine Ev.neg a3 ?_
 by_cases a4 : c > 4
 ·exact Ev.pos a4 (Ev.cast (IsChallenge_j0t r c p e n) (by rw [inR_hi a4]; rfl))
 refine Ev.neg a4 ?_
 have hc : inR c 1 4 = true := inR_iff.2 ⟨by omega,by omega⟩
 rw [hc,Bool.true_and]
 by_cases a5 : (p.length : Int) < 1
 ·exact Ev.pos a5 (Ev.cast (IsChallenge_j0t r c p e n) (by rw [inR_lo a5]; rfl))
 refine Ev.neg a5 ?_
 by_cases a6 : (p.length : Int) > 6
 ·exact Ev.pos a6 (Ev.cast (IsChallenge_j0t r c p e n) (by rw [inR_hi a6]; rfl))
 refine Ev.neg a6 ?_
 have hp : inR (p.length : Int) 1 6 = true := inR_iff.2 ⟨by omega,by omega⟩
 rw [hp,Bool.true_and]
 by_cases a7 : (e.length : Int) < 1
 ·exact Ev.pos a7 (Ev.cast (IsChallenge_j0t r c p e n) (by rw [inR_lo a7]; rfl))
 refine Ev.neg a7 ?_
 by_cases a8 : (e.length : Int) > 8
 ·exact Ev.pos a8 (Ev.cast (IsChallenge_j0t r c p e n) (by rw [inR_hi a8]; rfl))
 refine Ev.neg a8 ?_
 have he : inR (e.length : Int) 1 8 = true := inR_iff.2 ⟨by omega,by omega⟩
 rw [he,Bool.true_and]
 by_cases h5 : n.length = e.length
 case neg =>
  have hb : ((n.length : Int) != (e.length : Int)) = true := by simp; omega
  rw [hb,decide_eq_false h5]
  exact IsChallenge_j0t r c p e n
 have hb : ((n.length : Int) != (e.length : Int)) = false := by simp [h5]
 rw [hb,decide_eq_true h5,Bool.true_and]
 refine Ev.succ ?_
 simp only [impl_IsChallenge.j0]
 refine Ev.neg (by simp) ?_
 exact IsChallenge_parts r c p e n hr hc hp he h5 p.length 0 (by omega)
theorem boardsTriedL_ev (r c : Int) (p : List S42) (e n : List Int) (hr : inR r 1 4 = true) (hc : inR c 1 4 = true) (hp : inR (p.length : Int) 1 6 = true) :
  ∀ (m i : Nat) (o : Int),(i : Int) + m = r * c → 1 ≤ o → pw ((p.length : Int) + 1) m o ≤ 7000 → Ev (fun k => impl_boardsTried.l0 k o i r c p e n) (pw ((p.length : Int) + 1) m o) := by
 have b := rc_bd hr hc
 rw [inR_iff] at hp
 intro m
 induction m with
 | zero =>
  intro i o hi h1 _
  refine Ev.succ ?_
  simp only [impl_boardsTried.l0]
  rw [w64 (x := r * c) (by omega) (by omega),pw]
  exact Ev.neg (by omega) (Ev.now _)
 | succ m ih =>
  intro i o hi h1 h2
  by_cases h : o ≤ 7000
  case neg => rw [pw_big _ _ _ h] at h2; omega
  rw [pw,if_pos h] at h2 ⊢
  refine Ev.succ ?_
  simp only [impl_boardsTried.l0]
  have b1 := mulb (show 0 ≤ o by omega) h (show 0 ≤ (p.length : Int) + 1 by omega) (show (p.length : Int) + 1 ≤ 7 by omega)
  have b2 : 1 * 1 ≤ o * ((p.length : Int) + 1) := Int.mul_le_mul h1 (by omega) (by omega) (by omega)
  rw [w64 (x := r * c) (by omega) (by omega),w64 (x := (p.length : Int) + 1) (by omega) (by omega),w64 (x := o * ((p.length : Int) + 1)) (by omega) (by omega),w64 (x := (i : Int) + 1) (by omega) (by omega)]
  exact Ev.pos (by omega) (ih (i + 1) _ (by omega) (by omega) h2)
theorem chGood_dims {r c : Int} {p : List S42} {e n : List Int} (h : chGood r c p e n = true) : inR r 1 4 = true ∧ inR c 1 4 = true ∧ inR (p.length : Int) 1 6 = true ∧ inR (e.length : Int) 1 8 = true ∧ n.length = e.length ∧ tried r c p.length ≤ 7000 ∧ (e.all (fun x => inR x 0 (c - 1)) = true) ∧ (n.all (fun x => inR x 0 (c + 1)) = true) ∧ partsFrom [] p = true := by
 unfold chGood chDims chRest at h
 simp only [Bool.and_eq_true,decide_eq_true_eq] at h
 obtain ⟨⟨h1,h2,h3,h4,h5⟩,h6,h7,h8,h9⟩ := h
 exact ⟨h1,h2,h3,h4,h5,h9,h7,h8,h6⟩
theorem tried_pos {a : Int} (ha : 1 ≤ a) : ∀ (n : Nat) (o : Int),1 ≤ o → 1 ≤ pw a n o := by
 intro n
 induction n with
 | zero => exact fun o h => h
 | succ n ih =>
  intro o h
  rw [pw]
  by_cases g : o ≤ 7000
  ·rw [if_pos g]
   have b2 : 1 * 1 ≤ o * a := Int.mul_le_mul h ha (by omega) (by omega)
   exact ih _ (by omega)
  ·rw [if_neg g]; exact h
theorem boardsTried_ev {r c : Int} {p : List S42} {e n : List Int} (h : chGood r c p e n = true) : Ev (fun k => impl_boardsTried.f k r c p e n) (tried r c p.length) := by
 obtain ⟨hr,hc,hp,_,_,ht,_⟩ := chGood_dims h
 have b := rc_bd hr hc
 exact boardsTriedL_ev r c p e n hr hc hp (r * c).toNat 0 1 (by omega) (by omega) ht
theorem syTriedG_ev {r c : Int} {p : List S42} {e n : List Int} (h : chGood r c p e n = true) : Ev (fun k => spec_syTried.f k r c p e n) (tried r c p.length) := by
 obtain ⟨hr,hc,hp,_⟩ := chGood_dims h
 exact syTried_ev r c p e n hr hc hp
theorem ents_in {r c : Int} {p : List S42} {e ns : List Int} (h : chGood r c p e ns = true) : ∀ x ∈ e,0 ≤ x ∧ x < c := by
 intro x hx
 have d := (chGood_dims h).2.2.2.2.2.2.1
 have := inR_iff.1 (List.all_eq_true.1 d x hx)
 omega
theorem partsFrom_good : ∀ (l pre : List S42),partsFrom pre l = true → ∀ x ∈ l,goodCell x = true
 | [],_,_,x,hx => by simp at hx
 | y :: l,pre,h,x,hx => by
  rw [partsFrom] at h
  simp only [Bool.and_eq_true] at h
  rcases List.mem_cons.1 hx with rfl | hx
  ·exact h.1
  ·exact partsFrom_good l _ h.2.2.2 x hx
def fillGo (p : List S42) : Nat → Int → List S42 → List S42
 | 0,_,q => q
 | m + 1,n,q => fillGo p m (Int.tdiv n ((p.length : Int) + 1)) (if Int.tmod n ((p.length : Int) + 1) > 0 then q.set m (rd_T42 p (Int.tmod n ((p.length : Int) + 1) - 1)) else q)
theorem fillGo_keep {p : List S42} (hp : ∀ c ∈ p,goodCell c = true) : ∀ (m : Nat) (n : Int) (q : List S42),(∀ c ∈ q,goodCell c = true) → (∀ c ∈ fillGo p m n q,goodCell c = true) ∧ (fillGo p m n q).length = q.length := by
 intro m
 induction m with
 | zero => intro n q h; exact ⟨h,rfl⟩
 | succ m ih =>
  intro n q h
  rw [fillGo]
  split
  ·rename_i hk
   have hl := Int.tmod_lt_of_pos n (show (0 : Int) < (p.length : Int) + 1 by omega)
   have hm := hp _ (rdC_mem (cs := p) (a := Int.tmod n ((p.length : Int) + 1) - 1) (by omega) (by omega))
   have e := ih (Int.tdiv n ((p.length : Int) + 1)) (q.set m (rd_T42 p (Int.tmod n ((p.length : Int) + 1) - 1))) (fun c hc => (List.mem_or_eq_of_mem_set hc).elim (h c) (fun e => e ▸ hm))
   rw [List.length_set] at e
   exact e
  ·exact ih _ q h
def bdOf (r c : Int) (p : List S42) (n : Int) : List S42 := fillGo p (r * c).toNat n (List.replicate (r * c).toNat ⟨0,0⟩)
theorem bdOf_good {r c : Int} {p : List S42} {e ns : List Int} (h : chGood r c p e ns = true) (n : Int) : GoodB r c (bdOf r c p n) := by
 have d := chGood_dims h
 have b := rc_bd d.1 d.2.1
 have h1 := inR_iff.1 d.1
 have h2 := inR_iff.1 d.2.1
 have k := fillGo_keep (partsFrom_good p [] d.2.2.2.2.2.2.2.2) (r * c).toNat n (List.replicate (r * c).toNat (⟨0,0⟩ : S42)) (fun c hc => by rw [List.eq_of_mem_replicate hc]; decide)
 exact ⟨by omega,by omega,by omega,by omega,by rw [bdOf,k.2,List.length_replicate]; omega,k.1⟩
theorem tdiv_in {n d : Int} (h0 : 0 ≤ n) (h1 : n ≤ 7000) (hd : 1 ≤ d) : 0 ≤ Int.tdiv n d ∧ Int.tdiv n d ≤ 7000 := by
 rw [Int.tdiv_eq_ediv_of_nonneg h0]
 have := Int.ediv_le_self d h0
 exact ⟨Int.ediv_nonneg h0 (by omega),by omega⟩
theorem syBoard_ev {r c : Int} {p : List S42} {e ns : List Int} (h : chGood r c p e ns = true) {n : Int} (n0 : 0 ≤ n) (n1 : n ≤ 7000) : Ev (fun k => spec_syBoard.f k r c p e ns n) (r,c,bdOf r c p n) := by
 have d := chGood_dims h
 have b := rc_bd d.1 d.2.1
 have hl := inR_iff.1 d.2.2.1
 have key : ∀ (m : Nat) (n : Int) (q : List S42),m ≤ q.length → q.length ≤ 16 → 0 ≤ n → n ≤ 7000 → Ev (fun k => spec_syBoard.l0 k n ((m : Int) - 1) r c p e ns r c q) (r,c,fillGo p m n q) := by
  intro m
  induction m with
  | zero =>
   intro n q hm hq h0 h1
   refine Ev.succ ?_
   simp only [spec_syBoard.l0]
   exact Ev.neg (by omega) (Ev.now _)
  | succ m ih =>
   intro n q hm hq h0 h1
   have t := tdiv_in (d := (p.length : Int) + 1) h0 h1 (by omega)
   have hmod := Int.tmod_lt_of_pos n (show (0 : Int) < (p.length : Int) + 1 by omega)
   have e1 : ((m + 1 : Nat) : Int) - 1 = (m : Int) := by omega
   rw [e1]
   refine Ev.succ ?_
   simp only [spec_syBoard.l0]
   rw [w64 (x := (p.length : Int) + 1) (by omega) (by omega),w64 (x := Int.tdiv n ((p.length : Int) + 1)) (by omega) (by omega),w64 (x := (m : Int) - 1) (by omega) (by omega),Int.toNat_natCast,fillGo]
   refine Ev.pos (by omega) (Ev.neg (by omega) ?_)
   by_cases a : Int.tmod n ((p.length : Int) + 1) > 0
   ·rw [w64 (x := Int.tmod n ((p.length : Int) + 1) - 1) (by omega) (by omega),if_pos a]
    exact Ev.pos a (Ev.pos (by omega) (Ev.pos (by omega) (Ev.pos (by omega) (Ev.pos (by omega) (ih _ _ (by rw [List.length_set]; omega) (by rw [List.length_set]; exact hq) t.1 t.2)))))
   ·rw [if_neg a]
    exact Ev.neg a (ih _ _ (by omega) hq t.1 t.2)
 unfold spec_syBoard.f
 rw [w64 (x := r * c) (by omega) (by omega)]
 refine Ev.pos (by omega) (Ev.pos (by omega) (Ev.bind (Ev.now _) ?_))
 rw [List.length_replicate,w64 (by omega) (by omega)]
 exact key (r * c).toNat n _ (by simp) (by simp; omega) n0 n1
theorem boardOf_ev {r c : Int} {p : List S42} {e ns : List Int} (h : chGood r c p e ns = true) {n : Int} (n0 : 0 ≤ n) (n1 : n ≤ 7000) : Ev (fun k => impl_boardOf.f k r c p e ns n) (r,c,bdOf r c p n) := by
 have d := chGood_dims h
 have b := rc_bd d.1 d.2.1
 have hl := inR_iff.1 d.2.2.1
 have key : ∀ (m : Nat) (n : Int) (q : List S42),m ≤ q.length → q.length ≤ 16 → 0 ≤ n → n ≤ 7000 → Ev (fun k => impl_boardOf.l0 k n ((m : Int) - 1) r c p e ns r c q) (r,c,fillGo p m n q) := by
  intro m
  induction m with
  | zero =>
   intro n q hm hq h0 h1
   refine Ev.succ ?_
   simp only [impl_boardOf.l0]
   exact Ev.neg (by omega) (Ev.now _)
  | succ m ih =>
   intro n q hm hq h0 h1
   have t := tdiv_in (d := (p.length : Int) + 1) h0 h1 (by omega)
   have hmod := Int.tmod_lt_of_pos n (show (0 : Int) < (p.length : Int) + 1 by omega)
   have e1 : ((m + 1 : Nat) : Int) - 1 = (m : Int) := by omega
   rw [e1]
   refine Ev.succ ?_
   simp only [impl_boardOf.l0]
   rw [w64 (x := (p.length : Int) + 1) (by omega) (by omega),w64 (x := Int.tdiv n ((p.length : Int) + 1)) (by omega) (by omega),w64 (x := (m : Int) - 1) (by omega) (by omega),Int.toNat_natCast,fillGo]
   refine Ev.pos (by omega) (Ev.neg (by omega) ?_)
   by_cases a : Int.tmod n ((p.length : Int) + 1) > 0
   ·rw [w64 (x := Int.tmod n ((p.length : Int) + 1) - 1) (by omega) (by omega),if_pos a]
    exact Ev.pos a (Ev.pos (by omega) (Ev.pos (by omega) (Ev.pos (by omega) (Ev.pos (by omega) (ih _ _ (by rw [List.length_set]; omega) (by rw [List.length_set]; exact hq) t.1 t.2)))))
   ·rw [if_neg a]
    exact Ev.neg a (ih _ _ (by omega) hq t.1 t.2)
 unfold impl_boardOf.f
 rw [w64 (x := r * c) (by omega) (by omega)]
 refine Ev.pos (by omega) (Ev.pos (by omega) (Ev.bind (Ev.now _) ?_))
 rw [List.length_replicate,w64 (by omega) (by omega)]
 exact key (r * c).toNat n _ (by simp) (by simp; omega) n0 n1
def cntGo (r c : Int) (p : List S42) (e ns : List Int) : Nat → Int → Nat
 | 0,_ => 0
 | m + 1,n => (if meetGo r c (bdOf r c p n) e ns = true then 1 else 0) + cntGo r c p e ns m (n + 1)
def cntOf (r c : Int) (p : List S42) (e ns : List Int) : Nat := cntGo r c p e ns (tried r c p.length).toNat 0
theorem count_ev {r c : Int} {p : List S42} {e ns : List Int} (h : chGood r c p e ns = true) : Ev (fun k => impl_countSolutions.f k r c p e ns) ((cntOf r c p e ns : Nat) : Int) := by
 have d := chGood_dims h
 have hl := inR_iff.1 d.2.2.2.1
 have ht := d.2.2.2.2.2.1
 have key : ∀ (m : Nat) (n s : Int),n + m = max 0 (tried r c p.length) → 0 ≤ n → 0 ≤ s → s ≤ n → Ev (fun k => impl_countSolutions.l0 k s n r c p e ns) (s + (cntGo r c p e ns m n : Nat)) := by
  intro m
  induction m with
  | zero =>
   intro n s hm h0 h1 h2
   refine Ev.succ ?_
   simp only [impl_countSolutions.l0]
   exact Ev.bind (boardsTried_ev h) (Ev.neg (by omega) (Ev.ret (by simp [cntGo])))
  | succ m ih =>
   intro n s hm h0 h1 h2
   refine Ev.succ ?_
   simp only [impl_countSolutions.l0]
   rw [w64 (x := s + 1) (by omega) (by omega),w64 (x := n + 1) (by omega) (by omega),cntGo]
   refine Ev.bind (boardsTried_ev h) (Ev.pos (by omega) (Ev.bind (boardOf_ev h h0 (by omega)) (Ev.bind (hasEnds_ev r c p d.2.2.2.2.1 (by omega) (ents_in h) (bdOf_good h n)) ?_)))
   by_cases y : meetGo r c (bdOf r c p n) e ns = true
   ·rw [if_pos y]
    exact Ev.pos y (Ev.cast (ih (n + 1) (s + 1) (by omega) (by omega) (by omega) (by omega)) (by omega))
   ·rw [if_neg y]
    exact Ev.neg y (Ev.cast (ih (n + 1) s (by omega) (by omega) (by omega) (by omega)) (by omega))
 unfold impl_countSolutions.f cntOf
 exact Ev.cast (key (tried r c p.length).toNat 0 0 (by omega) (by omega) (by omega) (by omega)) (by omega)
def nz (cs : List S42) : Nat := cs.countP (fun x => decide (x.f0 ≠ 0))
def bpGo : List Int → List S42 → List Int
 | q,[] => q
 | q,x :: l => bpGo (q.set x.f0.toNat (rd q x.f0 + 1)) l
theorem rd_set_self (q : List Int) (i v : Int) (h : i.toNat < q.length) : rd (q.set i.toNat v) i = v := by
 unfold rd
 rw [List.getD_eq_getElem?_getD,List.getElem?_set_self h]; rfl
theorem rd_set_ne (q : List Int) (i j v : Int) (h : i.toNat ≠ j.toNat) : rd (q.set i.toNat v) j = rd q j := by
 unfold rd
 rw [List.getD_eq_getElem?_getD,List.getD_eq_getElem?_getD,List.getElem?_set_ne h]
theorem rd_mem (q : List Int) (i : Int) (h : i.toNat < q.length) : rd q i ∈ q := by
 unfold rd
 rw [List.getD_eq_getElem?_getD,List.getElem?_eq_getElem h]
 exact List.getElem_mem h
theorem boParts_go (R C : Int) : ∀ (l pre : List S42) (q : List Int),(∀ x ∈ l,goodCell x = true) → q.length = 8 → pre.length + l.length ≤ 1000 → (∀ x ∈ q,0 ≤ x ∧ x ≤ (pre.length : Int)) → Ev (fun k => spec_boParts.l0 k q (pre ++ l) ((pre ++ l).length : Int) (pre.length : Int)) (bpGo q l) ∧ (bpGo q l).length = 8 ∧ rd (bpGo q l) 0 + nz l = rd q 0 + l.length := by
 intro l
 induction l with
 | nil =>
  intro pre q _ h8 _ _
  refine ⟨Ev.succ ?_,h8,by simp [bpGo,nz]⟩
  simp only [spec_boParts.l0]
  exact Ev.neg (by simp) (Ev.now _)
 | cons x l ih =>
  intro pre q hg h8 hl hq
  have hx := hg x (by simp)
  have hx2 : 0 ≤ x.f0 ∧ x.f0 ≤ 7 := by
   unfold goodCell at hx
   simp only [Bool.and_eq_true] at hx
   exact inR_iff.1 hx.1
  have er : rd_T42 (pre ++ x :: l) (pre.length : Int) = x := by unfold rd_T42; simp
  have hm := hq _ (rd_mem q x.f0 (by omega))
  have hi := ih (pre ++ [x]) (q.set x.f0.toNat (rd q x.f0 + 1)) (fun y hy => hg y (by simp [hy])) (by simpa using h8) (by simp at hl ⊢; omega) (fun y hy => by
   rcases List.mem_or_eq_of_mem_set hy with hy | rfl
   ·have := hq y hy; simp; omega
   ·simp; omega)
  refine ⟨Ev.succ ?_,hi.2.1,?_⟩
  ·simp only [spec_boParts.l0]
   rw [er,w64 (x := rd q x.f0 + 1) (by omega) (by simp at hl; omega),w64 (x := (pre.length : Int) + 1) (by omega) (by simp at hl; omega),bpGo]
   refine Ev.pos (by simp; omega) (Ev.pos (by omega) (Ev.pos (by simp; omega) (Ev.pos hx2.1 (Ev.pos (by omega) ?_))))
   have := hi.1
   simp only [List.append_assoc,List.cons_append,List.nil_append] at this
   exact Ev.cast (Ev.congr (fun k => by simp) this) rfl
  ·rw [bpGo]
   have h2 := hi.2.2
   by_cases z : x.f0 = 0
   ·have e : rd (q.set x.f0.toNat (rd q x.f0 + 1)) 0 = rd q 0 + 1 := by rw [z]; exact rd_set_self q 0 _ (by omega)
    have e2 : nz (x :: l) = nz l := by simp [nz,z]
    rw [e] at h2; rw [e2]; simp; omega
   ·have e : rd (q.set x.f0.toNat (rd q x.f0 + 1)) 0 = rd q 0 := rd_set_ne _ _ _ _ (by simp; omega)
    have e2 : nz (x :: l) = nz l + 1 := by simp [nz,z]
    rw [e] at h2; rw [e2]; simp; omega
theorem nz_le (cs : List S42) : nz cs ≤ cs.length := List.countP_le_length
theorem sySize_ev {R C : Int} {cs : List S42} (h : GoodB R C cs) : Ev (fun k => spec_sySize.f k R C cs) ((nz cs : Nat) : Int) := by
 have hl := h.len90
 have b := boParts_go R C cs [] (List.replicate 8 0) h.good (by simp) (by simp; omega) (fun x hx => by rw [List.eq_of_mem_replicate hx]; simp)
 unfold spec_sySize.f spec_boParts.f
 have hz : rd (List.replicate 8 (0 : Int)) 0 = 0 := by decide
 have hn := nz_le cs
 have e : rd (bpGo (List.replicate 8 0) cs) 0 = (cs.length : Int) - nz cs := by have := b.2.2; omega
 refine Ev.bind (Ev.pos (by omega) b.1) (Ev.pos (by rw [b.2.1]; omega) (Ev.ret ?_))
 rw [e,w64 (by omega) (by omega)]
 omega
def stepC (r c : Int) (p : List S42) (e ns : List Int) (n : Int) (q : List Int × Int × Int × Int) : List Int × Int × Int × Int :=
 if meetGo r c (bdOf r c p n) e ns = true then (q.1.set (nz (bdOf r c p n)) (rd q.1 (nz (bdOf r c p n)) + 1),if q.2.1 < 0 then n else q.2.1,if q.2.2.1 < 0 ∨ (nz (bdOf r c p n) : Int) < q.2.2.2 then n else q.2.2.1,if q.2.2.1 < 0 ∨ (nz (bdOf r c p n) : Int) < q.2.2.2 then (nz (bdOf r c p n) : Int) else q.2.2.2) else q
def runC (r c : Int) (p : List S42) (e ns : List Int) : Nat → Int → List Int × Int × Int × Int → List Int × Int × Int × Int
 | 0,_,q => q
 | m + 1,n,q => runC r c p e ns m (n + 1) (stepC r c p e ns n q)
def runAll (r c : Int) (p : List S42) (e ns : List Int) : List Int × Int × Int × Int := runC r c p e ns (tried r c p.length).toNat 0 (List.replicate (r * c + 1).toNat 0,-1,-1,0)
theorem stepC_inv {r c : Int} {p : List S42} {e ns : List Int} (h : chGood r c p e ns = true) {n : Int} (h0 : 0 ≤ n) {q : List Int × Int × Int × Int} (hl : (q.1.length : Int) = r * c + 1) (hq : ∀ x ∈ q.1,0 ≤ x ∧ x ≤ n) : ((stepC r c p e ns n q).1.length : Int) = r * c + 1 ∧ ∀ x ∈ (stepC r c p e ns n q).1,0 ≤ x ∧ x ≤ n + 1 := by
 unfold stepC
 split
 ·refine ⟨by simpa using hl,fun x hx => ?_⟩
  rcases List.mem_or_eq_of_mem_set hx with hx | rfl
  ·have := hq x hx; omega
  ·have g := (bdOf_good h n).len
   have g2 := nz_le (bdOf r c p n)
   have := hq _ (rd_mem q.1 (nz (bdOf r c p n) : Int) (by omega))
   omega
 ·exact ⟨hl,fun x hx => by have := hq x hx; omega⟩
theorem syCount_ev {r c : Int} {p : List S42} {e ns : List Int} (h : chGood r c p e ns = true) : Ev (fun k => spec_syCount.f k r c p e ns) ((runAll r c p e ns).1,(runAll r c p e ns).2.1,(runAll r c p e ns).2.2.1) := by
 have d := chGood_dims h
 have hl := inR_iff.1 d.2.2.2.1
 have ht := d.2.2.2.2.2.1
 have b := rc_bd d.1 d.2.1
 have key : ∀ (m : Nat) (n : Int) (q : List Int × Int × Int × Int),n + m = max 0 (tried r c p.length) → 0 ≤ n → (q.1.length : Int) = r * c + 1 → (∀ x ∈ q.1,0 ≤ x ∧ x ≤ n) → Ev (fun k => spec_syCount.l0 k q.1 q.2.1 q.2.2.1 q.2.2.2 n r c p e ns) ((runC r c p e ns m n q).1,(runC r c p e ns m n q).2.1,(runC r c p e ns m n q).2.2.1) := by
  intro m
  induction m with
  | zero =>
   intro n q hm h0 _ _
   refine Ev.succ ?_
   simp only [spec_syCount.l0]
   exact Ev.bind (syTriedG_ev h) (Ev.neg (by omega) (Ev.now _))
  | succ m ih =>
   intro n q hm h0 hlq hq
   have hs := stepC_inv h h0 hlq hq
   have hi := ih (n + 1) (stepC r c p e ns n q) (by omega) (by omega) hs.1 hs.2
   have g := bdOf_good h n
   have g1 := g.len
   have g2 := nz_le (bdOf r c p n)
   refine Ev.succ ?_
   simp only [spec_syCount.l0]
   rw [w64 (x := n + 1) (by omega) (by omega),runC]
   refine Ev.bind (syTriedG_ev h) (Ev.pos (by omega) (Ev.bind (syBoard_ev h h0 (by omega)) (Ev.bind (syMeets_ev r c p d.2.2.2.2.1 (by omega) (ents_in h) g) ?_)))
   by_cases y : meetGo r c (bdOf r c p n) e ns = true
   ·refine Ev.pos y (Ev.bind (sySize_ev g) (Ev.pos (by dsimp only; omega) (Ev.pos (by dsimp only; omega) (Ev.bind (Ev.now _) ?_))))
    have hm := hq _ (rd_mem q.1 (nz (bdOf r c p n) : Int) (by omega))
    rw [w64 (x := rd q.1 (nz (bdOf r c p n) : Int) + 1) (by omega) (by omega),Int.toNat_natCast]
    have e1 : stepC r c p e ns n q = _ := if_pos y
    rw [e1] at hi ⊢
    by_cases a : q.2.1 < 0
    ·refine Ev.pos a ?_
     simp only [if_pos a] at hi ⊢
     by_cases b2 : q.2.2.1 < 0
     ·refine Ev.pos b2 ?_
      simp only [if_pos (Or.inl b2 : q.2.2.1 < 0 ∨ (nz (bdOf r c p n) : Int) < q.2.2.2)] at hi ⊢
      exact hi
     ·refine Ev.neg b2 ?_
      by_cases b3 : (nz (bdOf r c p n) : Int) < q.2.2.2
      ·refine Ev.pos b3 ?_
       simp only [if_pos (Or.inr b3 : q.2.2.1 < 0 ∨ (nz (bdOf r c p n) : Int) < q.2.2.2)] at hi ⊢
       exact hi
      ·refine Ev.neg b3 ?_
       simp only [if_neg (show ¬ (q.2.2.1 < 0 ∨ (nz (bdOf r c p n) : Int) < q.2.2.2) from fun o => o.elim b2 b3)] at hi ⊢
       exact hi
    ·refine Ev.neg a ?_
     simp only [if_neg a] at hi ⊢
     by_cases b2 : q.2.2.1 < 0
     ·refine Ev.pos b2 ?_
      simp only [if_pos (Or.inl b2 : q.2.2.1 < 0 ∨ (nz (bdOf r c p n) : Int) < q.2.2.2)] at hi ⊢
      exact hi
     ·refine Ev.neg b2 ?_
      by_cases b3 : (nz (bdOf r c p n) : Int) < q.2.2.2
      ·refine Ev.pos b3 ?_
       simp only [if_pos (Or.inr b3 : q.2.2.1 < 0 ∨ (nz (bdOf r c p n) : Int) < q.2.2.2)] at hi ⊢
       exact hi
      ·refine Ev.neg b3 ?_
       simp only [if_neg (show ¬ (q.2.2.1 < 0 ∨ (nz (bdOf r c p n) : Int) < q.2.2.2) from fun o => o.elim b2 b3)] at hi ⊢
       exact hi
   ·have e1 : stepC r c p e ns n q = q := if_neg y
    rw [e1] at hi ⊢
    exact Ev.neg y hi
 unfold spec_syCount.f runAll
 rw [w64 (x := r * c) (by omega) (by omega),w64 (x := r * c + 1) (by omega) (by omega)]
 refine Ev.pos (by omega) (Ev.pos (by omega) ?_)
 exact key (tried r c p.length).toNat 0 (List.replicate (r * c + 1).toNat 0,-1,-1,0) (by omega) (by omega) (by simp; omega) (fun x hx => by rw [List.eq_of_mem_replicate hx]; omega)
def sumL : List Int → Int
 | [] => 0
 | x :: l => x + sumL l
theorem sumL_set : ∀ (l : List Int) (i : Nat),i < l.length → sumL (l.set i (rd l (i : Int) + 1)) = sumL l + 1
 | [],i,h => by simp at h
 | x :: l,0,h => by simp [sumL,rd]; omega
 | x :: l,i + 1,h => by
  have := sumL_set l i (by simpa using h)
  simp only [List.set_cons_succ,sumL]
  have e : rd (x :: l) ((i + 1 : Nat) : Int) = rd l (i : Int) := by unfold rd; simp
  rw [e]; omega
theorem runC_sum {r c : Int} {p : List S42} {e ns : List Int} (h : chGood r c p e ns = true) : ∀ (m : Nat) (n : Int) (q : List Int × Int × Int × Int),(q.1.length : Int) = r * c + 1 → sumL (runC r c p e ns m n q).1 = sumL q.1 + cntGo r c p e ns m n ∧ ((runC r c p e ns m n q).1.length : Int) = r * c + 1 := by
 intro m
 induction m with
 | zero => intro n q hl; exact ⟨by simp [runC,cntGo],hl⟩
 | succ m ih =>
  intro n q hl
  rw [runC,cntGo]
  have g1 := (bdOf_good h n).len
  have g2 := nz_le (bdOf r c p n)
  by_cases y : meetGo r c (bdOf r c p n) e ns = true
  ·have e1 : stepC r c p e ns n q = _ := if_pos y
   have i1 := ih (n + 1) (stepC r c p e ns n q) (by rw [e1]; simpa using hl)
   refine ⟨?_,i1.2⟩
   rw [i1.1,e1,if_pos y]
   have := sumL_set q.1 (nz (bdOf r c p n)) (by omega)
   simp only
   omega
  ·have e1 : stepC r c p e ns n q = q := if_neg y
   rw [e1,if_neg y]
   have := ih (n + 1) q hl
   exact ⟨by omega,this.2⟩
theorem runC_bd {r c : Int} {p : List S42} {e ns : List Int} (h : chGood r c p e ns = true) : ∀ (m : Nat) (n : Int) (q : List Int × Int × Int × Int),0 ≤ n → (q.1.length : Int) = r * c + 1 → (∀ x ∈ q.1,0 ≤ x ∧ x ≤ n) → ∀ x ∈ (runC r c p e ns m n q).1,0 ≤ x ∧ x ≤ n + m := by
 intro m
 induction m with
 | zero => intro n q _ _ hq x hx; have := hq x hx; omega
 | succ m ih =>
  intro n q h0 hl hq x hx
  have hs := stepC_inv h h0 hl hq
  have := ih (n + 1) _ (by omega) hs.1 hs.2 x hx
  omega
theorem specSum_ev : ∀ (l pre : List Int) (s : Int),(∀ x ∈ l,0 ≤ x ∧ x ≤ 7000) → 0 ≤ s → s ≤ 7000 * (pre.length : Int) → pre.length + l.length ≤ 1000 → Ev (fun k => spec_CountSolutions.l0 k (pre ++ l) s ((pre ++ l).length : Int) (pre.length : Int)) (s + sumL l,true) := by
 intro l
 induction l with
 | nil =>
  intro pre s _ _ _ _
  refine Ev.succ ?_
  simp only [spec_CountSolutions.l0]
  exact Ev.neg (by simp) (Ev.ret (by simp [sumL]))
 | cons x l ih =>
  intro pre s hx h0 h1 h2
  have hb := hx x (by simp)
  have er : rd (pre ++ x :: l) (pre.length : Int) = x := by unfold rd; simp
  simp only [List.length_cons] at h2
  have hi := ih (pre ++ [x]) (s + x) (fun y hy => hx y (by simp [hy])) (by omega) (by simp; omega) (by simp; omega)
  simp only [List.append_assoc,List.cons_append,List.nil_append,List.length_append,List.length_cons,List.length_nil] at hi
  refine Ev.succ ?_
  simp only [spec_CountSolutions.l0]
  rw [er,w64 (x := s + x) (by omega) (by omega),w64 (x := (pre.length : Int) + 1) (by omega) (by omega)]
  refine Ev.pos (by simp; omega) (Ev.pos (by omega) (Ev.pos (by simp; omega) ?_))
  exact Ev.cast (Ev.congr (fun k => by simp) hi) (by rw [sumL]; congr 1; omega)
def countA (r c : Int) (p : List S42) (e ns : List Int) : Int × Bool := if chGood r c p e ns = true then ((cntOf r c p e ns : Nat),true) else (0,false)
theorem specCount_ev (r c : Int) (p : List S42) (e ns : List Int) (hp : p.length ≤ 1048576) (he : e.length ≤ 1048576) (hn : ns.length ≤ 1048576) : Ev (fun k => spec_CountSolutions.f k r c p e ns) (countA r c p e ns) := by
 unfold spec_CountSolutions.f countA
 by_cases g : chGood r c p e ns = true
 case neg =>
  rw [if_neg g]
  exact Ev.bind (syGood_ev r c p e ns hp he hn) (Ev.neg g (Ev.now _))
 rw [if_pos g]
 have d := chGood_dims g
 have b := rc_bd d.1 d.2.1
 have ht := d.2.2.2.2.2.1
 have hz : ((List.replicate (r * c + 1).toNat (0 : Int)).length : Int) = r * c + 1 := by simp; omega
 have s1 := runC_sum g (tried r c p.length).toNat 0 (List.replicate (r * c + 1).toNat 0,-1,-1,0) hz
 have s2 := runC_bd g (tried r c p.length).toNat 0 (List.replicate (r * c + 1).toNat 0,-1,-1,0) (by omega) hz (fun x hx => by rw [List.eq_of_mem_replicate hx]; omega)
 have s3 : ∀ (n : Nat),sumL (List.replicate n 0) = 0 := fun n => by induction n with | zero => rfl | succ n ih => rw [List.replicate_succ,sumL,ih]; rfl
 refine Ev.bind (syGood_ev r c p e ns hp he hn) (Ev.pos g (Ev.bind (syCount_ev g) ?_))
 refine Ev.cast (specSum_ev (runAll r c p e ns).1 [] 0 (fun x hx => ?_) (by omega) (by simp) ?_) ?_
 ·have := s2 x hx; omega
 ·have := s1.2; unfold runAll; simp; omega
 ·have := s1.1; rw [s3] at this; unfold runAll cntOf; rw [this]; simp
theorem implCount_ev (r c : Int) (p : List S42) (e ns : List Int) : Ev (fun k => impl_CountSolutions.f k r c p e ns) (countA r c p e ns) := by
 unfold impl_CountSolutions.f countA
 by_cases g : chGood r c p e ns = true
 case neg =>
  rw [if_neg g]
  exact Ev.bind (IsChallenge_ev r c p e ns) (Ev.neg g (Ev.now _))
 rw [if_pos g]
 exact Ev.bind (IsChallenge_ev r c p e ns) (Ev.pos g (Ev.bind (count_ev g) (Ev.now _)))
def chFew (r c : Int) (p : List S42) (e n : List Int) : Prop := inR r 1 4 = true ∧ inR c 1 4 = true ∧ inR (p.length : Int) 0 6 = true ∧ inR (e.length : Int) 1 8 = true ∧ n.length = e.length ∧ tried r c p.length ≤ 7000 ∧ (e.all (fun x => inR x 0 (c - 1)) = true) ∧ (n.all (fun x => inR x 0 (c + 1)) = true) ∧ (∀ x ∈ p,goodCell x = true)
theorem bdOf_good0 {r c : Int} {p : List S42} {e ns : List Int} (h : chFew r c p e ns) (n : Int) : GoodB r c (bdOf r c p n) := by
 have d := h
 have b := rc_bd d.1 d.2.1
 have h1 := inR_iff.1 d.1
 have h2 := inR_iff.1 d.2.1
 have k := fillGo_keep (d.2.2.2.2.2.2.2.2) (r * c).toNat n (List.replicate (r * c).toNat (⟨0,0⟩ : S42)) (fun c hc => by rw [List.eq_of_mem_replicate hc]; decide)
 exact ⟨by omega,by omega,by omega,by omega,by rw [bdOf,k.2,List.length_replicate]; omega,k.1⟩
theorem syBoard_ev0 {r c : Int} {p : List S42} {e ns : List Int} (h : chFew r c p e ns) {n : Int} (n0 : 0 ≤ n) (n1 : n ≤ 7000) : Ev (fun k => spec_syBoard.f k r c p e ns n) (r,c,bdOf r c p n) := by
 have d := h
 have b := rc_bd d.1 d.2.1
 have hl := inR_iff.1 d.2.2.1
 have key : ∀ (m : Nat) (n : Int) (q : List S42),m ≤ q.length → q.length ≤ 16 → 0 ≤ n → n ≤ 7000 → Ev (fun k => spec_syBoard.l0 k n ((m : Int) - 1) r c p e ns r c q) (r,c,fillGo p m n q) := by
  intro m
  induction m with
  | zero =>
   intro n q hm hq h0 h1
   refine Ev.succ ?_
   simp only [spec_syBoard.l0]
   exact Ev.neg (by omega) (Ev.now _)
  | succ m ih =>
   intro n q hm hq h0 h1
   have t := tdiv_in (d := (p.length : Int) + 1) h0 h1 (by omega)
   have hmod := Int.tmod_lt_of_pos n (show (0 : Int) < (p.length : Int) + 1 by omega)
   have e1 : ((m + 1 : Nat) : Int) - 1 = (m : Int) := by omega
   rw [e1]
   refine Ev.succ ?_
   simp only [spec_syBoard.l0]
   rw [w64 (x := (p.length : Int) + 1) (by omega) (by omega),w64 (x := Int.tdiv n ((p.length : Int) + 1)) (by omega) (by omega),w64 (x := (m : Int) - 1) (by omega) (by omega),Int.toNat_natCast,fillGo]
   refine Ev.pos (by omega) (Ev.neg (by omega) ?_)
   by_cases a : Int.tmod n ((p.length : Int) + 1) > 0
   ·rw [w64 (x := Int.tmod n ((p.length : Int) + 1) - 1) (by omega) (by omega),if_pos a]
    exact Ev.pos a (Ev.pos (by omega) (Ev.pos (by omega) (Ev.pos (by omega) (Ev.pos (by omega) (ih _ _ (by rw [List.length_set]; omega) (by rw [List.length_set]; exact hq) t.1 t.2)))))
   ·rw [if_neg a]
    exact Ev.neg a (ih _ _ (by omega) hq t.1 t.2)
 unfold spec_syBoard.f
 rw [w64 (x := r * c) (by omega) (by omega)]
 refine Ev.pos (by omega) (Ev.pos (by omega) (Ev.bind (Ev.now _) ?_))
 rw [List.length_replicate,w64 (by omega) (by omega)]
 exact key (r * c).toNat n _ (by simp) (by simp; omega) n0 n1
def kindsIn (P cs : List S42) : Bool := cs.all (fun x => decide (x.f0 = 0) || decide (x ∈ P))
theorem syKinds_l1 (r c : Int) (P : List S42) (e ns : List Int) (hP : P.length ≤ 1000000) (cs : List S42) (i : Int) (x : S42) (t : Bool) (ht : Ev (fun k => spec_syKinds.l0 k cs (cs.length : Int) (wrap64 (i + 1)) r c P e ns) t) : ∀ (m j : Nat) (fd : Bool),j + m = P.length → Ev (fun k => spec_syKinds.l1 k fd cs (cs.length : Int) i P (P.length : Int) j r c P e ns x.f0 x.f1) ((fd || decide (x ∈ P.drop j)) && t) := by
 intro m
 induction m with
 | zero =>
  intro j fd hj
  refine Ev.succ ?_
  simp only [spec_syKinds.l1]
  refine Ev.neg (by omega) ?_
  rw [List.drop_eq_nil_of_le (by omega)]
  cases fd with
  | true => exact Ev.pos rfl (Ev.cast ht (by simp))
  | false => exact Ev.neg (by simp) (Ev.ret (by simp))
 | succ m ih =>
  intro j fd hj
  have hlt : j < P.length := by omega
  refine Ev.succ ?_
  simp only [spec_syKinds.l1]
  rw [rdC_at P j hlt,w64 (x := (j : Int) + 1) (by omega) (by omega),List.drop_eq_getElem_cons hlt]
  refine Ev.pos (by omega) (Ev.pos (by omega) (Ev.pos (by omega) ?_))
  cases fd with
  | true => exact Ev.pos rfl (Ev.cast (ih (j + 1) true (by omega)) (by simp))
  | false =>
   refine Ev.neg (by simp) ?_
   by_cases a : x = P[j]
   ·have hx := (cell_eq_iff x P[j]).2 a
    rw [hx]
    have hm : decide (x ∈ P[j] :: P.drop (j + 1)) = true := decide_eq_true (by rw [a]; exact List.mem_cons_self)
    exact Ev.cast (ih (j + 1) true (by omega)) (by rw [hm]; simp)
   ·have hx : (x.f0 == P[j].f0 && (x.f1 == P[j].f1)) = false := Bool.eq_false_iff.mpr (fun q => a ((cell_eq_iff x P[j]).1 q))
    rw [hx]
    refine Ev.cast (ih (j + 1) false (by omega)) ?_
    rw [Bool.false_or,Bool.false_or]
    congr 1
    exact decide_eq_decide.2 ⟨fun q => List.mem_cons_of_mem _ q,fun q => (List.mem_cons.1 q).resolve_left a⟩
theorem syKinds_ev (r c : Int) (P : List S42) (e ns : List Int) (hP : P.length ≤ 1000000) (R C : Int) (cs : List S42) (hl : cs.length ≤ 1000000) : Ev (fun k => spec_syKinds.f k r c P e ns R C cs) (kindsIn P cs) := by
 have key : ∀ (m i : Nat),i + m = cs.length → Ev (fun k => spec_syKinds.l0 k cs (cs.length : Int) i r c P e ns) (kindsIn P (cs.drop i)) := by
  intro m
  induction m with
  | zero =>
   intro i hi
   refine Ev.succ ?_
   simp only [spec_syKinds.l0]
   rw [List.drop_eq_nil_of_le (by omega)]
   exact Ev.neg (by omega) (Ev.now _)
  | succ m ih =>
   intro i hi
   have hlt : i < cs.length := by omega
   refine Ev.succ ?_
   simp only [spec_syKinds.l0]
   rw [rdC_at cs i hlt,List.drop_eq_getElem_cons hlt]
   have hr := ih (i + 1) (by omega)
   have hw : wrap64 ((i : Int) + 1) = ((i + 1 : Nat) : Int) := by rw [w64 (by omega) (by omega)]; rfl
   refine Ev.pos (by omega) (Ev.pos (by omega) (Ev.pos (by omega) (Ev.cast (syKinds_l1 r c P e ns hP cs i cs[i] (kindsIn P (cs.drop (i + 1))) (by rw [hw]; exact hr) P.length 0 (cs[i].f0 == 0) (by omega)) ?_)))
   rw [List.drop_zero]
   unfold kindsIn
   rw [List.all_cons]
   rfl
 exact key cs.length 0 (by omega)
def meetsA (r c : Int) (P : List S42) (e ns : List Int) (R C : Int) (cs : List S42) : Bool × Bool := if chGood r c P e ns = true ∧ boardGood R C cs = true then (if R = r ∧ C = c ∧ kindsIn P cs = true then (meetGo R C cs e ns,true) else (false,true)) else (false,false)
theorem specMeets_ev (r c : Int) (P : List S42) (e ns : List Int) (R C : Int) (cs : List S42) (hP : P.length ≤ 1048576) (he : e.length ≤ 1048576) (hn : ns.length ≤ 1048576) (hl : cs.length ≤ 1048576) : Ev (fun k => spec_MeetsChallenge.f k r c P e ns R C cs) (meetsA r c P e ns R C cs) := by
 unfold spec_MeetsChallenge.f
 have bad : ¬ (chGood r c P e ns = true ∧ boardGood R C cs = true) → Ev (fun k => spec_MeetsChallenge.j0 k true r c P e ns R C cs) (meetsA r c P e ns R C cs) := by
  intro h
  refine Ev.succ ?_
  simp only [spec_MeetsChallenge.j0]
  exact Ev.pos trivial (Ev.ret (by rw [meetsA,if_neg h]))
 refine Ev.bind (syGood_ev r c P e ns hP he hn) ?_
 by_cases g : chGood r c P e ns = true
 case neg => exact Ev.neg g (bad (fun q => g q.1))
 refine Ev.pos g (Ev.bind (boGood_ev R C cs hl) ?_)
 by_cases b : boardGood R C cs = true
 case neg =>
  have b2 := b
  rw [Bool.not_eq_true] at b2
  rw [b2]
  exact bad (fun q => b q.2)
 rw [b]
 have d := chGood_dims g
 have hp := inR_iff.1 d.2.2.1
 have hle := inR_iff.1 d.2.2.2.1
 have hb := GoodB.of b
 have l90 := hb.len90
 refine Ev.succ ?_
 simp only [spec_MeetsChallenge.j0]
 rw [meetsA,if_pos ⟨g,b⟩]
 refine Ev.neg (by simp) ?_
 by_cases a1 : R = r
 case neg => exact Ev.neg a1 (Ev.ret (by rw [if_neg (fun q => a1 q.1)]))
 refine Ev.pos a1 ?_
 by_cases a2 : C = c
 case neg => exact Ev.neg a2 (Ev.ret (by rw [if_neg (fun q => a2 q.2.1)]))
 refine Ev.pos a2 (Ev.bind (syKinds_ev r c P e ns (by omega) R C cs (by omega)) ?_)
 by_cases a3 : kindsIn P cs = true
 case neg => exact Ev.neg a3 (Ev.ret (by rw [if_neg (fun q => a3 q.2.2)]))
 rw [if_pos ⟨a1,a2,a3⟩]
 exact Ev.pos a3 (Ev.bind (syMeets_ev r c P d.2.2.2.2.1 (by omega) (fun x hx => by rw [a2]; exact ents_in g x hx) hb) (Ev.now _))
theorem implMeets_ev (r c : Int) (P : List S42) (e ns : List Int) (R C : Int) (cs : List S42) : Ev (fun k => impl_MeetsChallenge.f k r c P e ns R C cs) (meetsA r c P e ns R C cs) := by
 unfold impl_MeetsChallenge.f
 have bad : ¬ (chGood r c P e ns = true ∧ boardGood R C cs = true) → Ev (fun k => impl_MeetsChallenge.j0 k true r c P e ns R C cs) (meetsA r c P e ns R C cs) := by
  intro h
  refine Ev.succ ?_
  simp only [impl_MeetsChallenge.j0]
  exact Ev.pos trivial (Ev.ret (by rw [meetsA,if_neg h]))
 refine Ev.bind (IsChallenge_ev r c P e ns) ?_
 by_cases g : chGood r c P e ns = true
 case neg => exact Ev.neg g (bad (fun q => g q.1))
 refine Ev.pos g (Ev.bind (IsBoard_ev R C cs) ?_)
 by_cases b : boardGood R C cs = true
 case neg =>
  have b2 := b
  rw [Bool.not_eq_true] at b2
  rw [b2]
  exact bad (fun q => b q.2)
 rw [b]
 have d := chGood_dims g
 have hp := inR_iff.1 d.2.2.1
 have hle := inR_iff.1 d.2.2.2.1
 have hb := GoodB.of b
 have l90 := hb.len90
 rw [meetsA,if_pos ⟨g,b⟩]
 have other : ¬ (R = r ∧ C = c) → Ev (fun k => impl_MeetsChallenge.j1 k true r c P e ns R C cs) (if R = r ∧ C = c ∧ kindsIn P cs = true then (meetGo R C cs e ns,true) else (false,true)) := by
  intro h
  refine Ev.succ ?_
  simp only [impl_MeetsChallenge.j1]
  exact Ev.pos trivial (Ev.ret (by rw [if_neg (fun q => h ⟨q.1,q.2.1⟩)]))
 refine Ev.succ ?_
 simp only [impl_MeetsChallenge.j0]
 refine Ev.neg (by simp) ?_
 by_cases a1 : R = r
 case neg => exact Ev.neg a1 (other (fun q => a1 q.1))
 refine Ev.pos a1 ?_
 by_cases a2 : C = c
 case neg =>
  have : (C != c) = true := by simpa using a2
  rw [this]
  exact other (fun q => a2 q.2)
 have : (C != c) = false := by simpa using a2
 rw [this]
 have hv : (if R = r ∧ C = c ∧ kindsIn P cs = true then (meetGo R C cs e ns,true) else (false,true)) = (if kindsIn P cs = true then (meetGo R C cs e ns,true) else (false,true)) := by simp [a1,a2]
 rw [hv]
 refine Ev.succ ?_
 simp only [impl_MeetsChallenge.j1]
 refine Ev.neg (by simp) ?_
 have key : ∀ (m i : Nat),i + m = cs.length → Ev (fun k => impl_MeetsChallenge.l0 k cs (cs.length : Int) i r c P e ns R C cs) (if kindsIn P (cs.drop i) = true then (meetGo R C cs e ns,true) else (false,true)) := by
  intro m
  induction m with
  | zero =>
   intro i hi
   refine Ev.succ ?_
   simp only [impl_MeetsChallenge.l0]
   rw [List.drop_eq_nil_of_le (by omega)]
   refine Ev.neg (by omega) (Ev.bind (hasEnds_ev r c P d.2.2.2.2.1 (by omega) (fun x hx => by rw [a2]; exact ents_in g x hx) hb) (Ev.now _))
  | succ m ih =>
   intro i hi
   have hlt : i < cs.length := by omega
   refine Ev.succ ?_
   simp only [impl_MeetsChallenge.l0]
   rw [rdC_at cs i hlt,w64 (x := (i : Int) + 1) (by omega) (by omega),List.drop_eq_getElem_cons hlt]
   have hk : kindsIn P (cs[i] :: cs.drop (i + 1)) = ((decide (cs[i].f0 = 0) || decide (cs[i] ∈ P)) && kindsIn P (cs.drop (i + 1))) := rfl
   rw [hk]
   refine Ev.pos (by omega) (Ev.pos (by omega) (Ev.pos (by omega) ?_))
   by_cases z : cs[i].f0 = 0
   ·refine Ev.pos z (Ev.cast (ih (i + 1) (by omega)) ?_)
    rw [decide_eq_true z,Bool.true_or,Bool.true_and]
   ·refine Ev.neg z (Ev.bind (ContainsCell_ev P cs[i] (by omega)) ?_)
    rw [decide_eq_false z,Bool.false_or]
    by_cases y : cs[i] ∈ P
    ·refine Ev.pos (by simpa using y) (Ev.cast (ih (i + 1) (by omega)) ?_)
     rw [decide_eq_true y,Bool.true_and]
    ·refine Ev.neg (by simpa using y) (Ev.ret ?_)
     rw [decide_eq_false y,Bool.false_and]; rfl
 exact key cs.length 0 (by omega)
theorem fillGo_in (p : List S42) : ∀ (m : Nat) (n : Int) (q : List S42),∀ x ∈ fillGo p m n q,x ∈ q ∨ x ∈ p := by
 intro m
 induction m with
 | zero => intro n q x h; exact Or.inl h
 | succ m ih =>
  intro n q x h
  rw [fillGo] at h
  split at h
  ·rename_i hk
   have hl := Int.tmod_lt_of_pos n (show (0 : Int) < (p.length : Int) + 1 by omega)
   rcases ih _ _ x h with y | y
   ·rcases List.mem_or_eq_of_mem_set y with y | rfl
    ·exact Or.inl y
    ·exact Or.inr (rdC_mem (by omega) (by omega))
   ·exact Or.inr y
  ·exact ih _ _ x h
theorem bdOf_in (r c : Int) (p : List S42) (n : Int) : ∀ x ∈ bdOf r c p n,x = ⟨0,0⟩ ∨ x ∈ p := by
 intro x hx
 rcases fillGo_in p _ n _ x hx with h | h
 ·exact Or.inl (List.eq_of_mem_replicate h)
 ·exact Or.inr h
theorem partsOf_go : ∀ (l pre : List S42) (s : Int),pre.length + l.length ≤ 1000 → 0 ≤ s → s ≤ (pre.length : Int) → Ev (fun k => impl_partsOf.l0 k s (pre ++ l) ((pre ++ l).length : Int) (pre.length : Int)) (s + (nz l : Nat)) := by
 intro l
 induction l with
 | nil =>
  intro pre s _ _ _
  refine Ev.succ ?_
  simp only [impl_partsOf.l0]
  exact Ev.neg (by simp) (Ev.ret (by simp [nz]))
 | cons x l ih =>
  intro pre s hl h0 h1
  simp only [List.length_cons] at hl
  have er : rd_T42 (pre ++ x :: l) (pre.length : Int) = x := by unfold rd_T42; simp
  have q := fun s' hs1 hs2 => ih (pre ++ [x]) s' (by simp; omega) hs1 hs2
  simp only [List.append_assoc,List.cons_append,List.nil_append,List.length_append,List.length_cons,List.length_nil] at q
  refine Ev.succ ?_
  simp only [impl_partsOf.l0]
  rw [er,w64 (x := s + 1) (by omega) (by omega),w64 (x := (pre.length : Int) + 1) (by omega) (by omega)]
  refine Ev.pos (by simp; omega) (Ev.pos (by omega) (Ev.pos (by simp; omega) ?_))
  by_cases z : x.f0 = 0
  ·have e2 : nz (x :: l) = nz l := by simp [nz,z]
   rw [e2]
   exact Ev.pos z (Ev.congr (fun k => by simp) (q s h0 (by omega)))
  ·have e2 : nz (x :: l) = nz l + 1 := by simp [nz,z]
   rw [e2]
   exact Ev.neg z (Ev.cast (Ev.congr (fun k => by simp) (q (s + 1) (by omega) (by omega))) (by omega))
theorem partsOf_ev (R C : Int) {cs : List S42} (h : cs.length ≤ 1000) : Ev (fun k => impl_partsOf.f k R C cs) ((nz cs : Nat) : Int) := by
 unfold impl_partsOf.f
 exact Ev.cast (partsOf_go cs [] 0 (by simpa using h) (by omega) (by simp)) (by omega)
def outS (r c : Int) (p : List S42) (q : List Int × Int × Int × Int) : Int × Int × List S42 × Bool := if q.2.2.1 < 0 then (0,0,[],false) else (r,c,bdOf r c p q.2.2.1,true)
theorem runC_small (r c : Int) (p : List S42) (e ns : List Int) : ∀ (m : Nat) (n : Int) (q : List Int × Int × Int × Int),q.2.2.1 < n → (runC r c p e ns m n q).2.2.1 < n + m := by
 intro m
 induction m with
 | zero => intro n q h; rw [runC]; omega
 | succ m ih =>
  intro n q h
  rw [runC]
  have := ih (n + 1) (stepC r c p e ns n q) (by
   unfold stepC
   split
   ·dsimp only
    split <;> omega
   ·omega)
  omega
theorem smallest_ev {r c : Int} {p : List S42} {e ns : List Int} (h : chGood r c p e ns = true) : Ev (fun k => impl_smallestOf.f k r c p e ns) (outS r c p (runAll r c p e ns)) := by
 have d := chGood_dims h
 have hl := inR_iff.1 d.2.2.2.1
 have hr := inR_iff.1 d.1
 have ht := d.2.2.2.2.2.1
 have key : ∀ (m : Nat) (n : Int) (q : List Int × Int × Int × Int) (a b : Int) (xs : List S42),n + m = max 0 (tried r c p.length) → 0 ≤ n → ((q.2.2.1 < 0 ∧ a = 0 ∧ b = 0 ∧ xs = []) ∨ (0 ≤ q.2.2.1 ∧ a = r ∧ b = c ∧ xs = bdOf r c p q.2.2.1 ∧ q.2.2.2 = (nz (bdOf r c p q.2.2.1) : Nat))) → Ev (fun k => impl_smallestOf.l0 k n r c p e ns a b xs) (outS r c p (runC r c p e ns m n q)) := by
  intro m
  induction m with
  | zero =>
   intro n q a b xs hm h0 hq
   refine Ev.succ ?_
   simp only [impl_smallestOf.l0]
   refine Ev.bind (boardsTried_ev h) (Ev.neg (by omega) (Ev.ret ?_))
   rw [runC]
   unfold outS
   rcases hq with ⟨h1,rfl,rfl,rfl⟩ | ⟨h1,rfl,rfl,rfl,_⟩
   ·rw [if_pos h1]; rfl
   ·rw [if_neg (by omega),decide_eq_true (by omega)]
  | succ m ih =>
   intro n q a b xs hm h0 hq
   have g := bdOf_good h n
   have g1 := g.len90
   refine Ev.succ ?_
   simp only [impl_smallestOf.l0]
   rw [w64 (x := n + 1) (by omega) (by omega),runC]
   refine Ev.bind (boardsTried_ev h) (Ev.pos (by omega) (Ev.bind (boardOf_ev h h0 (by omega)) (Ev.bind (hasEnds_ev r c p d.2.2.2.2.1 (by omega) (ents_in h) g) ?_)))
   by_cases y : meetGo r c (bdOf r c p n) e ns = true
   ·refine Ev.pos y ?_
    have e1 : stepC r c p e ns n q = _ := if_pos y
    rcases hq with ⟨h1,rfl,rfl,rfl⟩ | ⟨h1,rfl,rfl,rfl,h2⟩
    ·refine Ev.pos rfl (ih (n + 1) _ r c (bdOf r c p n) (by omega) (by omega) (Or.inr ?_))
     rw [e1]
     dsimp only
     rw [if_pos (Or.inl h1),if_pos (Or.inl h1)]
     exact ⟨h0,rfl,rfl,rfl,rfl⟩
    ·have gb := (bdOf_good h q.2.2.1).len90
     refine Ev.neg (by omega) (Ev.bind (partsOf_ev _ _ (by dsimp only; omega)) (Ev.bind (partsOf_ev _ _ (by omega)) ?_))
     by_cases z : ((nz (bdOf a b p n) : Nat) : Int) < (nz (bdOf a b p q.2.2.1) : Nat)
     ·refine Ev.pos z (ih (n + 1) _ a b (bdOf a b p n) (by omega) (by omega) (Or.inr ?_))
      rw [e1]
      dsimp only
      rw [if_pos (Or.inr (by omega)),if_pos (Or.inr (by omega))]
      exact ⟨h0,rfl,rfl,rfl,rfl⟩
     ·refine Ev.neg z (ih (n + 1) _ a b _ (by omega) (by omega) (Or.inr ?_))
      rw [e1]
      dsimp only
      rw [if_neg (by omega),if_neg (by omega)]
      exact ⟨h1,rfl,rfl,rfl,h2⟩
   ·have e1 : stepC r c p e ns n q = q := if_neg y
    rw [e1]
    exact Ev.neg y (ih (n + 1) q a b xs (by omega) (by omega) hq)
 unfold impl_smallestOf.f runAll
 exact key (tried r c p.length).toNat 0 _ 0 0 [] (by omega) (by omega) (Or.inl ⟨by dsimp only; omega,rfl,rfl,rfl⟩)
def smallA (r c : Int) (p : List S42) (e ns : List Int) : Int × Int × List S42 × Bool := if chGood r c p e ns = true then outS r c p (runAll r c p e ns) else (0,0,[],false)
theorem runAll_small {r c : Int} {p : List S42} {e ns : List Int} (h : chGood r c p e ns = true) : (runAll r c p e ns).2.2.1 < 7000 + 1 := by
 have ht := (chGood_dims h).2.2.2.2.2.1
 have := runC_small r c p e ns (tried r c p.length).toNat 0 (List.replicate (r * c + 1).toNat 0,-1,-1,0) (by dsimp only; omega)
 unfold runAll
 omega
theorem specSmall_ev (r c : Int) (p : List S42) (e ns : List Int) (hp : p.length ≤ 1048576) (he : e.length ≤ 1048576) (hn : ns.length ≤ 1048576) : Ev (fun k => spec_SmallestBoard.f k r c p e ns) (smallA r c p e ns) := by
 unfold spec_SmallestBoard.f smallA outS
 by_cases g : chGood r c p e ns = true
 case neg =>
  rw [if_neg g]
  exact Ev.bind (syGood_ev r c p e ns hp he hn) (Ev.neg g (Ev.now _))
 rw [if_pos g]
 refine Ev.bind (syGood_ev r c p e ns hp he hn) (Ev.pos g (Ev.bind (syCount_ev g) ?_))
 by_cases z : (runAll r c p e ns).2.2.1 < 0
 ·rw [if_pos z]
  exact Ev.pos z (Ev.now _)
 ·rw [if_neg z]
  have := runAll_small g
  exact Ev.neg z (Ev.bind (syBoard_ev g (by dsimp only; omega) (by dsimp only; omega)) (Ev.now _))
theorem implSmall_ev (r c : Int) (p : List S42) (e ns : List Int) : Ev (fun k => impl_SmallestBoard.f k r c p e ns) (smallA r c p e ns) := by
 unfold impl_SmallestBoard.f smallA
 by_cases g : chGood r c p e ns = true
 case neg =>
  rw [if_neg g]
  exact Ev.bind (IsChallenge_ev r c p e ns) (Ev.neg g (Ev.now _))
 rw [if_pos g]
 exact Ev.bind (IsChallenge_ev r c p e ns) (Ev.pos g (Ev.bind (smallest_ev g) (Ev.now _)))
def fewA (r c : Int) (p : List S42) (e ns : List Int) : Int × Bool := if (smallA r c p e ns).2.2.2 = true then ((nz (smallA r c p e ns).2.2.1 : Nat),true) else (0,false)
theorem specFew_ev (r c : Int) (p : List S42) (e ns : List Int) (hp : p.length ≤ 1048576) (he : e.length ≤ 1048576) (hn : ns.length ≤ 1048576) : Ev (fun k => spec_FewestParts.f k r c p e ns) (fewA r c p e ns) := by
 unfold spec_FewestParts.f fewA
 refine Ev.bind (specSmall_ev r c p e ns hp he hn) ?_
 refine Ev.ite (fun z => Ev.bind ?_ (Ev.now _)) (fun _ => Ev.now _)
 unfold smallA outS at z ⊢
 by_cases g : chGood r c p e ns = true
 ·rw [if_pos g] at z ⊢
  by_cases y : (runAll r c p e ns).2.2.1 < 0
  ·rw [if_pos y] at z; cases z
  ·rw [if_neg y]
   exact sySize_ev (bdOf_good g _)
 ·rw [if_neg g] at z; cases z
theorem implFew_ev (r c : Int) (p : List S42) (e ns : List Int) : Ev (fun k => impl_FewestParts.f k r c p e ns) (fewA r c p e ns) := by
 unfold impl_FewestParts.f fewA smallA
 by_cases g : chGood r c p e ns = true
 case neg =>
  rw [if_neg g]
  exact Ev.bind (IsChallenge_ev r c p e ns) (Ev.neg g (Ev.now _))
 rw [if_pos g]
 refine Ev.bind (IsChallenge_ev r c p e ns) (Ev.pos g (Ev.bind (smallest_ev g) ?_))
 unfold outS
 by_cases y : (runAll r c p e ns).2.2.1 < 0
 ·rw [if_pos y]
  exact Ev.bind (partsOf_ev _ _ (by simp)) (Ev.now _)
 ·rw [if_neg y]
  have gb := (bdOf_good g (runAll r c p e ns).2.2.1).len90
  exact Ev.bind (partsOf_ev _ _ (by dsimp only; omega)) (Ev.now _)
def sizesA (r c : Int) (p : List S42) (e ns : List Int) : List Int × Bool := if chGood r c p e ns = true then ((runAll r c p e ns).1,true) else ([],false)
theorem specSizes_ev (r c : Int) (p : List S42) (e ns : List Int) (hp : p.length ≤ 1048576) (he : e.length ≤ 1048576) (hn : ns.length ≤ 1048576) : Ev (fun k => spec_SolutionsBySize.f k r c p e ns) (sizesA r c p e ns) := by
 unfold spec_SolutionsBySize.f sizesA
 by_cases g : chGood r c p e ns = true
 case neg =>
  rw [if_neg g]
  exact Ev.bind (syGood_ev r c p e ns hp he hn) (Ev.neg g (Ev.now _))
 rw [if_pos g]
 exact Ev.bind (syGood_ev r c p e ns hp he hn) (Ev.pos g (Ev.bind (syCount_ev g) (Ev.now _)))
theorem implSizes_ev (r c : Int) (p : List S42) (e ns : List Int) : Ev (fun k => impl_SolutionsBySize.f k r c p e ns) (sizesA r c p e ns) := by
 unfold impl_SolutionsBySize.f sizesA
 by_cases h : chGood r c p e ns = true
 case neg =>
  rw [if_neg h]
  exact Ev.bind (IsChallenge_ev r c p e ns) (Ev.neg h (Ev.now _))
 rw [if_pos h]
 have d := chGood_dims h
 have hl := inR_iff.1 d.2.2.2.1
 have ht := d.2.2.2.2.2.1
 have b := rc_bd d.1 d.2.1
 have key : ∀ (m : Nat) (n : Int) (q : List Int × Int × Int × Int),n + m = max 0 (tried r c p.length) → 0 ≤ n → (q.1.length : Int) = r * c + 1 → (∀ x ∈ q.1,0 ≤ x ∧ x ≤ n) → Ev (fun k => impl_SolutionsBySize.l0 k q.1 n r c p e ns) ((runC r c p e ns m n q).1,true) := by
  intro m
  induction m with
  | zero =>
   intro n q hm h0 _ _
   refine Ev.succ ?_
   simp only [impl_SolutionsBySize.l0]
   exact Ev.bind (boardsTried_ev h) (Ev.neg (by omega) (Ev.now _))
  | succ m ih =>
   intro n q hm h0 hlq hq
   have hs := stepC_inv h h0 hlq hq
   have hi := ih (n + 1) (stepC r c p e ns n q) (by omega) (by omega) hs.1 hs.2
   have g := bdOf_good h n
   have g1 := g.len
   have g2 := nz_le (bdOf r c p n)
   refine Ev.succ ?_
   simp only [impl_SolutionsBySize.l0]
   rw [w64 (x := n + 1) (by omega) (by omega),runC]
   refine Ev.bind (boardsTried_ev h) (Ev.pos (by omega) (Ev.bind (boardOf_ev h h0 (by omega)) (Ev.bind (hasEnds_ev r c p d.2.2.2.2.1 (by omega) (ents_in h) g) ?_)))
   by_cases y : meetGo r c (bdOf r c p n) e ns = true
   ·refine Ev.pos y (Ev.bind (partsOf_ev _ _ (by dsimp only; omega)) (Ev.pos (by dsimp only; omega) (Ev.pos (by dsimp only; omega) ?_)))
    have hm := hq _ (rd_mem q.1 (nz (bdOf r c p n) : Int) (by omega))
    rw [w64 (x := rd q.1 (nz (bdOf r c p n) : Int) + 1) (by omega) (by omega),Int.toNat_natCast]
    have e1 : (stepC r c p e ns n q).1 = q.1.set (nz (bdOf r c p n)) (rd q.1 (nz (bdOf r c p n)) + 1) := by unfold stepC; rw [if_pos y]
    rw [e1] at hi
    exact hi
   ·have e1 : stepC r c p e ns n q = q := if_neg y
    rw [e1] at hi ⊢
    exact Ev.neg y hi
 refine Ev.bind (IsChallenge_ev r c p e ns) (Ev.pos h ?_)
 unfold runAll
 rw [w64 (x := r * c) (by omega) (by omega),w64 (x := r * c + 1) (by omega) (by omega)]
 refine Ev.pos (by omega) (Ev.pos (by omega) ?_)
 exact key (tried r c p.length).toNat 0 (List.replicate (r * c + 1).toNat 0,-1,-1,0) (by omega) (by omega) (by simp; omega) (fun x hx => by rw [List.eq_of_mem_replicate hx]; omega)
def okC (r c : Int) (p : List S42) (e ns : List Int) (q : List Int × Int × Int × Int) : Prop := (q.1.length : Int) = r * c + 1 ∧ (∀ x ∈ q.1,0 ≤ x) ∧ ((q.2.2.1 < 0 ∧ ∀ i : Nat,i < q.1.length → rd q.1 (i : Int) = 0) ∨ (0 ≤ q.2.2.1 ∧ q.2.2.2 = (nz (bdOf r c p q.2.2.1) : Nat) ∧ meetGo r c (bdOf r c p q.2.2.1) e ns = true ∧ 1 ≤ rd q.1 q.2.2.2 ∧ ∀ i : Nat,(i : Int) < q.2.2.2 → rd q.1 (i : Int) = 0))
theorem stepC_ok {r c : Int} {p : List S42} {e ns : List Int} (g : chGood r c p e ns = true) {n : Int} (h0 : 0 ≤ n) {q : List Int × Int × Int × Int} (h : okC r c p e ns q) : okC r c p e ns (stepC r c p e ns n q) := by
 by_cases y : meetGo r c (bdOf r c p n) e ns = true
 case neg => rw [show stepC r c p e ns n q = q from if_neg y]; exact h
 rw [show stepC r c p e ns n q = _ from if_pos y]
 obtain ⟨q1,q2,q3,q4⟩ := q
 obtain ⟨hl,hp,hc⟩ := h
 dsimp only at hl hp hc
 have g1 := (bdOf_good g n).len
 have g2 := nz_le (bdOf r c p n)
 have e1 : rd (q1.set (nz (bdOf r c p n)) (rd q1 (nz (bdOf r c p n)) + 1)) (nz (bdOf r c p n)) = rd q1 (nz (bdOf r c p n)) + 1 := rd_set_self q1 (nz (bdOf r c p n)) _ (by omega)
 have e2 : ∀ j : Int,0 ≤ j → j ≠ (nz (bdOf r c p n) : Int) → rd (q1.set (nz (bdOf r c p n)) (rd q1 (nz (bdOf r c p n)) + 1)) j = rd q1 j := fun j j0 hj => rd_set_ne q1 (nz (bdOf r c p n)) j _ (by omega)
 have e3 := hp _ (rd_mem q1 (nz (bdOf r c p n) : Int) (by omega))
 refine ⟨by dsimp only; rw [List.length_set]; exact hl,fun x hx => ?_,Or.inr ?_⟩
 ·rcases List.mem_or_eq_of_mem_set hx with hx | rfl
  ·exact hp x hx
  ·show (0 : Int) ≤ rd q1 (nz (bdOf r c p n) : Int) + 1
   omega
 dsimp only
 rcases hc with ⟨c1,c2⟩ | ⟨c1,c2,c3,c4,c5⟩
 ·rw [if_pos (Or.inl c1),if_pos (Or.inl c1)]
  exact ⟨h0,rfl,y,by omega,fun i hi => by rw [e2 _ (by omega) (by omega)]; exact c2 i (by omega)⟩
 ·by_cases z : (nz (bdOf r c p n) : Int) < q4
  ·rw [if_pos (Or.inr z),if_pos (Or.inr z)]
   exact ⟨h0,rfl,y,by omega,fun i hi => by rw [e2 _ (by omega) (by omega)]; exact c5 i (by omega)⟩
  ·rw [if_neg (by omega),if_neg (by omega)]
   refine ⟨c1,c2,c3,?_,fun i hi => by rw [e2 _ (by omega) (by omega)]; exact c5 i hi⟩
   by_cases w : q4 = (nz (bdOf r c p n) : Int)
   ·rw [w,e1]; omega
   ·rw [e2 _ (by omega) w]; exact c4
theorem runC_ok {r c : Int} {p : List S42} {e ns : List Int} (g : chGood r c p e ns = true) : ∀ (m : Nat) (n : Int) (q : List Int × Int × Int × Int),0 ≤ n → okC r c p e ns q → okC r c p e ns (runC r c p e ns m n q) := by
 intro m
 induction m with
 | zero => exact fun _ _ _ h => h
 | succ m ih => exact fun n q h0 h => ih (n + 1) _ (by omega) (stepC_ok g h0 h)
theorem runAll_ok {r c : Int} {p : List S42} {e ns : List Int} (g : chGood r c p e ns = true) : okC r c p e ns (runAll r c p e ns) := by
 have d := chGood_dims g
 have b := rc_bd d.1 d.2.1
 refine runC_ok g _ 0 _ (by omega) ⟨by simp; omega,fun x hx => by rw [List.eq_of_mem_replicate hx]; omega,Or.inl ⟨by dsimp only; omega,fun i hi => ?_⟩⟩
 exact List.eq_of_mem_replicate (rd_mem _ (i : Int) (by simpa using hi))
theorem sumL_zero : ∀ l : List Int,(∀ x ∈ l,x = 0) → sumL l = 0
 | [],_ => rfl
 | x :: l,h => by rw [sumL,sumL_zero l (fun y hy => h y (by simp [hy])),h x (by simp)]; rfl
theorem sumL_nn : ∀ l : List Int,(∀ x ∈ l,0 ≤ x) → 0 ≤ sumL l
 | [],_ => by simp [sumL]
 | x :: l,h => by have := sumL_nn l (fun y hy => h y (by simp [hy])); have := h x (by simp); rw [sumL]; omega
theorem sumL_pos : ∀ l : List Int,(∀ x ∈ l,0 ≤ x) → ∀ y ∈ l,y ≤ sumL l
 | x :: l,h,y,hy => by
  have a := h x (by simp)
  rw [sumL]
  rcases List.mem_cons.1 hy with rfl | hy
  ·have := sumL_nn l (fun y hy => h y (by simp [hy])); omega
  ·have := sumL_pos l (fun y hy => h y (by simp [hy])) y hy; omega
theorem rd_nat {l : List Int} {i : Nat} (h : i < l.length) : rd l (i : Int) = l[i] := by
 unfold rd
 rw [Int.toNat_natCast,List.getD_eq_getElem?_getD,List.getElem?_eq_getElem h]; rfl
theorem runAll_sum {r c : Int} {p : List S42} {e ns : List Int} (g : chGood r c p e ns = true) : sumL (runAll r c p e ns).1 = (cntOf r c p e ns : Nat) ∧ ((runAll r c p e ns).1.length : Int) = r * c + 1 := by
 have d := chGood_dims g
 have b := rc_bd d.1 d.2.1
 have h := runC_sum g (tried r c p.length).toNat 0 (List.replicate (r * c + 1).toNat 0,-1,-1,0) (by simp; omega)
 rw [sumL_zero (List.replicate _ 0) (fun x hx => List.eq_of_mem_replicate hx)] at h
 unfold runAll cntOf
 exact ⟨by omega,h.2⟩
theorem runAll_small_cnt {r c : Int} {p : List S42} {e ns : List Int} (g : chGood r c p e ns = true) : (cntOf r c p e ns = 0 ∧ (runAll r c p e ns).2.2.1 < 0) ∨ (0 < cntOf r c p e ns ∧ 0 ≤ (runAll r c p e ns).2.2.1) := by
 have s := runAll_sum g
 obtain ⟨hl,hp,hc⟩ := runAll_ok g
 rcases hc with ⟨c1,c2⟩ | ⟨c1,c2,c3,c4,c5⟩
 ·refine Or.inl ⟨?_,c1⟩
  have := sumL_zero (runAll r c p e ns).1 (fun x hx => by obtain ⟨i,hi,rfl⟩ := List.getElem_of_mem hx; rw [← rd_nat hi]; exact c2 i hi)
  omega
 ·refine Or.inr ⟨?_,c1⟩
  have g1 := (bdOf_good g (runAll r c p e ns).2.2.1).len
  have g2 := nz_le (bdOf r c p (runAll r c p e ns).2.2.1)
  have := sumL_pos _ hp _ (rd_mem (runAll r c p e ns).1 (runAll r c p e ns).2.2.2 (by omega))
  omega
theorem runAll_take {r c : Int} {p : List S42} {e ns : List Int} (g : chGood r c p e ns = true) (h : 0 ≤ (runAll r c p e ns).2.2.1) : meetGo r c (bdOf r c p (runAll r c p e ns).2.2.1) e ns = true ∧ 1 ≤ rd (runAll r c p e ns).1 (nz (bdOf r c p (runAll r c p e ns).2.2.1) : Nat) ∧ (nz (bdOf r c p (runAll r c p e ns).2.2.1) : Int) < ((runAll r c p e ns).1.length : Int) ∧ sumL ((runAll r c p e ns).1.take (nz (bdOf r c p (runAll r c p e ns).2.2.1))) = 0 := by
 obtain ⟨hl,hp,hc⟩ := runAll_ok g
 have g1 := (bdOf_good g (runAll r c p e ns).2.2.1).len
 have g2 := nz_le (bdOf r c p (runAll r c p e ns).2.2.1)
 rcases hc with ⟨c1,c2⟩ | ⟨c1,c2,c3,c4,c5⟩
 ·omega
 refine ⟨c3,by rw [← c2]; exact c4,by omega,sumL_zero _ (fun x hx => ?_)⟩
 obtain ⟨i,hi,rfl⟩ := List.getElem_of_mem hx
 rw [List.length_take] at hi
 rw [List.getElem_take,← rd_nat (by omega)]
 exact c5 i (by omega)
theorem u8_wf {l : List Int} (h : ∀ y ∈ l,(Lit.int .u8 y).wf = true) : ∀ y ∈ l,0 ≤ y ∧ y ≤ 255 := by
 intro y hy
 have e := h y hy
 have e2 : (Lit.int .u8 y).wf = (decide ((0 : Int) ≤ y) && decide (y ≤ 255)) := rfl
 rw [e2] at e
 simp only [Bool.and_eq_true,decide_eq_true_eq] at e
 exact e
theorem and255 (y : Int) : 0 ≤ wrap64 (Go.bits .and .u64 y 255) ∧ wrap64 (Go.bits .and .u64 y 255) ≤ 255 := by
 have hd : Go.bits .and .u64 y 255 = IntKind.u64.wrap (((BitVec.ofInt 64 y &&& BitVec.ofInt 64 255 : BitVec 64).toNat : Nat) : Int) := rfl
 have hw : ∀ x : Int,IntKind.u64.wrap x = x % 18446744073709551616 := fun x => rfl
 rw [hd,BitVec.toNat_and]
 have e : (BitVec.ofInt 64 255).toNat = 255 := by decide
 rw [e,hw]
 have b := Nat.and_le_right (n := (BitVec.ofInt 64 y).toNat) (m := 255)
 rw [Int.emod_eq_of_lt (by omega) (by omega),w64 (by omega) (by omega)]
 omega
theorem next_ok {l : List Int} (hl : ∀ y ∈ l,0 ≤ y ∧ y ≤ 255) {a : Int} (s : Int) (h0 : 0 ≤ a) (h1 : a ≤ 1000000) : ∃ b s',spec_l1Cur_next.f l a s = some (b,a + 1,s') ∧ 0 ≤ b ∧ b ≤ 255 := by
 unfold spec_l1Cur_next.f
 rw [w64 (x := a + 1) (by omega) (by omega)]
 by_cases c : a < (l.length : Int)
 ·rw [if_pos c,if_pos h0,if_pos (by omega)]
  have hm : rd l a ∈ l := by
   unfold rd
   rw [List.getD_eq_getElem?_getD,List.getElem?_eq_getElem (show a.toNat < l.length by omega)]
   exact List.getElem_mem _
  have hb := hl _ hm
  refine ⟨_,_,rfl,?_⟩
  rw [w64 (by omega) (by omega)]
  exact hb
 ·rw [if_neg c,if_neg (by omega)]
  exact ⟨_,_,rfl,and255 _⟩
theorem pick_ok {l : List Int} (hl : ∀ y ∈ l,0 ≤ y ∧ y ≤ 255) {a : Int} (s : Int) (h0 : 0 ≤ a) (h1 : a ≤ 900000) (n : Int) : ∃ v a' s',spec_l1Cur_pick.f l a s n = some (v,a',s') ∧ 0 ≤ v ∧ (v < n ∨ n ≤ 1 ∧ v = 0) ∧ a ≤ a' ∧ a' ≤ a + 2 := by
 unfold spec_l1Cur_pick.f
 by_cases c : n ≤ 1
 ·rw [if_pos c]
  exact ⟨_,_,_,rfl,by omega,by omega,by omega,by omega⟩
 rw [if_neg c]
 obtain ⟨b,s1,e1,b0,b1⟩ := next_ok hl s h0 (by omega)
 rw [e1,Option.bind_some]
 dsimp only
 by_cases c2 : n > 200
 ·rw [if_pos c2]
  obtain ⟨d,s2,e2,d0,d1⟩ := next_ok hl s1 (show 0 ≤ a + 1 by omega) (by omega)
  rw [e2,Option.bind_some,if_neg (by omega)]
  dsimp only
  rw [w64 (x := b * 256) (by omega) (by omega),w64 (x := b * 256 + d) (by omega) (by omega)]
  exact ⟨_,_,_,rfl,Int.tmod_nonneg _ (by omega),Or.inl (Int.tmod_lt_of_pos _ (by omega)),by omega,by omega⟩
 ·rw [if_neg c2,if_neg (by omega)]
  exact ⟨_,_,_,rfl,Int.tmod_nonneg _ (by omega),Or.inl (Int.tmod_lt_of_pos _ (by omega)),by omega,by omega⟩
theorem one_ok {l : List Int} (hl : ∀ y ∈ l,0 ≤ y ∧ y ≤ 255) {a : Int} (s : Int) (h0 : 0 ≤ a) (h1 : a ≤ 900000) (n : Int) : ∃ v a' s',spec_l1Cur_one.f l a s n = some (v,a',s') ∧ a ≤ a' ∧ a' ≤ a + 2 := by
 unfold spec_l1Cur_one.f
 obtain ⟨v,a',s',e,_,_,h2,h3⟩ := pick_ok hl s h0 h1 n
 rw [e,Option.bind_some]
 exact ⟨_,_,_,rfl,h2,h3⟩
theorem among_ok {l : List Int} (hl : ∀ y ∈ l,0 ≤ y ∧ y ≤ 255) {a : Int} (s : Int) (h0 : 0 ≤ a) (h1 : a ≤ 900000) (q : List Int) (hq : 0 < q.length) : ∃ v a' s',spec_l1Cur_among.f l a s q = some (v,a',s') ∧ a ≤ a' ∧ a' ≤ a + 2 ∧ v ∈ q := by
 unfold spec_l1Cur_among.f
 obtain ⟨v,a',s',e,v0,v1,h2,h3⟩ := pick_ok hl s h0 h1 (q.length : Int)
 rw [e,Option.bind_some]
 dsimp only
 rw [if_pos v0,if_pos (by omega)]
 refine ⟨_,_,_,rfl,h2,h3,?_⟩
 unfold rd
 rw [List.getD_eq_getElem?_getD,List.getElem?_eq_getElem (show v.toNat < q.length by omega)]
 exact List.getElem_mem _
theorem syBoard_any (r c : Int) (p : List S42) (e n e' n' : List Int) (i : Int) (k : Nat) : spec_syBoard.f k r c p e n i = spec_syBoard.f k r c p e' n' i := by
 have key : ∀ (k : Nat) (i x : Int) (u v : Int) (q : List S42),spec_syBoard.l0 k i x r c p e n u v q = spec_syBoard.l0 k i x r c p e' n' u v q := by
  intro k
  induction k with
  | zero => intros; rfl
  | succ k ih => intro i x u v q; simp only [spec_syBoard.l0,ih]
 unfold spec_syBoard.f
 simp only [key]
def drawIn (x : Int × Int × List S42 × List Int × List Int × Int × Int) (m : Int) : Prop := 1 ≤ x.1 ∧ x.1 ≤ 4 ∧ 1 ≤ x.2.1 ∧ x.2.1 ≤ 4 ∧ 1 ≤ x.2.2.1.length ∧ x.2.2.1.length ≤ 6 ∧ 1 ≤ x.2.2.2.1.length ∧ x.2.2.2.1.length ≤ 8 ∧ x.2.2.2.2.1.length = x.2.2.2.1.length ∧ 0 ≤ x.2.2.2.2.2.1 ∧ x.2.2.2.2.2.1 ≤ m
/-! the ends of the drawn entries -/
theorem chal_l2 {l : List Int} (hl : ∀ y ∈ l,0 ≤ y ∧ y ≤ 255) {a : Int} (s : Int) (h0 : 0 ≤ a) (h1 : a ≤ 1000) {r c : Int} (r1 : 1 ≤ r) (r4 : r ≤ 4) (c1 : 1 ≤ c) (c4 : c ≤ 4) {p : List S42} (p1 : 1 ≤ p.length) (p6 : p.length ≤ 6) {e : List Int} (e1 : 1 ≤ e.length) (e8 : e.length ≤ 8) (he : ∀ x ∈ e,0 ≤ x ∧ x < c) {b : List S42} (B : GoodB r c b) : ∀ (m i : Nat) (q : List Int) (cs : List S42),i + m = e.length → q.length = i → GoodB r c cs → ∃ x,Ev (fun k => spec_l1Cur_challenge.l2 k (e.length : Int) i l a s r c p e q r c b r c cs) x ∧ drawIn x (a + 4) := by
 intro m
 induction m with
 | zero =>
  intro i q cs hi hq hg
  obtain ⟨v,a',s',ev,a1,a2⟩ := one_ok hl s h0 (by omega) 6
  obtain ⟨w,a'',s'',ew,_,_,a3,a4⟩ := pick_ok hl s' (show 0 ≤ a' by omega) (by omega) (c + 2)
  cases v with
  | true =>
   refine ⟨(r,c,p,e,q.set (0 : Int).toNat w,a'',s''),Ev.succ ?_,?_⟩
   ·simp only [spec_l1Cur_challenge.l2]
    rw [w64 (x := c + 2) (by omega) (by omega)]
    exact Ev.neg (by omega) (Ev.bind (Ev.val ev) (Ev.pos rfl (Ev.bind (Ev.val ew) (Ev.pos (by omega) (Ev.now _)))))
   ·exact ⟨r1,r4,c1,c4,p1,p6,e1,e8,by simp; omega,by dsimp only; omega,by dsimp only; omega⟩
  | false =>
   refine ⟨(r,c,p,e,q,a',s'),Ev.succ ?_,?_⟩
   ·simp only [spec_l1Cur_challenge.l2]
    exact Ev.neg (by omega) (Ev.bind (Ev.val ev) (Ev.neg (by simp) (Ev.now _)))
   ·exact ⟨r1,r4,c1,c4,p1,p6,e1,e8,by dsimp only; omega,by dsimp only; omega,by dsimp only; omega⟩
 | succ m ih =>
  intro i q cs hi hq hg
  have hi2 : i < e.length := by omega
  have hb := he _ (List.getElem_mem hi2)
  have hc2 := hg.c2
  obtain ⟨x,ex,dx⟩ := ih (i + 1) (q ++ [endNum c (fallR r c cs e[i]).1 (fallR r c cs e[i]).2.2.1]) _ (by omega) (by simp; omega) (fallR_keep hg hb.1 hb.2).1
  refine ⟨x,Ev.succ ?_,dx⟩
  simp only [spec_l1Cur_challenge.l2]
  rw [rd_at e i hi2,w64 (x := (i : Int) + 1) (by omega) (by omega)]
  exact Ev.pos (by omega) (Ev.pos (by omega) (Ev.pos (by omega) (Ev.bind (flRun_ev hg hb.1 hb.2) (Ev.bind (Ev.val (syEnd_ok (by omega) hc2 _ _ _ _ _)) (Ev.pos (by omega) ex)))))
theorem l1Least_ok (x y : Int) : ∃ z,spec_l1Least.f x y = some z ∧ z ≤ x ∧ z ≤ y ∧ (z = x ∨ z = y) := by
 unfold spec_l1Least.f
 by_cases h : x < y
 ·rw [if_pos h]; exact ⟨_,rfl,by omega,by omega,Or.inl rfl⟩
 ·rw [if_neg h]; exact ⟨_,rfl,by omega,by omega,Or.inr rfl⟩
theorem few_of {r c : Int} (r1 : 1 ≤ r) (r4 : r ≤ 2) (c1 : 1 ≤ c) (c4 : c ≤ 3) {p : List S42} (p6 : p.length ≤ 3) (hp : ∀ x ∈ p,goodCell x = true) : chFew r c p [0] [0] := by
 have hrc : r * c ≤ 6 := by
  have : r * c ≤ 2 * 3 := Int.mul_le_mul r4 c4 (by omega) (by omega)
  omega
 refine ⟨inR_iff.2 (by omega),inR_iff.2 (by omega),inR_iff.2 (by omega),by decide,rfl,?_,by simp [inR]; omega,by simp [inR]; omega,hp⟩
 have key : ∀ (a : Fin 5) (n : Fin 7),pw ((a.val : Nat) : Int) n.val 1 ≤ 7000 := by decide
 have := key ⟨p.length + 1,by omega⟩ ⟨(r * c).toNat,by omega⟩
 unfold tried
 rw [show ((p.length : Int) + 1) = ((p.length + 1 : Nat) : Int) by omega]
 exact this
theorem chal_l1 {l : List Int} (hl : ∀ y ∈ l,0 ≤ y ∧ y ≤ 255) {r c : Int} (r1 : 1 ≤ r) (r2 : r ≤ 2) (c1 : 1 ≤ c) (c3 : c ≤ 3) {p : List S42} (p1 : 1 ≤ p.length) (p3 : p.length ≤ 3) (hp : ∀ x ∈ p,goodCell x = true) : ∀ (m : Nat) (a s : Int) (e : List Int),0 ≤ a → a + 2 * m ≤ 900 → 1 ≤ e.length + m → e.length + m ≤ 8 → (∀ x ∈ e,0 ≤ x ∧ x < c) → ∃ x,Ev (fun k => spec_l1Cur_challenge.l1 k m l a s r c p e) x ∧ drawIn x (a + 2 * m + 6) := by
 intro m
 induction m with
 | zero =>
  intro a s e h0 h1 h2 h3 he
  have F := few_of r1 r2 c1 c3 p3 hp
  obtain ⟨z,ez,z1,z2,z3⟩ := l1Least_ok 7000 (tried r c p.length)
  have ht := tried_pos (a := (p.length : Int) + 1) (by omega) (r * c).toNat 1 (by omega)
  obtain ⟨v,a',s',ev,v0,v1,a1,a2⟩ := pick_ok hl s h0 (by omega) z
  obtain ⟨x,ex,dx⟩ := chal_l2 hl s' (show 0 ≤ a' by omega) (by omega) r1 (by omega) c1 (by omega) p1 (by omega) (e := e) (by omega) (by omega) he (bdOf_good0 F v) e.length 0 [] (bdOf r c p v) (by omega) rfl (bdOf_good0 F v)
  refine ⟨x,Ev.succ ?_,?_⟩
  ·simp only [spec_l1Cur_challenge.l1]
   refine Ev.neg (by omega) (Ev.bind (syTried_ev r c p e [] (inR_iff.2 (by omega)) (inR_iff.2 (by omega)) (inR_iff.2 (by omega))) (Ev.bind (Ev.val ez) (Ev.bind (Ev.val ev) (Ev.bind (Ev.congr (fun k => (syBoard_any r c p e [] [0] [0] v k)) (syBoard_ev0 F v0 (by omega))) ex))))
  ·unfold drawIn at dx ⊢; omega
 | succ m ih =>
  intro a s e h0 h1 h2 h3 he
  obtain ⟨v,a',s',ev,v0,v1,a1,a2⟩ := pick_ok hl s h0 (by omega) c
  obtain ⟨x,ex,dx⟩ := ih a' s' (e ++ [v]) (by omega) (by omega) (by simp; omega) (by simp; omega) (fun y hy => by
   rcases List.mem_append.1 hy with hy | hy
   ·exact he y hy
   ·simp at hy; subst hy; omega)
  refine ⟨x,Ev.succ ?_,by unfold drawIn at dx ⊢; omega⟩
  simp only [spec_l1Cur_challenge.l1]
  rw [w64 (by omega) (by omega),show ((m + 1 : Nat) : Int) - 1 = (m : Int) by omega]
  exact Ev.pos (by omega) (Ev.bind (Ev.val ev) (Ev.pos (by omega) ex))
theorem chal_l0 {l : List Int} (hl : ∀ y ∈ l,0 ≤ y ∧ y ≤ 255) {r c : Int} (r1 : 1 ≤ r) (r2 : r ≤ 2) (c1 : 1 ≤ c) (c3 : c ≤ 3) {all : List S42} (ha : ∀ x ∈ all,goodCell x = true) (hne : 0 < all.length) : ∀ (m : Nat) (i a s : Int) (p : List S42),0 ≤ i → i + m ≤ 1000 → 0 ≤ a → a ≤ 100 → 1 ≤ p.length + m → p.length + m ≤ 3 → (∀ x ∈ p,goodCell x = true) → ∃ x,Ev (fun k => spec_l1Cur_challenge.l0 k all ((p.length : Int) + m) i l a s r c p) x ∧ drawIn x (a + 16) := by
 intro m
 induction m with
 | zero =>
  intro i a s p i0 i1 h0 h1 h2 h3 hp
  obtain ⟨v,a',s',ev,v0,v1,a1,a2⟩ := pick_ok hl s h0 (by omega) 4
  obtain ⟨x,ex,dx⟩ := chal_l1 hl r1 r2 c1 c3 (p := p) (by omega) (by omega) hp (1 + v).toNat a' s' [] (by omega) (by omega) (by simp; omega) (by simp; omega) (by simp)
  refine ⟨x,Ev.succ ?_,by unfold drawIn at dx ⊢; omega⟩
  simp only [spec_l1Cur_challenge.l0]
  refine Ev.neg (by omega) (Ev.bind (Ev.val ev) ?_)
  rw [w64 (by dsimp only; omega) (by dsimp only; omega)]
  rw [show ((1 + v).toNat : Int) = 1 + v by omega] at ex
  exact ex
 | succ m ih =>
  intro i a s p i0 i1 h0 h1 h2 h3 hp
  have t0 := Int.tmod_nonneg (a := i) (all.length : Int) i0
  have t1 := Int.tmod_lt_of_pos i (show (0 : Int) < (all.length : Int) by omega)
  have hg : goodCell (rd_T42 all (Int.tmod i (all.length : Int))) = true := ha _ (rdC_mem t0 t1)
  obtain ⟨x,ex,dx⟩ := ih (i + 1) a s (p ++ [⟨(rd_T42 all (Int.tmod i (all.length : Int))).f0,(rd_T42 all (Int.tmod i (all.length : Int))).f1⟩]) (by omega) (by omega) h0 h1 (by simp; omega) (by simp; omega) (fun y hy => by
   rcases List.mem_append.1 hy with hy | hy
   ·exact hp y hy
   ·simp at hy; rw [hy]; exact hg)
  refine ⟨x,Ev.succ ?_,dx⟩
  simp only [spec_l1Cur_challenge.l0]
  rw [w64 (x := i + 1) (by omega) (by omega)]
  rw [show (((p ++ [(⟨(rd_T42 all (Int.tmod i (all.length : Int))).f0,(rd_T42 all (Int.tmod i (all.length : Int))).f1⟩ : S42)]).length : Nat) : Int) + (m : Int) = (p.length : Int) + ((m + 1 : Nat) : Int) by simp; omega] at ex
  exact Ev.pos (by omega) (Ev.neg (by omega) (Ev.pos t0 (Ev.pos t1 (Ev.pos (by omega) ex))))
theorem challenge_ok {l : List Int} (hl : ∀ y ∈ l,0 ≤ y ∧ y ≤ 255) : ∃ x,Ev (fun k => spec_l1Cur_challenge.f k l 0 0) x ∧ drawIn x 40 := by
 obtain ⟨v1,a1,s1,e1,v10,v11,p1,q1⟩ := pick_ok hl 0 (show (0 : Int) ≤ 0 by omega) (by omega) 2
 obtain ⟨v2,a2,s2,e2,v20,v21,p2,q2⟩ := pick_ok hl s1 (show (0 : Int) ≤ a1 by omega) (by omega) 3
 obtain ⟨v3,a3,s3,e3,v30,v31,p3,q3⟩ := pick_ok hl s2 (show (0 : Int) ≤ a2 by omega) (by omega) 3
 obtain ⟨v4,a4,s4,e4,v40,v41,p4,q4⟩ := pick_ok hl s3 (show (0 : Int) ≤ a3 by omega) (by omega) 8
 obtain ⟨x,ex,dx⟩ := chal_l0 hl (r := 1 + v1) (c := 1 + v2) (by omega) (by omega) (by omega) (by omega) (all := [⟨1,0⟩,⟨2,0⟩,⟨3,0⟩,⟨3,1⟩,⟨4,0⟩,⟨5,0⟩,⟨6,0⟩,⟨7,0⟩]) (by decide) (by decide) (1 + v3).toNat v4 a4 s4 [] (by omega) (by omega) (by omega) (by omega) (by simp; omega) (by simp; omega) (by simp)
 refine ⟨x,?_,by unfold drawIn at dx ⊢; omega⟩
 unfold spec_l1Cur_challenge.f
 refine Ev.bind (Ev.val e1) (Ev.bind (Ev.val e2) (Ev.bind (Ev.now _) (Ev.bind (Ev.val e3) (Ev.bind (Ev.val e4) ?_))))
 dsimp only
 rw [w64 (x := 1 + v1) (by omega) (by omega),w64 (x := 1 + v2) (by omega) (by omega),w64 (x := 1 + v3) (by omega) (by omega)]
 rw [show ((([] : List S42).length : Nat) : Int) + ((1 + v3).toNat : Int) = 1 + v3 by simp; omega] at ex
 exact ex
/-! drawn challenges,mostly valid ones: all lists are short -/
def anyIn (x : Int × Int × List S42 × List Int × List Int × Int × Int) : Prop := x.2.2.1.length ≤ 16 ∧ x.2.2.2.1.length ≤ 16 ∧ x.2.2.2.2.1.length ≤ 17 ∧ 0 ≤ x.2.2.2.2.2.1 ∧ x.2.2.2.2.2.1 ≤ 100
theorem anych_l0 (n : Int) (hn : n ≤ 9) (l : List Int) (a s r c : Int) (a0 : 0 ≤ a) (a1 : a ≤ 100) (p : List S42) (hp : p.length ≤ 16) : ∀ (m : Nat) (e ns : List Int),(e.length : Int) + m = max n e.length → e.length ≤ 9 → ns.length ≤ 8 + e.length → ∃ x,Ev (fun k => spec_l1Cur_anyChallenge.l0 k n l a s r c p e ns) x ∧ anyIn x := by
 intro m
 induction m with
 | zero =>
  intro e ns h1 h2 h3
  refine ⟨(r,c,p,e,ns,a,s),Ev.succ ?_,hp,by dsimp only; omega,by dsimp only; omega,a0,a1⟩
  simp only [spec_l1Cur_anyChallenge.l0]
  exact Ev.neg (by omega) (Ev.now _)
 | succ m ih =>
  intro e ns h1 h2 h3
  obtain ⟨x,ex,dx⟩ := ih (e ++ [0]) (ns ++ [0]) (by simp; omega) (by simp; omega) (by simp; omega)
  refine ⟨x,Ev.succ ?_,dx⟩
  simp only [spec_l1Cur_anyChallenge.l0]
  exact Ev.pos (by omega) (Ev.pos (by omega) (Ev.pos (by omega) ex))
def allC : List S42 := [⟨0,0⟩,⟨1,0⟩,⟨2,0⟩,⟨3,0⟩,⟨3,1⟩,⟨4,0⟩,⟨5,0⟩,⟨6,0⟩,⟨6,1⟩,⟨7,0⟩]
theorem paAll_ev : Ev (fun k => spec_paAll.f k) allC := by
 refine ⟨12,fun k hk => ?_⟩
 obtain ⟨k,rfl⟩ : ∃ j,k = j + 9 := ⟨k - 9,by omega⟩
 simp [spec_paAll.f,spec_paAll.l0,spec_paTurning.f,wrap64,allC]
theorem anych_l1 (n : Int) (hn : n ≤ 7) (l : List Int) (a s r c : Int) (a0 : 0 ≤ a) (a1 : a ≤ 100) (e ns : List Int) (he : e.length ≤ 16) (hns : ns.length ≤ 16) : ∀ (m : Nat) (p : List S42),(p.length : Int) + m = max n p.length → p.length ≤ 7 → ∃ x,Ev (fun k => spec_l1Cur_anyChallenge.l1 k n l a s r c p e ns) x ∧ anyIn x := by
 intro m
 induction m with
 | zero =>
  intro p h1 h2
  refine ⟨(r,c,p,e,ns,a,s),Ev.succ ?_,by dsimp only; omega,by dsimp only; omega,by dsimp only; omega,a0,a1⟩
  simp only [spec_l1Cur_anyChallenge.l1]
  exact Ev.neg (by omega) (Ev.now _)
 | succ m ih =>
  intro p h1 h2
  obtain ⟨x,ex,dx⟩ := ih (p ++ [⟨(rd_T42 allC (1 + (p.length : Int))).f0,(rd_T42 allC (1 + (p.length : Int))).f1⟩]) (by simp; omega) (by simp; omega)
  refine ⟨x,Ev.succ ?_,dx⟩
  simp only [spec_l1Cur_anyChallenge.l1]
  rw [w64 (x := 1 + (p.length : Int)) (by omega) (by omega)]
  have hl : allC.length = 10 := rfl
  exact Ev.pos (by omega) (Ev.bind paAll_ev (Ev.pos (by omega) (Ev.pos (by omega) (Ev.pos (by omega) ex))))
theorem any_ok {l : List Int} (hl : ∀ y ∈ l,0 ≤ y ∧ y ≤ 255) : ∃ x,Ev (fun k => spec_l1Cur_anyChallenge.f k l 0 0) x ∧ anyIn x := by
 obtain ⟨⟨r,c,p,e,ns,a,s⟩,ex,d1,d2,d3,d4,d5,d6,d7,d8,d9,d10,d11⟩ := challenge_ok hl
 dsimp only at d1 d2 d3 d4 d5 d6 d7 d8 d9 d10 d11
 obtain ⟨v,a1,s1,e1,v0,v1,p1,q1⟩ := pick_ok hl s (show (0 : Int) ≤ a by omega) (by omega) 36
 have amg : ∀ q : List Int,0 < q.length → ∃ v a' s',spec_l1Cur_among.f l a1 s1 q = some (v,a',s') ∧ a1 ≤ a' ∧ a' ≤ a1 + 2 ∧ v ∈ q := fun q hq => among_ok hl s1 (by omega) (by omega) q hq
 have pk : ∃ v a' s',spec_l1Cur_pick.f l a1 s1 2 = some (v,a',s') ∧ 0 ≤ v ∧ (v < 2 ∨ (2 : Int) ≤ 1 ∧ v = 0) ∧ a1 ≤ a' ∧ a' ≤ a1 + 2 := pick_ok hl s1 (by omega) (by omega) 2
 unfold spec_l1Cur_anyChallenge.f
 refine Exists.imp (fun x (h : Ev _ x ∧ anyIn x) => ⟨Ev.bind ex (Ev.bind (Ev.val e1) h.1),h.2⟩) ?_
 dsimp only
 by_cases c0 : v = 0
 ·obtain ⟨w,a2,s2,e2,_,_,_⟩ := amg [0,4,5] (by decide)
  exact ⟨_,Ev.pos c0 (Ev.bind (Ev.val e2) (Ev.now _)),by simp only [anyIn]; omega⟩
 by_cases c1 : v = 1
 ·obtain ⟨w,a2,s2,e2,_,_,_⟩ := amg [0,4,5] (by decide)
  exact ⟨_,Ev.neg c0 (Ev.pos c1 (Ev.bind (Ev.val e2) (Ev.now _))),by simp only [anyIn]; omega⟩
 by_cases c2 : v = 2
 ·exact ⟨_,Ev.neg c0 (Ev.neg c1 (Ev.pos c2 (Ev.pos (by omega) (Ev.pos (by omega) (Ev.now _))))),by simp only [anyIn,List.length_append,List.length_cons,List.length_nil]; omega⟩
 by_cases c3 : v = 3
 ·exact ⟨_,Ev.neg c0 (Ev.neg c1 (Ev.neg c2 (Ev.pos c3 (Ev.pos (by omega) (Ev.now _))))),by simp only [anyIn,List.length_append,List.length_cons,List.length_nil]; omega⟩
 by_cases c4 : v = 4
 ·exact ⟨_,Ev.neg c0 (Ev.neg c1 (Ev.neg c2 (Ev.neg c3 (Ev.pos c4 (Ev.now _))))),by simp only [anyIn,List.length_nil]; omega⟩
 by_cases c5 : v = 5
 ·obtain ⟨w,a2,s2,e2,_,_,_⟩ := amg [-1,c] (by simp)
  exact ⟨_,Ev.neg c0 (Ev.neg c1 (Ev.neg c2 (Ev.neg c3 (Ev.neg c4 (Ev.pos c5 (Ev.bind (Ev.val e2) (Ev.pos (by omega) (Ev.now _)))))))),by simp only [anyIn,List.length_set]; omega⟩
 by_cases c6 : v = 6
 ·obtain ⟨w,a2,s2,e2,_,_,_⟩ := amg [-1,wrap64 (c + 2)] (by simp)
  exact ⟨_,Ev.neg c0 (Ev.neg c1 (Ev.neg c2 (Ev.neg c3 (Ev.neg c4 (Ev.neg c5 (Ev.pos c6 (Ev.bind (Ev.val e2) (Ev.pos (by omega) (Ev.now _))))))))),by simp only [anyIn,List.length_set]; omega⟩
 by_cases c7 : v = 7
 ·obtain ⟨w,a2,s2,e2,w0,w1,_,_⟩ := pk
  obtain ⟨x,hx,ax⟩ := anych_l0 (8 + w) (by omega) l a2 s2 r c (by omega) (by omega) p (by omega) (max (8 + w) e.length - e.length).toNat e ns (by omega) (by omega) (by omega)
  refine ⟨x,Ev.neg c0 (Ev.neg c1 (Ev.neg c2 (Ev.neg c3 (Ev.neg c4 (Ev.neg c5 (Ev.neg c6 (Ev.pos c7 (Ev.bind (Ev.val e2) ?_)))))))),ax⟩
  dsimp only
  rw [w64 (by omega) (by omega)]; exact hx
 by_cases c8 : v = 8
 ·obtain ⟨w,a2,s2,e2,w0,w1,_,_⟩ := pk
  obtain ⟨x,hx,ax⟩ := anych_l1 (6 + w) (by omega) l a2 s2 1 1 (by omega) (by omega) [0] [0] (by decide) (by decide) (6 + w).toNat [] (by simp only [List.length_nil]; omega) (by decide)
  refine ⟨x,Ev.neg c0 (Ev.neg c1 (Ev.neg c2 (Ev.neg c3 (Ev.neg c4 (Ev.neg c5 (Ev.neg c6 (Ev.neg c7 (Ev.pos c8 (Ev.bind (Ev.val e2) ?_))))))))),ax⟩
  dsimp only
  rw [w64 (by omega) (by omega)]; exact hx
 by_cases c9 : v = 9
 ·obtain ⟨w,a2,s2,e2,_,_⟩ := one_ok hl s1 (show (0 : Int) ≤ a1 by omega) (by omega) 2
  cases w with
  | true => exact ⟨_,Ev.neg c0 (Ev.neg c1 (Ev.neg c2 (Ev.neg c3 (Ev.neg c4 (Ev.neg c5 (Ev.neg c6 (Ev.neg c7 (Ev.neg c8 (Ev.pos c9 (Ev.bind (Ev.now _) (Ev.bind (Ev.now _) (Ev.bind (Ev.now _) (Ev.bind (Ev.val e2) (Ev.pos rfl (Ev.pos (by decide) (Ev.now _)))))))))))))))),by simp only [anyIn,List.length_append,List.length_cons,List.length_nil]; omega⟩
  | false => exact ⟨_,Ev.neg c0 (Ev.neg c1 (Ev.neg c2 (Ev.neg c3 (Ev.neg c4 (Ev.neg c5 (Ev.neg c6 (Ev.neg c7 (Ev.neg c8 (Ev.pos c9 (Ev.bind (Ev.now _) (Ev.bind (Ev.now _) (Ev.bind (Ev.now _) (Ev.bind (Ev.val e2) (Ev.neg (by simp) (Ev.now _))))))))))))))),by simp only [anyIn,List.length_cons,List.length_nil]; omega⟩
 exact ⟨_,Ev.neg c0 (Ev.neg c1 (Ev.neg c2 (Ev.neg c3 (Ev.neg c4 (Ev.neg c5 (Ev.neg c6 (Ev.neg c7 (Ev.neg c8 (Ev.neg c9 (Ev.now _)))))))))),by simp only [anyIn]; omega⟩
theorem drawIs_ok {l : List Int} (hl : ∀ y ∈ l,(Lit.int .u8 y).wf = true) : ∃ r c p e ns,Ev (fun k => spec_DrawIsChallenge.f k l) (r,c,p,e,ns) ∧ p.length ≤ 16 ∧ e.length ≤ 16 ∧ ns.length ≤ 17 := by
 obtain ⟨⟨r,c,p,e,ns,a,s⟩,hx,h1,h2,h3,_⟩ := any_ok (u8_wf hl)
 exact ⟨r,c,p,e,ns,Ev.bind hx (Ev.now _),h1,h2,h3⟩
theorem cell_ok {l : List Int} (hl : ∀ y ∈ l,0 ≤ y ∧ y ≤ 255) {a : Int} (s : Int) (h0 : 0 ≤ a) (h1 : a ≤ 900000) : ∃ x y a' s',Ev (fun k => spec_l1Cur_cell.f k l a s) (x,y,a',s') ∧ a ≤ a' ∧ a' ≤ a + 2 := by
 obtain ⟨v,a',s',e,v0,v1,h2,h3⟩ := pick_ok hl s h0 h1 (allC.length : Int)
 have hc : allC.length = 10 := rfl
 exact ⟨_,_,a',s',Ev.bind paAll_ev (Ev.bind (Ev.val e) (Ev.pos v0 (Ev.pos (by omega) (Ev.now _)))),h2,h3⟩
theorem anyCell_ok {l : List Int} (hl : ∀ y ∈ l,0 ≤ y ∧ y ≤ 255) {a : Int} (s : Int) (h0 : 0 ≤ a) (h1 : a ≤ 800000) : ∃ x y a' s',Ev (fun k => spec_l1Cur_anyCell.f k l a s) (x,y,a',s') ∧ a ≤ a' ∧ a' ≤ a + 6 := by
 obtain ⟨x,y,a1,s1,e1,p1,q1⟩ := cell_ok hl s h0 (by omega)
 obtain ⟨v,a2,s2,e2,v0,v1,p2,q2⟩ := pick_ok hl s1 (show (0 : Int) ≤ a1 by omega) (by omega) 20
 unfold spec_l1Cur_anyCell.f
 by_cases c0 : v = 0
 ·obtain ⟨w,a3,s3,e3,p3,q3,_⟩ := among_ok hl s2 (show (0 : Int) ≤ a2 by omega) (by omega) [-1,8] (by decide)
  exact ⟨_,_,_,_,Ev.bind e1 (Ev.bind (Ev.val e2) (Ev.pos c0 (Ev.bind (Ev.val e3) (Ev.now _)))),by dsimp only; omega,by dsimp only; omega⟩
 by_cases c1 : v = 1
 ·obtain ⟨w,a3,s3,e3,p3,q3,_⟩ := among_ok hl s2 (show (0 : Int) ≤ a2 by omega) (by omega) [-1,1,2] (by decide)
  exact ⟨_,_,_,_,Ev.bind e1 (Ev.bind (Ev.val e2) (Ev.neg c0 (Ev.pos c1 (Ev.bind (Ev.val e3) (Ev.now _))))),by dsimp only; omega,by dsimp only; omega⟩
 exact ⟨_,_,_,_,Ev.bind e1 (Ev.bind (Ev.val e2) (Ev.neg c0 (Ev.neg c1 (Ev.now _)))),by dsimp only; omega,by dsimp only; omega⟩
theorem boardOf_l0 {l : List Int} (hl : ∀ y ∈ l,0 ≤ y ∧ y ≤ 255) {r c : Int} (h1 : 1 ≤ r * c) (h9 : r * c ≤ 90) (t : Int) : ∀ (m : Nat) (a s : Int) (cs : List S42),(cs.length : Int) + m = r * c → 0 ≤ a → a + 10 * m ≤ 5000 → ∃ cs' a' s',Ev (fun k => spec_l1Cur_boardOf.l0 k r c t l a s r c cs) (r,c,cs',a',s') ∧ (cs'.length : Int) = r * c ∧ a ≤ a' ∧ a' ≤ a + 10 * m := by
 intro m
 induction m with
 | zero =>
  intro a s cs hm h0 h5
  refine ⟨cs,a,s,Ev.succ ?_,by omega,by omega,by omega⟩
  simp only [spec_l1Cur_boardOf.l0]
  rw [w64 (x := r * c) (by omega) (by omega)]
  exact Ev.neg (by omega) (Ev.now _)
 | succ m ih =>
  intro a s cs hm h0 h5
  have hlen : cs.length < 8796093022208 := by omega
  have step : ∀ (a1 s1 : Int) (z : S42),a ≤ a1 → a1 ≤ a + 10 → ∃ cs' a' s',Ev (fun k => spec_l1Cur_boardOf.l0 k r c t l a1 s1 r c (cs ++ [z])) (r,c,cs',a',s') ∧ (cs'.length : Int) = r * c ∧ a ≤ a' ∧ a' ≤ a + 10 * ((m + 1 : Nat) : Int) := by
   intro a1 s1 z p q
   obtain ⟨cs',a',s',e,e1,e2,e3⟩ := ih a1 s1 (cs ++ [z]) (by simp; omega) (by omega) (by omega)
   exact ⟨cs',a',s',e,e1,by omega,by omega⟩
  have j2 : ∀ (a1 s1 x y : Int),a ≤ a1 → a1 ≤ a + 6 → ∃ cs' a' s',Ev (fun k => spec_l1Cur_boardOf.j2 k r c t l a1 s1 r c cs x y) (r,c,cs',a',s') ∧ (cs'.length : Int) = r * c ∧ a ≤ a' ∧ a' ≤ a + 10 * ((m + 1 : Nat) : Int) := by
   intro a1 s1 x y p q
   by_cases c5 : x = 5
   ·obtain ⟨v,a2,s2,e2,p2,q2⟩ := one_ok hl s1 (show (0 : Int) ≤ a1 by omega) (by omega) 3
    cases v with
    | true =>
     obtain ⟨cs',a',s',e,g⟩ := step a2 s2 ⟨x,y⟩ (by omega) (by omega)
     refine ⟨cs',a',s',Ev.succ ?_,g⟩
     simp only [spec_l1Cur_boardOf.j2]
     exact Ev.pos c5 (Ev.bind (Ev.val e2) (Ev.pos rfl (Ev.pos hlen e)))
    | false =>
     obtain ⟨w,a3,s3,e3,_,_,p3,q3⟩ := pick_ok hl s2 (show (0 : Int) ≤ a2 by omega) (by omega) 2
     obtain ⟨cs',a',s',e,g⟩ := step a3 s3 ⟨3,w⟩ (by omega) (by omega)
     refine ⟨cs',a',s',Ev.succ ?_,g⟩
     simp only [spec_l1Cur_boardOf.j2]
     exact Ev.pos c5 (Ev.bind (Ev.val e2) (Ev.neg (by simp) (Ev.bind (Ev.val e3) (Ev.pos hlen e))))
   ·obtain ⟨cs',a',s',e,g⟩ := step a1 s1 ⟨x,y⟩ (by omega) (by omega)
    refine ⟨cs',a',s',Ev.succ ?_,g⟩
    simp only [spec_l1Cur_boardOf.j2]
    exact Ev.neg c5 (Ev.pos hlen e)
  have j1 : ∀ (b : Bool) (a1 s1 : Int),a ≤ a1 → a1 ≤ a + 4 → ∃ cs' a' s',Ev (fun k => spec_l1Cur_boardOf.j1 k r c t b l a1 s1 r c cs 0 0) (r,c,cs',a',s') ∧ (cs'.length : Int) = r * c ∧ a ≤ a' ∧ a' ≤ a + 10 * ((m + 1 : Nat) : Int) := by
   intro b a1 s1 p q
   cases b with
   | true =>
    obtain ⟨x,y,a2,s2,e2,p2,q2⟩ := cell_ok hl s1 (show (0 : Int) ≤ a1 by omega) (by omega)
    obtain ⟨cs',a',s',e,g⟩ := j2 a2 s2 x y (by omega) (by omega)
    refine ⟨cs',a',s',Ev.succ ?_,g⟩
    simp only [spec_l1Cur_boardOf.j1]
    exact Ev.pos (by trivial) (Ev.bind e2 e)
   | false =>
    obtain ⟨cs',a',s',e,g⟩ := j2 a1 s1 0 0 (by omega) (by omega)
    refine ⟨cs',a',s',Ev.succ ?_,g⟩
    simp only [spec_l1Cur_boardOf.j1]
    exact Ev.neg (by simp) e
  obtain ⟨v,a1,s1,e1,p1,q1⟩ := one_ok hl s h0 (by omega) t
  cases v with
  | true =>
   obtain ⟨cs',a',s',e,g⟩ := j1 true a1 s1 (by omega) (by omega)
   refine ⟨cs',a',s',Ev.succ ?_,g⟩
   simp only [spec_l1Cur_boardOf.l0]
   rw [w64 (x := r * c) (by omega) (by omega)]
   exact Ev.pos (by omega) (Ev.bind (Ev.val e1) (Ev.pos rfl e))
  | false =>
   obtain ⟨v2,a2,s2,e2,p2,q2⟩ := one_ok hl s1 (show (0 : Int) ≤ a1 by omega) (by omega) 3
   obtain ⟨cs',a',s',e,g⟩ := j1 v2 a2 s2 (by omega) (by omega)
   refine ⟨cs',a',s',Ev.succ ?_,g⟩
   simp only [spec_l1Cur_boardOf.l0]
   rw [w64 (x := r * c) (by omega) (by omega)]
   exact Ev.pos (by omega) (Ev.bind (Ev.val e1) (Ev.neg (by simp) (Ev.bind (Ev.val e2) e)))
theorem boardOf_ok {l : List Int} (hl : ∀ y ∈ l,0 ≤ y ∧ y ≤ 255) {r c : Int} (h1 : 1 ≤ r * c) (h9 : r * c ≤ 90) {a : Int} (s : Int) (h0 : 0 ≤ a) (h5 : a ≤ 1000) : ∃ cs' a' s',Ev (fun k => spec_l1Cur_boardOf.f k l a s r c) (r,c,cs',a',s') ∧ (cs'.length : Int) = r * c ∧ a ≤ a' ∧ a' ≤ a + 1000 := by
 obtain ⟨t,a1,s1,e1,p1,q1,_⟩ := among_ok hl s h0 (by omega) [1,2,2] (by decide)
 obtain ⟨cs',a',s',e,g1,g2,g3⟩ := boardOf_l0 hl h1 h9 t (r * c).toNat a1 s1 [] (by simp; omega) (by omega) (by omega)
 exact ⟨cs',a',s',Ev.bind (Ev.val e1) e,g1,by omega,by omega⟩
theorem board_ok {l : List Int} (hl : ∀ y ∈ l,0 ≤ y ∧ y ≤ 255) {a : Int} (s : Int) (h0 : 0 ≤ a) (h5 : a ≤ 900) : ∃ r c cs' a' s',Ev (fun k => spec_l1Cur_board.f k l a s) (r,c,cs',a',s') ∧ 1 ≤ cs'.length ∧ cs'.length ≤ 90 ∧ a ≤ a' ∧ a' ≤ a + 1010 := by
 obtain ⟨v,a1,s1,e1,p1,q1⟩ := one_ok hl s h0 (by omega) 20
 unfold spec_l1Cur_board.f
 cases v with
 | true =>
  obtain ⟨r,a2,s2,e2,p2,q2,m2⟩ := among_ok hl s1 (show (0 : Int) ≤ a1 by omega) (by omega) [1,10] (by decide)
  obtain ⟨c,a3,s3,e3,p3,q3,m3⟩ := among_ok hl s2 (show (0 : Int) ≤ a2 by omega) (by omega) [1,9] (by decide)
  have hrc : 1 ≤ r * c ∧ r * c ≤ 90 := by
   simp only [List.mem_cons,List.not_mem_nil,or_false] at m2 m3
   rcases m2 with rfl | rfl <;> rcases m3 with rfl | rfl <;> decide
  obtain ⟨cs',a',s',e,g1,g2,g3⟩ := boardOf_ok hl hrc.1 hrc.2 s3 (show (0 : Int) ≤ a3 by omega) (by omega)
  exact ⟨r,c,cs',a',s',Ev.bind (Ev.val e1) (Ev.pos rfl (Ev.bind (Ev.val e2) (Ev.bind (Ev.val e3) (Ev.bind e (Ev.now _))))),by omega,by omega,by omega,by omega⟩
 | false =>
  obtain ⟨r,a2,s2,e2,r0,r1,p2,q2⟩ := pick_ok hl s1 (show (0 : Int) ≤ a1 by omega) (by omega) 5
  obtain ⟨c,a3,s3,e3,c0,c1,p3,q3⟩ := pick_ok hl s2 (show (0 : Int) ≤ a2 by omega) (by omega) 5
  have b := mulb (show 0 ≤ 1 + r by omega) (show 1 + r ≤ 5 by omega) (show 0 ≤ 1 + c by omega) (show 1 + c ≤ 5 by omega)
  have b2 : 1 * 1 ≤ (1 + r) * (1 + c) := Int.mul_le_mul (by omega) (by omega) (by omega) (by omega)
  obtain ⟨cs',a',s',e,g1,g2,g3⟩ := boardOf_ok hl (r := 1 + r) (c := 1 + c) (by omega) (by omega) s3 (show (0 : Int) ≤ a3 by omega) (by omega)
  refine ⟨1 + r,1 + c,cs',a',s',Ev.bind (Ev.val e1) (Ev.neg (by simp) (Ev.bind (Ev.val e2) (Ev.bind (Ev.val e3) ?_))),by omega,by omega,by omega,by omega⟩
  dsimp only
  rw [w64 (x := 1 + r) (by omega) (by omega),w64 (x := 1 + c) (by omega) (by omega)]
  exact Ev.bind e (Ev.now _)
theorem anyBoard_ok {l : List Int} (hl : ∀ y ∈ l,0 ≤ y ∧ y ≤ 255) {a : Int} (s : Int) (h0 : 0 ≤ a) (h5 : a ≤ 900) : ∃ r c cs' a' s',Ev (fun k => spec_l1Cur_anyBoard.f k l a s) (r,c,cs',a',s') ∧ cs'.length ≤ 90 ∧ a ≤ a' ∧ a' ≤ a + 1100 := by
 obtain ⟨r,c,cs,a1,s1,e1,n1,n2,p1,q1⟩ := board_ok hl s h0 h5
 obtain ⟨v,a2,s2,e2,v0,v1,p2,q2⟩ := pick_ok hl s1 (show (0 : Int) ≤ a1 by omega) (by omega) 36
 unfold spec_l1Cur_anyBoard.f
 have amg : ∀ q : List Int,0 < q.length → ∃ v a' s',spec_l1Cur_among.f l a2 s2 q = some (v,a',s') ∧ a2 ≤ a' ∧ a' ≤ a2 + 2 ∧ v ∈ q := fun q hq => among_ok hl s2 (by omega) (by omega) q hq
 by_cases c0 : v = 0
 ·obtain ⟨w,a3,s3,e3,p3,q3,_⟩ := amg [0,wrap64 (r + 1),10,11] (by simp)
  exact ⟨_,_,_,_,_,Ev.bind e1 (Ev.bind (Ev.val e2) (Ev.pos c0 (Ev.bind (Ev.val e3) (Ev.now _)))),by dsimp only; omega,by dsimp only; omega,by dsimp only; omega⟩
 by_cases c1 : v = 1
 ·obtain ⟨w,a3,s3,e3,p3,q3,_⟩ := amg [0,wrap64 (c + 1),9,10] (by simp)
  exact ⟨_,_,_,_,_,Ev.bind e1 (Ev.bind (Ev.val e2) (Ev.neg c0 (Ev.pos c1 (Ev.bind (Ev.val e3) (Ev.now _))))),by dsimp only; omega,by dsimp only; omega,by dsimp only; omega⟩
 by_cases c2 : v = 2
 ·obtain ⟨w,a3,s3,e3,w0,w1,p3,q3⟩ := pick_ok hl s2 (show (0 : Int) ≤ a2 by omega) (by omega) (cs.length : Int)
  obtain ⟨x,y,a4,s4,e4,p4,q4⟩ := anyCell_ok hl s3 (show (0 : Int) ≤ a3 by omega) (by omega)
  exact ⟨_,_,_,_,_,Ev.bind e1 (Ev.bind (Ev.val e2) (Ev.neg c0 (Ev.neg c1 (Ev.pos c2 (Ev.bind (Ev.val e3) (Ev.bind e4 (Ev.pos w0 (Ev.pos (by dsimp only; omega) (Ev.now _))))))))),by simp only [List.length_set]; omega,by dsimp only; omega,by dsimp only; omega⟩
 by_cases c3 : v = 3
 ·exact ⟨_,_,_,_,_,Ev.bind e1 (Ev.bind (Ev.val e2) (Ev.neg c0 (Ev.neg c1 (Ev.neg c2 (Ev.pos c3 (Ev.pos (by dsimp only; omega) (Ev.now _))))))),by simp only [List.length_drop]; omega,by dsimp only; omega,by dsimp only; omega⟩
 by_cases c4 : v = 4
 ·exact ⟨_,_,_,_,_,Ev.bind e1 (Ev.bind (Ev.val e2) (Ev.neg c0 (Ev.neg c1 (Ev.neg c2 (Ev.neg c3 (Ev.pos c4 (Ev.pos (by omega) (Ev.now _)))))))),by simp,by dsimp only; omega,by dsimp only; omega⟩
 by_cases c5 : v = 5
 ·exact ⟨_,_,_,_,_,Ev.bind e1 (Ev.bind (Ev.val e2) (Ev.neg c0 (Ev.neg c1 (Ev.neg c2 (Ev.neg c3 (Ev.neg c4 (Ev.pos c5 (Ev.pos (by omega) (Ev.now _))))))))),by simp,by dsimp only; omega,by dsimp only; omega⟩
 exact ⟨_,_,_,_,_,Ev.bind e1 (Ev.bind (Ev.val e2) (Ev.neg c0 (Ev.neg c1 (Ev.neg c2 (Ev.neg c3 (Ev.neg c4 (Ev.neg c5 (Ev.now _)))))))),by dsimp only; omega,by dsimp only; omega,by dsimp only; omega⟩
theorem columnOf_ok {l : List Int} (hl : ∀ y ∈ l,0 ≤ y ∧ y ≤ 255) {a : Int} (s : Int) (h0 : 0 ≤ a) (h5 : a ≤ 9000) (r c : Int) (cs : List S42) : ∃ v a' s',spec_l1Cur_columnOf.f l a s r c cs = some (v,a',s') ∧ a ≤ a' ∧ a' ≤ a + 6 := by
 obtain ⟨m,em⟩ : ∃ m,spec_l1Most.f 1 c = some m := by unfold spec_l1Most.f; split <;> exact ⟨_,rfl⟩
 obtain ⟨v,a1,s1,e1,_,_,p1,q1⟩ := pick_ok hl s h0 (by omega) 16
 obtain ⟨w,a2,s2,e2,_,_,p2,q2⟩ := pick_ok hl s1 (show (0 : Int) ≤ a1 by omega) (by omega) (wrap64 (m + (wrap64 (Int.tdiv v 15))))
 obtain ⟨x,a3,s3,e3,_,_,p3,q3⟩ := pick_ok hl s2 (show (0 : Int) ≤ a2 by omega) (by omega) 24
 unfold spec_l1Cur_columnOf.f
 rw [em,Option.bind_some,e1,Option.bind_some]
 dsimp only
 rw [e2,Option.bind_some]
 dsimp only
 rw [e3,Option.bind_some]
 exact ⟨_,_,_,rfl,by dsimp only; omega,by dsimp only; omega⟩
theorem drawEnd_ok {l : List Int} (hl : ∀ y ∈ l,(Lit.int .u8 y).wf = true) : ∃ R C cs col,Ev (fun k => spec_DrawEndNumber.f k l) (R,C,cs,col) ∧ cs.length ≤ 90 := by
 obtain ⟨R,C,cs,a,s,e,n,p,q⟩ := anyBoard_ok (u8_wf hl) 0 (show (0 : Int) ≤ 0 by omega) (by omega)
 obtain ⟨v,a',s',e2,_,_⟩ := columnOf_ok (u8_wf hl) s (show (0 : Int) ≤ a by omega) (by omega) R C cs
 exact ⟨R,C,cs,v,Ev.bind e (Ev.bind (Ev.val e2) (Ev.now _)),n⟩
theorem drawMeets_ok {l : List Int} (hl : ∀ y ∈ l,(Lit.int .u8 y).wf = true) : ∃ r c p e ns R C cs,Ev (fun k => spec_DrawMeetsChallenge.f k l) (r,c,p,e,ns,R,C,cs) ∧ p.length ≤ 16 ∧ e.length ≤ 16 ∧ ns.length ≤ 17 ∧ cs.length ≤ 90 := by
 have hb := u8_wf hl
 obtain ⟨⟨r,c,p,e,ns,a,s⟩,hx,h1,h2,h3,h4,h5⟩ := any_ok hb
 dsimp only at h1 h2 h3 h4 h5
 have any : ∀ a1 s1 : Int,0 ≤ a1 → a1 ≤ 900 → ∃ R C cs,Ev (fun k => spec_DrawMeetsChallenge.j0 k true l a1 s1 r c p e ns) (r,c,p,e,ns,R,C,cs) ∧ cs.length ≤ 90 := by
  intro a1 s1 i0 i1
  obtain ⟨R,C,cs,a2,s2,e2,n,_,_⟩ := anyBoard_ok hb s1 i0 i1
  refine ⟨R,C,cs,Ev.succ ?_,n⟩
  simp only [spec_DrawMeetsChallenge.j0]
  exact Ev.pos (by trivial) (Ev.bind e2 (Ev.now _))
 by_cases g : chGood r c p e ns = true
 case neg =>
  obtain ⟨R,C,cs,e2,n⟩ := any a s h4 (by omega)
  exact ⟨r,c,p,e,ns,R,C,cs,Ev.bind hx (Ev.bind (syGood_ev r c p e ns (by omega) (by omega) (by omega)) (Ev.neg g e2)),h1,h2,h3,n⟩
 obtain ⟨v,a1,s1,e1,p1,q1⟩ := one_ok hb s h4 (by omega) 8
 cases v with
 | true =>
  obtain ⟨R,C,cs,e2,n⟩ := any a1 s1 (by omega) (by omega)
  exact ⟨r,c,p,e,ns,R,C,cs,Ev.bind hx (Ev.bind (syGood_ev r c p e ns (by omega) (by omega) (by omega)) (Ev.pos g (Ev.bind (Ev.val e1) e2))),h1,h2,h3,n⟩
 | false =>
  obtain ⟨w,a2,s2,e2,w0,w1,p2,q2⟩ := pick_ok hb s1 (show (0 : Int) ≤ a1 by omega) (by omega) (tried r c p.length)
  have ht := (chGood_dims g).2.2.2.2.2.1
  have gb := (bdOf_good g w).len90
  refine ⟨r,c,p,e,ns,r,c,bdOf r c p w,Ev.bind hx (Ev.bind (syGood_ev r c p e ns (by omega) (by omega) (by omega)) (Ev.pos g (Ev.bind (Ev.val e1) (Ev.succ ?_)))),h1,h2,h3,by omega⟩
  simp only [spec_DrawMeetsChallenge.j0]
  exact Ev.neg (by simp) (Ev.bind (syTriedG_ev g) (Ev.bind (Ev.val e2) (Ev.bind (syBoard_ev g w0 (by omega)) (Ev.now _))))
theorem psame_ev (r c : Int) (cs : List S42) (h : cs.length ≤ 1048576) : Ev (fun k => laws_pSameBoard.f k r c cs r c cs) true := by
 have key : ∀ (m i : Nat),i + m = cs.length → Ev (fun k => laws_pSameBoard.l0 k (cs.length : Int) i r c cs r c cs) true := by
  intro m
  induction m with
  | zero =>
   intro i hi
   refine Ev.succ ?_
   simp only [laws_pSameBoard.l0]
   exact Ev.neg (by omega) (Ev.now _)
  | succ m ih =>
   intro i hi
   refine Ev.succ ?_
   simp only [laws_pSameBoard.l0]
   rw [w64 (x := (i : Int) + 1) (by omega) (by omega)]
   exact Ev.pos (by omega) (Ev.pos (by omega) (Ev.pos (by omega) (Ev.pos (by omega) (Ev.neg (by simp) (ih (i + 1) (by omega))))))
 unfold laws_pSameBoard.f
 refine Ev.pos rfl (Ev.pos rfl (Ev.succ ?_))
 simp only [laws_pSameBoard.j0]
 exact Ev.neg (by simp) (key cs.length 0 (by omega))
theorem sameInts_ev (l : List Int) (h : l.length ≤ 1048576) : Ev (fun k => laws_sameInts.f k l l) true := by
 have key : ∀ (m i : Nat),i + m = l.length → Ev (fun k => laws_sameInts.l0 k l l (l.length : Int) i) true := by
  intro m
  induction m with
  | zero =>
   intro i hi
   refine Ev.succ ?_
   simp only [laws_sameInts.l0]
   exact Ev.neg (by omega) (Ev.now _)
  | succ m ih =>
   intro i hi
   refine Ev.succ ?_
   simp only [laws_sameInts.l0]
   rw [w64 (x := (i : Int) + 1) (by omega) (by omega)]
   exact Ev.pos (by omega) (Ev.pos (by omega) (Ev.pos (by omega) (Ev.pos (by omega) (Ev.pos trivial (ih (i + 1) (by omega))))))
 unfold laws_sameInts.f
 exact Ev.pos rfl (key l.length 0 (by omega))
theorem countK_go (cs : List S42) : ∀ (l pre : List S42) (q : List Int),(∀ x ∈ l,goodCell x = true) → q.length = 8 → pre.length + l.length ≤ 1000 → (∀ x ∈ q,0 ≤ x ∧ x ≤ (pre.length : Int)) → Ev (fun k => impl_CountKinds.l0 k q (pre ++ l) ((pre ++ l).length : Int) (pre.length : Int)) (bpGo q l,true) := by
 intro l
 induction l with
 | nil =>
  intro pre q _ h8 _ _
  refine Ev.succ ?_
  simp only [impl_CountKinds.l0]
  exact Ev.neg (by simp) (Ev.now _)
 | cons x l ih =>
  intro pre q hg h8 hl hq
  have hx := hg x (by simp)
  have hx2 : 0 ≤ x.f0 ∧ x.f0 ≤ 7 := by
   unfold goodCell at hx
   simp only [Bool.and_eq_true] at hx
   exact inR_iff.1 hx.1
  have er : rd_T42 (pre ++ x :: l) (pre.length : Int) = x := by unfold rd_T42; simp
  have hm := hq _ (rd_mem q x.f0 (by omega))
  have hi := ih (pre ++ [x]) (q.set x.f0.toNat (rd q x.f0 + 1)) (fun y hy => hg y (by simp [hy])) (by simpa using h8) (by simp at hl ⊢; omega) (fun y hy => by
   rcases List.mem_or_eq_of_mem_set hy with hy | rfl
   ·have := hq y hy; simp; omega
   ·simp; omega)
  refine Ev.succ ?_
  simp only [impl_CountKinds.l0]
  rw [er,w64 (x := rd q x.f0 + 1) (by omega) (by simp at hl; omega),w64 (x := (pre.length : Int) + 1) (by omega) (by simp at hl; omega),bpGo]
  refine Ev.pos (by simp; omega) (Ev.pos (by omega) (Ev.pos (by simp; omega) (Ev.pos hx2.1 (Ev.pos (by omega) ?_))))
  simp only [List.append_assoc,List.cons_append,List.nil_append] at hi
  exact Ev.cast (Ev.congr (fun k => by simp) hi) rfl
def partsA (cs : List S42) : List Int := bpGo (List.replicate 8 0) cs
theorem implParts_ev {R C : Int} {cs : List S42} (h : GoodB R C cs) : Ev (fun k => impl_CountParts.f k R C cs) (partsA cs,true) := by
 have hl := h.len90
 have v := validCells_ev cs
 have hv : (decide (cs.length ≤ 90) && cs.all goodCell) = true := by
  rw [decide_eq_true hl,Bool.true_and,List.all_eq_true]; exact h.good
 have g := IsBoard_ev R C cs
 rw [h.to] at g
 unfold impl_CountParts.f impl_CountKinds.f
 refine Ev.bind g (Ev.pos rfl (Ev.bind (a := (partsA cs,true)) (Ev.bind v (Ev.pos hv (Ev.pos (by omega) ?_))) (Ev.now _)))
 exact countK_go cs cs [] (List.replicate 8 0) h.good (by simp) (by simp; omega) (fun x hx => by rw [List.eq_of_mem_replicate hx]; simp)
theorem specParts_ev {R C : Int} {cs : List S42} (h : GoodB R C cs) : Ev (fun k => spec_CountParts.f k R C cs) (partsA cs,true) := by
 have hl := h.len90
 have b := boParts_go R C cs [] (List.replicate 8 0) h.good (by simp) (by simp; omega) (fun x hx => by rw [List.eq_of_mem_replicate hx]; simp)
 have g := boGood_ev R C cs (by omega)
 rw [h.to] at g
 unfold spec_CountParts.f spec_boParts.f
 exact Ev.bind g (Ev.pos rfl (Ev.bind (Ev.pos (by omega) b.1) (Ev.now _)))
theorem partsA_said {R C : Int} {cs : List S42} (h : GoodB R C cs) : (partsA cs).length = 8 ∧ rd (partsA cs) 0 = (cs.length : Int) - nz cs := by
 have hl := h.len90
 have b := boParts_go R C cs [] (List.replicate 8 0) h.good (by simp) (by simp; omega) (fun x hx => by rw [List.eq_of_mem_replicate hx]; simp)
 have hz : rd (List.replicate 8 (0 : Int)) 0 = 0 := by decide
 exact ⟨b.2.1,by have := b.2.2; unfold partsA; omega⟩
theorem psum_ev (l : List Int) (h : l.length ≤ 1000) (hx : ∀ x ∈ l,0 ≤ x ∧ x ≤ 1000000) : Ev (fun k => laws_pSum.f k l) (sumL l) := by
 have key : ∀ (m i : Nat) (s : Int),i + m = l.length → 0 ≤ s → s ≤ 1000000 * (i : Int) → Ev (fun k => laws_pSum.l0 k s l (l.length : Int) i) (s + sumL (l.drop i)) := by
  intro m
  induction m with
  | zero =>
   intro i s hi h0 h1
   refine Ev.succ ?_
   simp only [laws_pSum.l0]
   rw [List.drop_eq_nil_of_le (by omega)]
   exact Ev.neg (by omega) (Ev.ret (by simp [sumL]))
  | succ m ih =>
   intro i s hi h0 h1
   have hm := hx _ (List.getElem_mem (show i < l.length by omega))
   refine Ev.succ ?_
   simp only [laws_pSum.l0]
   rw [rd_at l i (by omega),w64 (x := s + l[i]) (by omega) (by omega),w64 (x := (i : Int) + 1) (by omega) (by omega),List.drop_eq_getElem_cons (by omega),sumL]
   exact Ev.pos (by omega) (Ev.pos (by omega) (Ev.pos (by omega) (Ev.cast (ih (i + 1) (s + l[i]) (by omega) (by omega) (by omega)) (by omega))))
 unfold laws_pSum.f
 exact Ev.cast (key l.length 0 0 (by omega) (by omega) (by omega)) (by simp)
def triedA (r c : Int) (p : List S42) (e ns : List Int) : Int × Bool := if chGood r c p e ns = true then (tried r c p.length,true) else (0,false)
theorem specTried_ev (r c : Int) (p : List S42) (e ns : List Int) (hp : p.length ≤ 1048576) (he : e.length ≤ 1048576) (hn : ns.length ≤ 1048576) : Ev (fun k => spec_BoardsTried.f k r c p e ns) (triedA r c p e ns) := by
 unfold spec_BoardsTried.f triedA
 exact Ev.bind (syGood_ev r c p e ns hp he hn) (Ev.ite (fun g => Ev.bind (syTriedG_ev g) (Ev.now _)) (fun _ => Ev.now _))
theorem implTried_ev (r c : Int) (p : List S42) (e ns : List Int) : Ev (fun k => impl_BoardsTried.f k r c p e ns) (triedA r c p e ns) := by
 unfold impl_BoardsTried.f triedA
 exact Ev.bind (IsChallenge_ev r c p e ns) (Ev.ite (fun g => Ev.bind (boardsTried_ev g) (Ev.now _)) (fun _ => Ev.now _))
def endA (R C : Int) (cs : List S42) (col : Int) : Int × Bool := if validE R C cs col = true then (endNum C (fallR R C cs col).1 (fallR R C cs col).2.2.1,true) else (0,false)
theorem specEnd_ev (R C : Int) (cs : List S42) (col : Int) (h : cs.length ≤ 1048576) : Ev (fun k => spec_EndNumber.f k R C cs col) (endA R C cs col) := by
 unfold spec_EndNumber.f endA
 refine Ev.bind (flHas_ev R C cs col h) (Ev.ite (fun g => ?_) (fun _ => Ev.now _))
 obtain ⟨hb,h0,h1⟩ := validE_of g
 exact Ev.bind (flRun_ev hb h0 h1) (Ev.bind (Ev.val (syEnd_ok (by have := hb.c1; omega) hb.c2 _ _ _ _ _)) (Ev.now _))
theorem implEnd_ev (R C : Int) (cs : List S42) (col : Int) : Ev (fun k => impl_EndNumber.f k R C cs col) (endA R C cs col) := by
 unfold impl_EndNumber.f endA
 refine Ev.bind (validEntry_ev R C cs col) (Ev.ite (fun g => ?_) (fun _ => Ev.now _))
 obtain ⟨hb,h0,h1⟩ := validE_of g
 have hf := FallOf_ev R C cs col
 rw [if_pos g] at hf
 exact Ev.bind hf (Ev.bind (Ev.val (endNumber_ok (by have := hb.c1; omega) hb.c2 _ _ _ _ _)) (Ev.now _))
theorem cntGo_up (r c : Int) (p : List S42) (e ns : List Int) : ∀ (m : Nat) (n : Int),cntGo r c p e ns m n ≤ m := by
 intro m
 induction m with
 | zero => intro n; exact Nat.le_refl _
 | succ m ih =>
  intro n
  rw [cntGo]
  have := ih (n + 1)
  split <;> omega
theorem seaTail {l1 : List Int} (h1 : ∀ y ∈ l1,(Lit.int .u8 y).wf = true) : Ev (fun k => laws_FnSearch.j3 k l1) true := by
 obtain ⟨r,c,p,e,ns,R,C,cs,hd,a1,a2,a3,a4⟩ := drawMeets_ok h1
 obtain ⟨R2,C2,cs2,col,hd2,b1⟩ := drawEnd_ok h1
 refine Ev.succ ?_
 simp only [laws_FnSearch.j3]
 refine Ev.bind hd (Ev.bind (implMeets_ev r c p e ns R C cs) (Ev.bind (specMeets_ev r c p e ns R C cs (by omega) (by omega) (by omega) (by omega)) (Ev.bind hd2 (Ev.bind (implEnd_ev R2 C2 cs2 col) (Ev.bind (specEnd_ev R2 C2 cs2 col (by omega)) ?_)))))
 exact Ev.pos (by simp) (Ev.pos (by simp) (Ev.pos (by simp) (Ev.ret (by simp))))
theorem FnSearch : StmtFnSearch.Stmt := by
 intro l0 l1 h0 _ h1 _
 suffices hK : Ev (fun k => laws_FnSearch.f k l0 l1) true by
  obtain ⟨K,hK⟩ := hK
  exact ⟨K,hK K (Nat.le_refl _)⟩
 unfold laws_FnSearch.f
 obtain ⟨t,ht⟩ : ∃ t,laws_big.f l0 l1 = some t := by unfold laws_big.f; split <;> exact ⟨_,rfl⟩
 refine Ev.bind (Ev.val ht) ?_
 cases t with
 | true => exact Ev.pos rfl (Ev.now _)
 | false =>
 refine Ev.neg (by simp) ?_
 obtain ⟨r,c,p,e,ns,hd,hp,he,hn⟩ := drawIs_ok h0.1
 have hF : Ev (fun k => spec_DrawSolutionsBySize.f k l0) (r,c,p,e,ns) := Ev.bind hd (Ev.now _)
 have b1 : p.length ≤ 1048576 := by omega
 have b2 : e.length ≤ 1048576 := by omega
 have b3 : ns.length ≤ 1048576 := by omega
 have T := seaTail h1.1
 refine Ev.bind hF (Ev.bind (implSizes_ev r c p e ns) (Ev.bind (specSizes_ev r c p e ns b1 b2 b3) (Ev.bind (implCount_ev r c p e ns) (Ev.bind (specCount_ev r c p e ns b1 b2 b3) (Ev.bind (implTried_ev r c p e ns) (Ev.bind (specTried_ev r c p e ns b1 b2 b3) (Ev.bind (implSmall_ev r c p e ns) (Ev.bind (specSmall_ev r c p e ns b1 b2 b3) (Ev.bind (implFew_ev r c p e ns) (Ev.bind (specFew_ev r c p e ns b1 b2 b3) ?_))))))))))
 have sl : (sizesA r c p e ns).1.length ≤ 17 := by
  unfold sizesA
  by_cases g : chGood r c p e ns = true
  ·rw [if_pos g]
   have := (runAll_sum g).2
   have d := chGood_dims g
   have b := rc_bd d.1 d.2.1
   dsimp only; omega
  ·rw [if_neg g]; simp
 have sm : (smallA r c p e ns).2.2.1.length ≤ 1048576 := by
  unfold smallA outS
  by_cases g : chGood r c p e ns = true
  ·rw [if_pos g]
   by_cases y : (runAll r c p e ns).2.2.1 < 0
   ·rw [if_pos y]; simp
   ·rw [if_neg y]
    have := (bdOf_good g (runAll r c p e ns).2.2.1).len90
    dsimp only; omega
  ·rw [if_neg g]; simp
 refine Ev.neg (by simp) (Ev.bind (sameInts_ev _ (by omega)) (Ev.pos rfl (Ev.neg (by simp) (Ev.pos rfl (Ev.neg (by simp) (Ev.pos rfl (Ev.neg (by simp) (Ev.bind (psame_ev _ _ _ sm) (Ev.pos rfl (Ev.neg (by simp) (Ev.pos rfl ?_)))))))))))
 by_cases g : chGood r c p e ns = true
 case neg =>
  have e1 : sizesA r c p e ns = ([],false) := if_neg g
  have e2 : countA r c p e ns = (0,false) := if_neg g
  have e3 : triedA r c p e ns = (0,false) := if_neg g
  have e4 : smallA r c p e ns = (0,0,[],false) := if_neg g
  have e5 : fewA r c p e ns = (0,false) := by unfold fewA; rw [e4]; rfl
  rw [e1,e2,e3,e4,e5]
  refine Ev.neg (by simp) (Ev.neg (by simp) (Ev.neg (by simp) (Ev.bind (IsChallenge_ev r c p e ns) (Ev.neg (by simp [Bool.eq_false_iff.mpr g]) (Ev.neg (by simp) (Ev.succ ?_))))))
  simp only [laws_FnSearch.j0]
  refine Ev.neg (by simp) (Ev.neg (by simp) (Ev.succ ?_))
  simp only [laws_FnSearch.j1]
  exact Ev.neg (by simp) (Ev.neg (by simp) T)
 have d := chGood_dims g
 have rc := rc_bd d.1 d.2.1
 have ht7 := d.2.2.2.2.2.1
 have hp6 := inR_iff.1 d.2.2.1
 have tp : 1 ≤ tried r c p.length := tried_pos (a := (p.length : Int) + 1) (by omega) (r * c).toNat 1 (by omega)
 have su := runAll_sum g
 have sb : ∀ x ∈ (runAll r c p e ns).1,0 ≤ x ∧ x ≤ 1000000 := by
  intro x hx
  have := runC_bd g (tried r c p.length).toNat 0 (List.replicate (r * c + 1).toNat 0,-1,-1,0) (by omega) (by simp; omega) (fun y hy => by rw [List.eq_of_mem_replicate hy]; omega) x hx
  omega
 have e1 : sizesA r c p e ns = ((runAll r c p e ns).1,true) := if_pos g
 have e2 : countA r c p e ns = (((cntOf r c p e ns : Nat) : Int),true) := if_pos g
 have e3 : triedA r c p e ns = (tried r c p.length,true) := if_pos g
 have e4 : smallA r c p e ns = outS r c p (runAll r c p e ns) := if_pos g
 have cu := cntGo_up r c p e ns (tried r c p.length).toNat 0
 have hJ1 : Ev (fun k => laws_FnSearch.j1 k l1 (runAll r c p e ns).1 (smallA r c p e ns).2.2.2 (fewA r c p e ns).1 false r c p e ns (smallA r c p e ns).1 (smallA r c p e ns).2.1 (smallA r c p e ns).2.2.1 (smallA r c p e ns).1 (smallA r c p e ns).2.1 (smallA r c p e ns).2.2.1) true := by
  refine Ev.succ ?_
  simp only [laws_FnSearch.j1]
  refine Ev.neg (by simp) ?_
  rcases runAll_small_cnt g with ⟨z1,z2⟩ | ⟨z1,z2⟩
  ·have e5 : smallA r c p e ns = (0,0,[],false) := by rw [e4]; unfold outS; rw [if_pos z2]
   rw [e5]
   exact Ev.neg (by simp) T
  have e5 : smallA r c p e ns = (r,c,bdOf r c p (runAll r c p e ns).2.2.1,true) := by rw [e4]; unfold outS; rw [if_neg (by omega)]
  have e6 : fewA r c p e ns = (((nz (bdOf r c p (runAll r c p e ns).2.2.1) : Nat) : Int),true) := by unfold fewA; rw [e5]; rfl
  obtain ⟨m1,m2,m3,m4⟩ := runAll_take g z2
  have gb := bdOf_good g (runAll r c p e ns).2.2.1
  have pa := partsA_said gb
  have l90 := gb.len90
  have nl := nz_le (bdOf r c p (runAll r c p e ns).2.2.1)
  rw [e5,e6]
  have hk : kindsIn p (bdOf r c p (runAll r c p e ns).2.2.1) = true := by
   unfold kindsIn
   rw [List.all_eq_true]
   intro x hx
   rcases bdOf_in r c p _ x hx with rfl | h
   ·rfl
   ·simp [h]
  have hM := implMeets_ev r c p e ns r c (bdOf r c p (runAll r c p e ns).2.2.1)
  have eM : meetsA r c p e ns r c (bdOf r c p (runAll r c p e ns).2.2.1) = (true,true) := by
   unfold meetsA
   rw [if_pos ⟨g,gb.to⟩,if_pos ⟨rfl,rfl,hk⟩,m1]
  rw [eM] at hM
  have hS := psum_ev ((runAll r c p e ns).1.take (nz (bdOf r c p (runAll r c p e ns).2.2.1))) (by rw [List.length_take]; omega) (fun x hx => sb x (List.mem_of_mem_take hx))
  rw [m4] at hS
  refine Ev.pos rfl (Ev.bind hM (Ev.bind (implParts_ev gb) (Ev.bind (specParts_ev gb) (Ev.pos rfl (Ev.pos rfl (Ev.pos rfl (Ev.pos rfl (Ev.bind (sameInts_ev _ (by rw [pa.1]; omega)) (Ev.pos rfl (Ev.pos (by rw [pa.1]; omega) ?_))))))))))
  rw [pa.2,w64 (x := ((bdOf r c p (runAll r c p e ns).2.2.1).length : Int) - (((bdOf r c p (runAll r c p e ns).2.2.1).length : Int) - (nz (bdOf r c p (runAll r c p e ns).2.2.1) : Nat))) (by omega) (by omega),Int.toNat_natCast]
  refine Ev.pos (by omega) (Ev.neg (by dsimp only; omega) (Ev.pos (by dsimp only; omega) (Ev.pos (by dsimp only; omega) (Ev.neg (by dsimp only; omega) (Ev.pos (by dsimp only; omega) (Ev.bind hS (Ev.succ ?_)))))))
  simp only [laws_FnSearch.j2]
  have he1 := inR_iff.1 d.2.2.2.1
  have hne := d.2.2.2.2.1
  obtain ⟨x,es,rfl⟩ : ∃ x es,e = x :: es := by cases e with | nil => simp at he1 | cons x es => exact ⟨x,es,rfl⟩
  obtain ⟨y,ys,rfl⟩ : ∃ y ys,ns = y :: ys := by cases ns with | nil => simp at hne | cons y ys => exact ⟨y,ys,rfl⟩
  have hx := ents_in g x (by simp)
  have hE := implEnd_ev r c (bdOf r c p (runAll r c p (x :: es) (y :: ys)).2.2.1) x
  have eE : endA r c (bdOf r c p (runAll r c p (x :: es) (y :: ys)).2.2.1) x = (y,true) := by
   unfold endA
   have hv : validE r c (bdOf r c p (runAll r c p (x :: es) (y :: ys)).2.2.1) x = true := by
    unfold validE
    rw [gb.to,Bool.true_and]; exact inR_iff.2 (by omega)
   rw [if_pos hv]
   rw [meetGo] at m1
   by_cases q : endNum c (fallR r c (bdOf r c p (runAll r c p (x :: es) (y :: ys)).2.2.1) x).1 (fallR r c (bdOf r c p (runAll r c p (x :: es) (y :: ys)).2.2.1) x).2.2.1 = y
   ·rw [q]
   ·rw [if_neg q] at m1; cases m1
  rw [eE] at hE
  have r0 : rd (x :: es) 0 = x := rfl
  have r1 : rd (y :: ys) 0 = y := rfl
  rw [r0,r1]
  exact Ev.neg (by simp) (Ev.pos (by simp) (Ev.bind hE (Ev.pos rfl (Ev.pos (by simp) (Ev.pos rfl T)))))
 have few2 : (fewA r c p e ns).2 = (smallA r c p e ns).2.2.2 := by
  unfold fewA
  by_cases q : (smallA r c p e ns).2.2.2 = true
  ·rw [if_pos q,q]
  ·rw [if_neg q,Bool.eq_false_iff.mpr q]
 have hs2 : (smallA r c p e ns).2.2.2 = decide (((cntOf r c p e ns : Nat) : Int) > 0) := by
  rw [e4]; unfold outS
  rcases runAll_small_cnt g with ⟨z1,z2⟩ | ⟨z1,z2⟩
  ·rw [if_pos z2]; exact (decide_eq_false (by omega)).symm
  ·rw [if_neg (by omega)]; exact (decide_eq_true (by omega)).symm
 refine Ev.neg (by rw [e1,e2]; simp) (Ev.neg (by rw [e1,e3]; simp) (Ev.neg (by rw [few2]; simp) (Ev.bind (IsChallenge_ev r c p e ns) (Ev.neg (by rw [e1,g]; simp) (Ev.pos (by rw [e1]) (Ev.succ ?_))))))
 simp only [laws_FnSearch.j0]
 refine Ev.neg (by rw [hs2,e2]; simp) (Ev.pos (by rw [e1]) ?_)
 rw [e1,e2,e3]
 have hP := psum_ev (runAll r c p e ns).1 (by omega) sb
 rw [su.1] at hP
 refine Ev.bind hP (Ev.pos rfl (Ev.neg (by unfold cntOf; dsimp only; omega) ?_))
 dsimp only
 rw [w64 (x := r * c) (by omega) (by omega),w64 (x := r * c + 1) (by omega) (by omega),su.2,show (r * c + 1 != r * c + 1) = false by simp]
 exact hJ1
end Go.Proofs.Ytnmffpfiichjgaa.Pure
