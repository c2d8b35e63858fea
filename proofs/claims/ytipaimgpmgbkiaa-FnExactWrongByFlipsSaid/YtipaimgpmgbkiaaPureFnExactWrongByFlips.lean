/- Proved: the pure statement of FnExactWrongByFlips, over numbers and lists; the lemmas on the printed functions that it takes. No further conditions. -/
import Derived.Test.YtipaimgpmgbkiaaStmtFnExactWrongByFlips
import Derived.Test.YtipaimgpmgbkiaaF1
import Derived.Test.YtipaimgpmgbkiaaF2
import Derived.Test.YtipaimgpmgbkiaaF3
import Derived.Test.YtipaimgpmgbkiaaF4
import Derived.Test.YtipaimgpmgbkiaaF6
namespace Go.Proofs.Ytipaimgpmgbkiaa.Pure
open Go.RowKit Go.Proofs.Ytipaimgpmgbkiaa.F Go.Proofs.YtipaimgpmgbkiaaV.PrintWords Go.Proofs.YtipaimgpmgbkiaaV.PrintLast Go.Proofs.Ytipaimgpmgbkiaa
set_option linter.unusedVariables false

theorem Ev.succ {α : Type} {g : Nat → Option α} {r : α} (h : Ev (fun k => g (k + 1)) r) : Ev g r := Ev.step (fun _ => rfl) h
theorem Ev.pos {α : Type} {c : Prop} [Decidable c] {f g : Nat → Option α} {r : α} (hc : c) (h : Ev f r) : Ev (fun k => if c then f k else g k) r := Ev.congr (fun _ => if_pos hc) h
theorem Ev.neg {α : Type} {c : Prop} [Decidable c] {f g : Nat → Option α} {r : α} (hc : ¬ c) (h : Ev g r) : Ev (fun k => if c then f k else g k) r := Ev.congr (fun _ => if_neg hc) h
theorem Ev.ite {α : Type} {c : Prop} [Decidable c] {f g : Nat → Option α} {r s : α} (h : c → Ev f r) (h' : ¬ c → Ev g s) : Ev (fun k => if c then f k else g k) (if c then r else s) := by
 by_cases hc : c
 ·rw [if_pos hc]; exact Ev.pos hc (h hc)
 ·rw [if_neg hc]; exact Ev.neg hc (h' hc)
theorem Ev.ret {α : Type} {r s : α} (h : s = r) : Ev (fun _ => some s) r := by subst h; exact Ev.now _
theorem Ev.val {α : Type} {o : Option α} {r : α} (h : o = some r) : Ev (fun _ => o) r := ⟨0,fun _ _ => h⟩
theorem Ev.cast {α : Type} {g : Nat → Option α} {r s : α} (h : Ev g s) (e : s = r) : Ev g r := e ▸ h
theorem w64 {x : Int} (h : -9223372036854775808 ≤ x) (h' : x ≤ 9223372036854775807) : wrap64 x = x := by unfold wrap64; omega
theorem rd_at (l : List Int) (i : Nat) (h : i < l.length) : rd l (i : Int) = l[i] := by
 unfold rd
 rw [Int.toNat_natCast,List.getD_eq_getElem?_getD,List.getElem?_eq_getElem h]; rfl
theorem rdC_at (l : List S88) (i : Nat) (h : i < l.length) : rd_T88 l (i : Int) = l[i] := by
 unfold rd_T88
 rw [Int.toNat_natCast,List.getD_eq_getElem?_getD,List.getElem?_eq_getElem h]; rfl
def inR (x lo hi : Int) : Bool := decide (lo ≤ x) && decide (x ≤ hi)
theorem inR_iff {x lo hi : Int} : inR x lo hi = true ↔ lo ≤ x ∧ x ≤ hi := by unfold inR; simp
theorem inR_lo {x lo hi : Int} (h : x < lo) : inR x lo hi = false := Bool.eq_false_iff.mpr (fun g => absurd (inR_iff.1 g).1 (by omega))
theorem inR_hi {x lo hi : Int} (h : x > hi) : inR x lo hi = false := Bool.eq_false_iff.mpr (fun g => absurd (inR_iff.1 g).2 (by omega))
theorem l1In_ok (x lo hi : Int) : spec_l1In.f x lo hi = some (inR x lo hi) := by
 unfold spec_l1In.f inR
 by_cases h : lo ≤ x
 ·rw [if_pos (by omega)]; simp [h]
 ·rw [if_neg (by omega)]; simp [h]
def turning (c : S88) : Bool := decide (c.f0 = 3) || decide (c.f0 = 6)
def goodCell (c : S88) : Bool := inR c.f0 0 7 && (decide (c.f1 = 0) || (decide (c.f1 = 1) && turning c))
theorem turning_ok (c : S88) : spec_paTurning.f c.f0 c.f1 = some (turning c) := by
 unfold spec_paTurning.f turning
 by_cases h : c.f0 = 3
 ·rw [if_pos h]; simp [h]
 ·rw [if_neg h,decide_eq_false h,Bool.false_or]; rfl
theorem paGood_ok (c : S88) : spec_paGood.f c.f0 c.f1 = some (goodCell c) := by
 unfold spec_paGood.f goodCell
 rw [l1In_ok,Option.bind_some]
 by_cases h : inR c.f0 0 7 = true
 ·rw [if_pos h,h,Bool.true_and]
  by_cases h1 : c.f1 = 0
  ·rw [if_pos h1,decide_eq_true h1]; rfl
  ·rw [if_neg h1,decide_eq_false h1,Bool.false_or]
   by_cases h2 : c.f1 = 1
   ·rw [if_pos h2,turning_ok,Option.bind_some,decide_eq_true h2,Bool.true_and]
   ·rw [if_neg h2,decide_eq_false h2,Bool.false_and]
 ·rw [if_neg h,Bool.eq_false_iff.mpr h,Bool.false_and]
theorem IsCell_ok (c : S88) : impl_IsCell.f c.f0 c.f1 = some (goodCell c) := by
 unfold impl_IsCell.f goodCell turning inR
 by_cases h1 : c.f0 < 0
 ·rw [if_pos h1,decide_eq_false (show ¬ 0 ≤ c.f0 by omega)]; rfl
 rw [if_neg h1,decide_eq_true (show 0 ≤ c.f0 by omega)]
 by_cases h2 : c.f0 > 7
 ·rw [if_pos h2,decide_eq_false (show ¬ c.f0 ≤ 7 by omega)]; rfl
 rw [if_neg h2,decide_eq_true (show c.f0 ≤ 7 by omega)]
 by_cases h3 : c.f1 = 0
 ·rw [if_neg (by omega),if_neg (by omega),if_pos h3,decide_eq_true h3]; rfl
 rw [decide_eq_false h3]
 by_cases h4 : c.f1 = 1
 ·rw [if_neg (by omega),if_neg (by omega),if_neg h3,decide_eq_true h4]
  by_cases h5 : c.f0 = 3
  ·rw [if_pos h5,decide_eq_true h5]; rfl
  ·rw [if_neg h5,decide_eq_false h5]; rfl
 rw [decide_eq_false h4]
 by_cases h6 : c.f1 < 0
 ·rw [if_pos h6]; rfl
 ·rw [if_neg h6,if_pos (by omega)]; rfl
theorem cell_eq_iff (a b : S88) : (a.f0 == b.f0 && (a.f1 == b.f1)) = true ↔ a = b := by
 cases a; cases b; simp
instance : DecidableEq S88 := fun a b => if h : (a.f0 == b.f0 && (a.f1 == b.f1)) = true then isTrue ((cell_eq_iff a b).1 h) else isFalse fun e => h ((cell_eq_iff a b).2 e)
theorem eqIntS_ev (a b : List Int) (ha : a.length ≤ 4611686018427387904) : Ev (fun k => laws_eqIntS.f k a b) (decide (a = b)) := by
 have key : ∀ (n i : Nat),a.length = b.length → i + n = a.length → Ev (fun k => laws_eqIntS.l0 k a b i) (decide (a.drop i = b.drop i)) := by
  intro n
  induction n with
  | zero =>
   intro i hl hi
   refine Ev.succ ?_
   simp only [laws_eqIntS.l0]
   refine Ev.neg (by omega) (Ev.ret ?_)
   rw [List.drop_eq_nil_of_le (by omega),List.drop_eq_nil_of_le (by omega)]; simp
  | succ n ih =>
   intro i hl hi
   refine Ev.succ ?_
   simp only [laws_eqIntS.l0]
   refine Ev.pos (by omega) (Ev.pos (by omega) (Ev.pos (by omega) ?_))
   rw [rd_at a i (by omega),rd_at b i (by omega),w64 (by omega) (by omega)]
   have e := ih (i + 1) hl (by omega)
   rw [List.drop_eq_getElem_cons (show i < a.length by omega),List.drop_eq_getElem_cons (show i < b.length by omega)]
   by_cases hc : a[i] = b[i]
   ·refine Ev.pos hc (Ev.cast e ?_)
    rw [hc]
    simp only [List.cons.injEq,true_and]
   ·exact Ev.neg hc (Ev.ret (by simp only [List.cons.injEq,hc,false_and,decide_false]))
 show Ev (fun k => if (a.length : Int) = (b.length : Int) then laws_eqIntS.l0 k a b 0 else some false) _
 by_cases hl : a.length = b.length
 ·exact Ev.pos (by omega) (key a.length 0 hl (by omega))
 ·refine Ev.neg (by omega) (Ev.ret ?_)
  have : a ≠ b := fun h => hl (by rw [h])
  simp [this]
theorem set_at {α : Type} (p q : List α) (x y : α) (i : Nat) (hi : p.length = i) : (p ++ x :: q).set i y = p ++ y :: q := by
 subst hi; simp
theorem toIntS_ev (a : List Int) (ha : a.length ≤ 17592186044415) : Ev (fun k => laws_toIntS.f k a) a := by
 have key : ∀ (n i : Nat),i + n = a.length → Ev (fun k => laws_toIntS.l0 k a (a.take i ++ List.replicate n 0) i) a := by
  intro n
  induction n with
  | zero =>
   intro i hi
   refine Ev.succ ?_
   simp only [laws_toIntS.l0]
   refine Ev.neg (by omega) (Ev.ret ?_)
   rw [List.take_of_length_le (by omega)]; simp
  | succ n ih =>
   intro i hi
   refine Ev.succ ?_
   simp only [laws_toIntS.l0]
   have hl : (a.take i ++ List.replicate (n + 1) (0 : Int)).length = a.length := by simp; omega
   refine Ev.pos (by omega) (Ev.pos (by omega) (Ev.pos (by rw [hl]; omega) ?_))
   rw [rd_at a i (by omega),w64 (by omega) (by omega)]
   have e : (a.take i ++ List.replicate (n + 1) (0 : Int)).set (i : Int).toNat a[i] = a.take (i + 1) ++ List.replicate n 0 := by
    rw [List.replicate_succ,set_at _ _ _ _ _ (by simp; omega),List.take_succ_eq_append_getElem (by omega),List.append_assoc]; rfl
   rw [e]
   exact ih (i + 1) (by omega)
 show Ev (fun k => if 0 ≤ (a.length : Int) then (if ((a.length : Int) : Int).toNat ≤ 35184372088832 then (laws_toIntS.l0 k a (List.replicate ((a.length : Int) : Int).toNat 0) 0) else none) else none) a
 refine Ev.pos (by omega) (Ev.pos (by omega) ?_)
 have := key a.length 0 (by omega)
 simpa using this
def cv (c : S106) : S88 := ⟨c.f0,c.f1⟩
theorem rdL_at (l : List S106) (i : Nat) (h : i < l.length) : rd_T106 l (i : Int) = l[i] := by
 unfold rd_T106
 rw [Int.toNat_natCast,List.getD_eq_getElem?_getD,List.getElem?_eq_getElem h]; rfl
theorem toCellS_ev (a : List S106) (ha : a.length ≤ 17592186044415) : Ev (fun k => laws_toCellS.f k a) (a.map cv) := by
 have key : ∀ (n i : Nat),i + n = a.length → Ev (fun k => laws_toCellS.l0 k a ((a.map cv).take i ++ List.replicate n z88) i) (a.map cv) := by
  intro n
  induction n with
  | zero =>
   intro i hi
   refine Ev.succ ?_
   simp only [laws_toCellS.l0]
   refine Ev.neg (by omega) (Ev.ret ?_)
   rw [List.take_of_length_le (by simp; omega)]; simp
  | succ n ih =>
   intro i hi
   refine Ev.succ ?_
   simp only [laws_toCellS.l0,laws_toCell.f,Option.bind_some]
   have hl : ((a.map cv).take i ++ List.replicate (n + 1) z88).length = a.length := by simp; omega
   refine Ev.pos (by omega) (Ev.pos (by omega) (Ev.pos (by rw [hl]; omega) ?_))
   rw [rdL_at a i (by omega),w64 (by omega) (by omega)]
   have e : ((a.map cv).take i ++ List.replicate (n + 1) z88).set (i : Int).toNat (⟨a[i].f0,a[i].f1⟩ : S88) = (a.map cv).take (i + 1) ++ List.replicate n z88 := by
    rw [List.replicate_succ,set_at _ _ _ _ _ (by simp; omega),List.take_succ_eq_append_getElem (by simp; omega),List.append_assoc,List.getElem_map]; rfl
   rw [e]
   exact ih (i + 1) (by omega)
 show Ev (fun k => if 0 ≤ (a.length : Int) then (if ((a.length : Int) : Int).toNat ≤ 17592186044416 then (laws_toCellS.l0 k a (List.replicate ((a.length : Int) : Int).toNat z88) 0) else none) else none) (a.map cv)
 refine Ev.pos (by omega) (Ev.pos (by omega) ?_)
 have := key a.length 0 (by omega)
 simpa using this
theorem eqCellS_ev (a b : List S88) (ha : a.length ≤ 4611686018427387904) : Ev (fun k => laws_eqCellS.f k a b) (decide (a = b)) := by
 have key : ∀ (n i : Nat),a.length = b.length → i + n = a.length → Ev (fun k => laws_eqCellS.l0 k a b i) (decide (a.drop i = b.drop i)) := by
  intro n
  induction n with
  | zero =>
   intro i hl hi
   refine Ev.succ ?_
   simp only [laws_eqCellS.l0]
   refine Ev.neg (by omega) (Ev.ret ?_)
   rw [List.drop_eq_nil_of_le (by omega),List.drop_eq_nil_of_le (by omega)]; simp
  | succ n ih =>
   intro i hl hi
   refine Ev.succ ?_
   simp only [laws_eqCellS.l0]
   refine Ev.pos (by omega) (Ev.pos (by omega) (Ev.pos (by omega) ?_))
   rw [rdC_at a i (by omega),rdC_at b i (by omega),w64 (by omega) (by omega)]
   have e := ih (i + 1) hl (by omega)
   rw [List.drop_eq_getElem_cons (show i < a.length by omega),List.drop_eq_getElem_cons (show i < b.length by omega)]
   by_cases hc : a[i] = b[i]
   ·refine Ev.bind (a := true) (Ev.val ?_) (Ev.pos rfl (Ev.cast e ?_))
    ·rw [hc]; unfold laws_eqCell.f; rw [if_pos rfl,if_pos rfl]
    ·rw [hc]
     simp only [List.cons.injEq,true_and]
   ·refine Ev.bind (a := false) (Ev.val ?_) (Ev.neg (by simp) (Ev.ret (by simp only [List.cons.injEq,hc,false_and,decide_false])))
    unfold laws_eqCell.f
    by_cases h0 : a[i].f0 = b[i].f0
    ·rw [if_pos h0,if_neg (fun h1 => hc ((cell_eq_iff _ _).1 (by simp [h0,h1])))]
    ·rw [if_neg h0]
 show Ev (fun k => if (a.length : Int) = (b.length : Int) then laws_eqCellS.l0 k a b 0 else some false) _
 by_cases hl : a.length = b.length
 ·exact Ev.pos (by omega) (key a.length 0 hl (by omega))
 ·refine Ev.neg (by omega) (Ev.ret ?_)
  have : a ≠ b := fun h => hl (by rw [h])
  simp [this]
theorem mulc {C q R : Int} (hC : 1 ≤ C) (h : q + 1 ≤ R) : C * q + C ≤ C * R := by
 have := Int.mul_le_mul_of_nonneg_left h (show 0 ≤ C by omega)
 rw [Int.mul_add,Int.mul_one] at this
 exact this
theorem mulb {x y m n : Int} (h0 : 0 ≤ x) (h1 : x ≤ m) (g0 : 0 ≤ y) (g1 : y ≤ n) : 0 ≤ x * y ∧ x * y ≤ m * n :=
 ⟨Int.mul_nonneg h0 g0,Int.mul_le_mul h1 g1 g0 (Int.le_trans h0 h1)⟩
structure GoodB (R C : Int) (cs : List S88) : Prop where
 r1 : 1 ≤ R
 r2 : R ≤ 10
 c1 : 1 ≤ C
 c2 : C ≤ 9
 len : (cs.length : Int) = R * C
 good : ∀ c ∈ cs,goodCell c = true
theorem GoodB.le {R C : Int} {cs : List S88} (h : GoodB R C cs) : 1 ≤ R * C ∧ R * C ≤ 90 := by
 have b := mulb (show 0 ≤ R by have := h.r1; omega) h.r2 (show 0 ≤ C by have := h.c1; omega) h.c2
 have b2 : 1 * 1 ≤ R * C := Int.mul_le_mul h.r1 h.c1 (by omega) (by have := h.r1; omega)
 omega
theorem GoodB.len90 {R C : Int} {cs : List S88} (h : GoodB R C cs) : cs.length ≤ 90 := by have := h.le; have := h.len; omega
theorem GoodB.idx {R C : Int} {cs : List S88} (h : GoodB R C cs) {r c : Int} (h0 : 0 ≤ r) (h1 : r < R) (h2 : 0 ≤ c) (h3 : c < C) : 0 ≤ r * C ∧ r * C ≤ 90 ∧ 0 ≤ r * C + c ∧ r * C + c < (cs.length : Int) := by
 have a := mulc h.c1 (show r + 1 ≤ R by omega)
 have b : 0 ≤ r * C := Int.mul_nonneg h0 (by have := h.c1; omega)
 have e := h.le
 rw [h.len]
 rw [Int.mul_comm C r,Int.mul_comm C R] at a
 have := h.c1
 omega
def boardGood (R C : Int) (cs : List S88) : Bool := inR R 1 10 && (inR C 1 9 && (decide ((cs.length : Int) = R * C) && cs.all goodCell))
theorem GoodB.of {R C : Int} {cs : List S88} (h : boardGood R C cs = true) : GoodB R C cs := by
 unfold boardGood at h
 simp only [Bool.and_eq_true,decide_eq_true_eq,inR_iff,List.all_eq_true] at h
 exact ⟨h.1.1,h.1.2,h.2.1.1,h.2.1.2,h.2.2.1,h.2.2.2⟩
theorem GoodB.to {R C : Int} {cs : List S88} (h : GoodB R C cs) : boardGood R C cs = true := by
 unfold boardGood
 simp only [Bool.and_eq_true,decide_eq_true_eq,inR_iff,List.all_eq_true]
 exact ⟨⟨h.r1,h.r2⟩,⟨h.c1,h.c2⟩,h.len,h.good⟩
theorem boGood_ev (R C : Int) (cs : List S88) (hl : cs.length ≤ 1048576) : Ev (fun k => spec_boGood.f k R C cs) (boardGood R C cs) := by
 have key : ∀ (m i : Nat),i + m = cs.length → Ev (fun k => spec_boGood.l0 k cs (cs.length : Int) i) ((cs.drop i).all goodCell) := by
  intro m
  induction m with
  | zero =>
   intro i hi
   refine Ev.succ ?_
   simp only [spec_boGood.l0]
   rw [List.drop_eq_nil_of_le (by omega)]
   exact Ev.neg (by omega) (Ev.now _)
  | succ m ih =>
   intro i hi
   refine Ev.succ ?_
   simp only [spec_boGood.l0]
   refine Ev.pos (by omega) (Ev.pos (by omega) (Ev.pos (by omega) ?_))
   rw [rdC_at cs i (by omega),w64 (by omega) (by omega),List.drop_eq_getElem_cons (show i < cs.length by omega),List.all_cons]
   refine Ev.bind (Ev.val (paGood_ok _)) ?_
   by_cases h : goodCell cs[i] = true
   ·rw [h,Bool.true_and]
    exact Ev.pos (by trivial) (ih (i + 1) (by omega))
   ·exact Ev.neg h (Ev.ret (by rw [Bool.eq_false_iff.mpr h,Bool.false_and]))
 have jt : Ev (fun k => spec_boGood.j0 k true R C cs) false := by
  refine Ev.succ ?_
  simp only [spec_boGood.j0]
  exact Ev.pos (by trivial) (Ev.now _)
 unfold spec_boGood.f boardGood
 refine Ev.bind (Ev.val (l1In_ok _ _ _)) ?_
 by_cases h1 : inR R 1 10 = true
 case neg => exact Ev.neg h1 (Ev.cast jt (by rw [Bool.eq_false_iff.mpr h1,Bool.false_and]))
 refine Ev.pos h1 (Ev.bind (Ev.val (l1In_ok _ _ _)) ?_)
 rw [h1,Bool.true_and]
 by_cases h2 : inR C 1 9 = true
 case neg => exact Ev.neg h2 (Ev.cast jt (by rw [Bool.eq_false_iff.mpr h2,Bool.false_and]))
 refine Ev.pos h2 ?_
 rw [h2,Bool.true_and]
 have b := mulb (show 0 ≤ R by have := inR_iff.1 h1; omega) (inR_iff.1 h1).2 (show 0 ≤ C by have := inR_iff.1 h2; omega) (inR_iff.1 h2).2
 rw [w64 (x := R * C) (by omega) (by omega)]
 by_cases h3 : (cs.length : Int) = R * C
 case neg =>
  rw [bne_iff_ne.mpr h3,decide_eq_false h3,Bool.false_and]
  exact jt
 rw [bne_eq_false_iff_eq.mpr h3,decide_eq_true h3,Bool.true_and]
 refine Ev.succ ?_
 simp only [spec_boGood.j0]
 exact Ev.neg (by simp) (key cs.length 0 (by omega))
theorem validCells_ev (cs : List S88) : Ev (fun k => impl_validCells.f k cs) (decide (cs.length ≤ 90) && cs.all goodCell) := by
 unfold impl_validCells.f
 by_cases h : (cs.length : Int) > 90
 ·exact Ev.pos h (Ev.ret (by rw [decide_eq_false (by omega)]; rfl))
 refine Ev.neg h ?_
 rw [decide_eq_true (show cs.length ≤ 90 by omega),Bool.true_and]
 have key : ∀ (m i : Nat),i + m = cs.length → Ev (fun k => impl_validCells.l0 k cs (cs.length : Int) i) ((cs.drop i).all goodCell) := by
  intro m
  induction m with
  | zero =>
   intro i hi
   refine Ev.succ ?_
   simp only [impl_validCells.l0]
   rw [List.drop_eq_nil_of_le (by omega)]
   exact Ev.neg (by omega) (Ev.now _)
  | succ m ih =>
   intro i hi
   refine Ev.succ ?_
   simp only [impl_validCells.l0]
   refine Ev.pos (by omega) (Ev.pos (by omega) (Ev.pos (by omega) ?_))
   rw [rdC_at cs i (by omega),w64 (by omega) (by omega),List.drop_eq_getElem_cons (show i < cs.length by omega),List.all_cons]
   refine Ev.bind (Ev.val (IsCell_ok _)) ?_
   by_cases h : goodCell cs[i] = true
   ·rw [h,Bool.true_and]
    exact Ev.pos (by trivial) (ih (i + 1) (by omega))
   ·exact Ev.neg h (Ev.ret (by rw [Bool.eq_false_iff.mpr h,Bool.false_and]))
 exact key cs.length 0 (by omega)
theorem IsBoard_ev (R C : Int) (cs : List S88) : Ev (fun k => impl_IsBoard.f k R C cs) (boardGood R C cs) := by
 unfold impl_IsBoard.f boardGood
 by_cases a1 : R ≥ 1
 case neg => exact Ev.neg a1 (Ev.ret (by rw [inR_lo (by omega)]; rfl))
 refine Ev.pos a1 ?_
 by_cases a2 : R ≤ 10
 case neg => exact Ev.neg a2 (Ev.ret (by rw [inR_hi (by omega)]; rfl))
 refine Ev.pos a2 ?_
 rw [inR_iff.2 ⟨a1,a2⟩,Bool.true_and]
 by_cases a3 : C ≥ 1
 case neg => exact Ev.neg a3 (Ev.ret (by rw [inR_lo (by omega)]; rfl))
 refine Ev.pos a3 ?_
 by_cases a4 : C ≤ 9
 case neg => exact Ev.neg a4 (Ev.ret (by rw [inR_hi (by omega)]; rfl))
 refine Ev.pos a4 ?_
 rw [inR_iff.2 ⟨a3,a4⟩,Bool.true_and]
 have b := mulb (show 0 ≤ R by omega) a2 (show 0 ≤ C by omega) a4
 rw [w64 (x := R * C) (by omega) (by omega)]
 by_cases h3 : (cs.length : Int) = R * C
 case neg => exact Ev.neg h3 (Ev.ret (by rw [decide_eq_false h3,Bool.false_and]))
 refine Ev.pos h3 (Ev.bind (validCells_ev cs) (Ev.ret ?_))
 rw [decide_eq_true h3,decide_eq_true (show cs.length ≤ 90 by omega),Bool.true_and]
theorem boOwn_ok (R C : Int) (cs : List S88) (hl : cs.length ≤ 1048576) : spec_boOwn.f R C cs = some (R,C,cs) := by
 unfold spec_boOwn.f
 simp only [Option.bind_some]
 rw [if_pos (by simp; omega)]; rfl
theorem copyBoard_ok (R C : Int) (cs : List S88) (hl : cs.length ≤ 1048576) : impl_copyBoard.f R C cs = some (R,C,cs) := by
 unfold impl_copyBoard.f
 simp only [Option.bind_some]
 rw [if_pos (by simp; omega)]; rfl
theorem boAt_ok {R C : Int} {cs : List S88} (h : GoodB R C cs) {r c : Int} (h0 : 0 ≤ r) (h1 : r < R) (h2 : 0 ≤ c) (h3 : c < C) : spec_boAt.f R C cs r c = some ((rd_T88 cs (r * C + c)).f0,(rd_T88 cs (r * C + c)).f1) := by
 have b := h.idx h0 h1 h2 h3
 have l := h.len90
 unfold spec_boAt.f
 rw [w64 (x := r * C) (by omega) (by omega),w64 (by omega) (by omega),if_pos b.2.2.1,if_pos b.2.2.2]
theorem toBoard_ev (R C : Int) (p : List S106) (hp : p.length ≤ 1048576) : Ev (fun k => laws_toBoard.f k R C p) (R,C,p.map cv) := by
 unfold laws_toBoard.f
 exact Ev.bind (toCellS_ev p (by omega)) (Ev.now _)
theorem eqBoard_ev (R C R' C' : Int) (p p' : List S88) (hp : p.length ≤ 1048576) : Ev (fun k => laws_eqBoard.f k R C p R' C' p') (decide (R = R' ∧ C = C' ∧ p = p')) := by
 unfold laws_eqBoard.f
 by_cases h1 : R = R'
 case neg => exact Ev.neg h1 (Ev.ret (by simp [h1]))
 refine Ev.pos h1 ?_
 by_cases h2 : C = C'
 case neg => exact Ev.neg h2 (Ev.ret (by simp [h2]))
 refine Ev.pos h2 (Ev.bind (eqCellS_ev p p' (by omega)) ?_)
 by_cases h3 : p = p'
 case neg => exact Ev.neg (by simp [h3]) (Ev.ret (by simp [h3]))
 exact Ev.pos (by simp [h3]) (Ev.ret (by simp [h1,h2,h3]))
def near (R C i : Int) : List Int := (if 0 < i / C then [i - C] else []) ++ ((if 0 < i % C then [i - 1] else []) ++ ((if i % C + 1 < C then [i + 1] else []) ++ (if i / C + 1 < R then [i + C] else [])))
theorem near_in {R C : Int} {cs : List S88} (h : GoodB R C cs) {i : Int} (h0 : 0 ≤ i) (h1 : i < (cs.length : Int)) : ∀ n ∈ near R C i,0 ≤ n ∧ n < (cs.length : Int) := by
 have hc := h.c1
 have e := Int.mul_ediv_add_emod i C
 have r0 := Int.emod_nonneg i (show C ≠ 0 by omega)
 have r1 := Int.emod_lt_of_pos i (show 0 < C by omega)
 have q0 : 0 ≤ i / C := Int.ediv_nonneg h0 (by omega)
 have hl := h.len
 have cq : 0 ≤ C * (i / C) := Int.mul_nonneg (by omega) q0
 have qR : i / C < R := by
  rcases (show i / C < R ∨ R ≤ i / C by omega) with hq | hq
  ·exact hq
  ·have := Int.mul_le_mul_of_nonneg_left hq (show 0 ≤ C by omega)
   rw [Int.mul_comm C R] at this
   omega
 have m1 := mulc hc (show i / C + 1 ≤ R by omega)
 rw [Int.mul_comm C R] at m1
 intro n hn
 unfold near at hn
 simp only [List.mem_append] at hn
 rcases hn with hn | hn | hn | hn
 ·split at hn
  ·rename_i hq
   have := mulc hc (show 0 + 1 ≤ i / C by omega)
   simp at hn this
   omega
  ·simp at hn
 ·split at hn
  ·simp at hn; omega
  ·simp at hn
 ·split at hn
  ·simp at hn; omega
  ·simp at hn
 ·split at hn
  ·rename_i hq
   have m2 := mulc hc (show (i / C + 1) + 1 ≤ R by omega)
   rw [Int.mul_comm C R,Int.mul_add,Int.mul_one] at m2
   simp at hn
   omega
  ·simp at hn
theorem near_len (R C i : Int) : (near R C i).length ≤ 4 := by
 unfold near
 simp only [List.length_append]
 split <;> split <;> split <;> split <;> simp
def geared (c : S88) : Bool := decide (c.f0 = 6) || decide (c.f0 = 7)
theorem ggGear_ok (c : S88) : spec_ggGear.f c.f0 c.f1 = some (geared c) := by
 unfold spec_ggGear.f geared
 by_cases h : c.f0 = 6
 ·rw [if_pos h,decide_eq_true h]; rfl
 ·rw [if_neg h,decide_eq_false h]; rfl
theorem isGeared_ok (c : S88) : impl_isGeared.f c.f0 c.f1 = some (geared c) := by
 unfold impl_isGeared.f geared
 by_cases h : c.f0 = 6
 ·rw [if_pos h,decide_eq_true h]; rfl
 ·rw [if_neg h,decide_eq_false h]; rfl
theorem ggNear_ev {R C : Int} {cs : List S88} (h : GoodB R C cs) {i : Int} (h0 : 0 ≤ i) (h1 : i < (cs.length : Int)) : Ev (fun k => spec_ggNear.f k R C cs i) (near R C i) := by
 have hc := h.c1
 have hc2 := h.c2
 have hl := h.len90
 have hr2 := h.r2
 have q0 : 0 ≤ i / C := Int.ediv_nonneg h0 (by omega)
 have q1 : i / C ≤ i := Int.ediv_le_self C h0
 have r0 := Int.emod_nonneg i (show C ≠ 0 by omega)
 have r1 := Int.emod_lt_of_pos i (show 0 < C by omega)
 have last : ∀ p : List Int,p.length ≤ 2 → Ev (fun k => spec_ggNear.j1 k i (i / C) (i % C) p R C cs) (p ++ ((if i % C + 1 < C then [i + 1] else []) ++ (if i / C + 1 < R then [i + C] else []))) := by
  intro p hp
  refine Ev.succ ?_
  simp only [spec_ggNear.j1]
  rw [w64 (x := i % C + 1) (by omega) (by omega),w64 (x := i / C + 1) (by omega) (by omega),w64 (x := i + 1) (by omega) (by omega),w64 (x := i + C) (by omega) (by omega)]
  by_cases g1 : i % C + 1 < C
  ·refine Ev.pos g1 (Ev.pos (by omega) (Ev.bind (Ev.now _) ?_))
   rw [if_pos g1]
   by_cases g2 : i / C + 1 < R
   ·refine Ev.pos g2 (Ev.pos (by simp; omega) (Ev.ret ?_))
    rw [if_pos g2,List.append_assoc]
   ·refine Ev.neg g2 (Ev.ret ?_)
    rw [if_neg g2,List.append_nil]
  ·refine Ev.neg g1 ?_
   rw [if_neg g1,List.nil_append]
   by_cases g2 : i / C + 1 < R
   ·refine Ev.pos g2 (Ev.pos (by omega) (Ev.ret ?_))
    rw [if_pos g2]
   ·refine Ev.neg g2 (Ev.ret ?_)
    rw [if_neg g2,List.append_nil]
 have mid : ∀ p : List Int,p.length ≤ 1 → Ev (fun k => spec_ggNear.j0 k i (i / C) (i % C) p R C cs) (p ++ ((if 0 < i % C then [i - 1] else []) ++ ((if i % C + 1 < C then [i + 1] else []) ++ (if i / C + 1 < R then [i + C] else [])))) := by
  intro p hp
  refine Ev.succ ?_
  simp only [spec_ggNear.j0]
  rw [w64 (x := i - 1) (by omega) (by omega)]
  by_cases g : i % C > 0
  ·refine Ev.pos g (Ev.pos (by omega) (Ev.cast (last (p ++ [i - 1]) (by simp; omega)) ?_))
   rw [if_pos g,List.append_assoc]
  ·refine Ev.neg g (Ev.cast (last p (by omega)) ?_)
   rw [if_neg g,List.nil_append]
 unfold spec_ggNear.f near
 rw [Int.tdiv_eq_ediv_of_nonneg h0,Int.tmod_eq_emod_of_nonneg h0,w64 (x := i / C) (by omega) (by omega),w64 (x := i - C) (by omega) (by omega)]
 refine Ev.neg (by omega) ?_
 by_cases g : i / C > 0
 ·refine Ev.pos g (Ev.pos (by simp) (Ev.cast (mid [i - C] (by simp)) ?_))
  rw [if_pos g]
 ·refine Ev.neg g (Ev.cast (mid [] (by simp)) ?_)
  rw [if_neg g]
theorem besideOf_ev {R C : Int} {cs : List S88} (h : GoodB R C cs) {i : Int} (h0 : 0 ≤ i) (h1 : i < (cs.length : Int)) : Ev (fun k => impl_besideOf.f k R C cs i) (near R C i) := by
 have hc := h.c1
 have hc2 := h.c2
 have hl := h.len90
 have hr2 := h.r2
 have q0 : 0 ≤ i / C := Int.ediv_nonneg h0 (by omega)
 have q1 : i / C ≤ i := Int.ediv_le_self C h0
 have r0 := Int.emod_nonneg i (show C ≠ 0 by omega)
 have r1 := Int.emod_lt_of_pos i (show 0 < C by omega)
 have last : ∀ p : List Int,p.length ≤ 2 → Ev (fun k => impl_besideOf.j1 k i p (i / C) (i % C) R C cs) (p ++ ((if i % C + 1 < C then [i + 1] else []) ++ (if i / C + 1 < R then [i + C] else []))) := by
  intro p hp
  refine Ev.succ ?_
  simp only [impl_besideOf.j1]
  rw [w64 (x := i % C + 1) (by omega) (by omega),w64 (x := i / C + 1) (by omega) (by omega),w64 (x := i + 1) (by omega) (by omega),w64 (x := i + C) (by omega) (by omega)]
  by_cases g1 : i % C + 1 < C
  ·refine Ev.pos g1 (Ev.pos (by omega) (Ev.bind (Ev.now _) ?_))
   rw [if_pos g1]
   by_cases g2 : i / C + 1 < R
   ·refine Ev.pos g2 (Ev.pos (by simp; omega) (Ev.ret ?_))
    rw [if_pos g2,List.append_assoc]
   ·refine Ev.neg g2 (Ev.ret ?_)
    rw [if_neg g2,List.append_nil]
  ·refine Ev.neg g1 ?_
   rw [if_neg g1,List.nil_append]
   by_cases g2 : i / C + 1 < R
   ·refine Ev.pos g2 (Ev.pos (by omega) (Ev.ret ?_))
    rw [if_pos g2]
   ·refine Ev.neg g2 (Ev.ret ?_)
    rw [if_neg g2,List.append_nil]
 have mid : ∀ p : List Int,p.length ≤ 1 → Ev (fun k => impl_besideOf.j0 k i p (i / C) (i % C) R C cs) (p ++ ((if 0 < i % C then [i - 1] else []) ++ ((if i % C + 1 < C then [i + 1] else []) ++ (if i / C + 1 < R then [i + C] else [])))) := by
  intro p hp
  refine Ev.succ ?_
  simp only [impl_besideOf.j0]
  rw [w64 (x := i - 1) (by omega) (by omega)]
  by_cases g : i % C > 0
  ·refine Ev.pos g (Ev.pos (by omega) (Ev.cast (last (p ++ [i - 1]) (by simp; omega)) ?_))
   rw [if_pos g,List.append_assoc]
  ·refine Ev.neg g (Ev.cast (last p (by omega)) ?_)
   rw [if_neg g,List.nil_append]
 unfold impl_besideOf.f near
 rw [Int.tdiv_eq_ediv_of_nonneg h0,Int.tmod_eq_emod_of_nonneg h0,w64 (x := i / C) (by omega) (by omega),w64 (x := i - C) (by omega) (by omega)]
 refine Ev.bind (Ev.now _) (Ev.neg (by omega) ?_)
 by_cases g : i / C > 0
 ·refine Ev.pos g (Ev.pos (by simp) (Ev.cast (mid [i - C] (by simp)) ?_))
  rw [if_pos g]
 ·refine Ev.neg g (Ev.cast (mid [] (by simp)) ?_)
  rw [if_neg g]
def visit (cs : List S88) (nx : Int) : List Int → List Int → List Int → List Int × List Int
 | [],o,q => (o,q)
 | n :: t,o,q => if geared (rd_T88 cs n) = true ∧ rd o n < 0 then visit cs nx t (o.set n.toNat nx) (q ++ [n]) else visit cs nx t o q
def negs (o : List Int) : Nat := o.countP (fun x => decide (x < 0))
theorem visit_len (cs : List S88) (nx : Int) : ∀ (ns o q : List Int),(visit cs nx ns o q).1.length = o.length
 | [],o,q => rfl
 | n :: t,o,q => by
  rw [visit]
  split
  ·rw [visit_len cs nx t,List.length_set]
  ·exact visit_len cs nx t o q
theorem visit_q (cs : List S88) (nx : Int) (p : List Int) : ∀ (ns o q : List Int),visit cs nx ns o (p ++ q) = ((visit cs nx ns o q).1,p ++ (visit cs nx ns o q).2)
 | [],o,q => rfl
 | n :: t,o,q => by
  rw [visit,visit]
  split
  ·rw [List.append_assoc,visit_q cs nx p t]
  ·exact visit_q cs nx p t o q
theorem visit_sum (cs : List S88) {nx : Int} (hx : 0 ≤ nx) : ∀ (ns o q : List Int),(∀ n ∈ ns,0 ≤ n ∧ n < (o.length : Int)) → negs (visit cs nx ns o q).1 + (visit cs nx ns o q).2.length = negs o + q.length
 | [],o,q,_ => rfl
 | n :: t,o,q,h => by
  have h2 : ∀ m ∈ t,0 ≤ m ∧ m < (o.length : Int) := fun m hm => h m (List.mem_cons_of_mem _ hm)
  obtain ⟨n0,n1⟩ := h n List.mem_cons_self
  rw [visit]
  split
  ·rename_i hc
   rw [visit_sum cs hx t _ _ (fun m hm => by rw [List.length_set]; exact h2 m hm),List.length_append]
   have hl : n.toNat < o.length := by omega
   have hr : rd o n = o[n.toNat] := by
    have := rd_at o n.toNat hl
    rwa [Int.toNat_of_nonneg n0] at this
   have hn := hc.2
   rw [hr] at hn
   have e : negs (o.set n.toNat nx) + 1 = negs o := by
    unfold negs
    rw [List.countP_set hl,decide_eq_true hn,decide_eq_false (show ¬ nx < 0 by omega)]
    have pos : 0 < o.countP (fun x => decide (x < 0)) := List.countP_pos_iff.2 ⟨o[n.toNat],List.getElem_mem hl,by simpa using hn⟩
    simp
    omega
   simp
   omega
  ·exact visit_sum cs hx t o q h2
theorem visit_in (cs : List S88) (nx : Int) (P : Int → Prop) : ∀ (ns o q : List Int),(∀ n ∈ ns,P n) → (∀ n ∈ q,P n) → ∀ n ∈ (visit cs nx ns o q).2,P n
 | [],o,q,_,h => h
 | n :: t,o,q,hs,h => by
  rw [visit]
  have h2 : ∀ m ∈ t,P m := fun m hm => hs m (List.mem_cons_of_mem _ hm)
  split
  ·refine visit_in cs nx P t _ _ h2 (fun m hm => ?_)
   rcases List.mem_append.1 hm with hm | hm
   ·exact h m hm
   ·rw [List.mem_singleton.1 hm]; exact hs n List.mem_cons_self
  ·exact visit_in cs nx P t o q h2 h
def bfs (R C : Int) (cs : List S88) (nx : Int) : Nat → List Int → List Int → List Int
 | 0,o,_ => o
 | _ + 1,o,[] => o
 | k + 1,o,a :: q => bfs R C cs nx k (visit cs nx (near R C a) o q).1 (visit cs nx (near R C a) o q).2
theorem bfs_len (R C : Int) (cs : List S88) (nx : Int) : ∀ (k : Nat) (o q : List Int),(bfs R C cs nx k o q).length = o.length
 | 0,o,q => rfl
 | k + 1,o,[] => rfl
 | k + 1,o,a :: q => by rw [bfs,bfs_len R C cs nx k,visit_len]
def grp (R C : Int) (cs : List S88) : Nat → Nat → Int → List Int → List Int
 | 0,_,_,o => o
 | m + 1,i,nx,o => if geared (rd_T88 cs i) = true ∧ rd o i < 0 then grp R C cs m (i + 1) (nx + 1) (bfs R C cs nx (cs.length + 1) (o.set i nx) [(i : Int)]) else grp R C cs m (i + 1) nx o
def groupsOf (R C : Int) (cs : List S88) : List Int := grp R C cs cs.length 0 0 (List.replicate cs.length (-1))
theorem grp_len (R C : Int) (cs : List S88) : ∀ (m i : Nat) (nx : Int) (o : List Int),(grp R C cs m i nx o).length = o.length
 | 0,i,nx,o => rfl
 | m + 1,i,nx,o => by
  rw [grp]
  split
  ·rw [grp_len R C cs m,bfs_len,List.length_set]
  ·exact grp_len R C cs m _ _ _
theorem groupsOf_len (R C : Int) (cs : List S88) : (groupsOf R C cs).length = cs.length := by
 unfold groupsOf
 rw [grp_len,List.length_replicate]
theorem rd_drop (q : List Int) (k : Nat) (h : k < q.length) : q.drop k = rd q k :: q.drop (k + 1) := by
 rw [rd_at q k h]; exact List.drop_eq_getElem_cons h
theorem ggGroups_l3 {R C : Int} {cs : List S88} (h : GoodB R C cs) {nx : Int} (hx : 0 ≤ nx) (ns : List Int) (hns : ∀ n ∈ ns,0 ≤ n ∧ n < (cs.length : Int)) (hn4 : ns.length ≤ 4) (i : Int) (r : List Int) (k0 : Nat) (hk0 : k0 ≤ 1000) :
  ∀ (m j : Nat) (o q : List Int),j + m = ns.length → o.length = cs.length → negs o + q.length ≤ 1000 → Ev (fun k => spec_ggGroups.l2 k (visit cs nx (ns.drop j) o q).1 nx (visit cs nx (ns.drop j) o q).2 ((k0 : Int) + 1) cs (cs.length : Int) i R C cs) r → Ev (fun k => spec_ggGroups.l3 k o nx q k0 cs (cs.length : Int) i ns (ns.length : Int) j R C cs) r := by
 have l90 := h.len90
 intro m
 induction m with
 | zero =>
  intro j o q hj ho hs e
  refine Ev.succ ?_
  simp only [spec_ggGroups.l3]
  rw [List.drop_eq_nil_of_le (by omega),visit] at e
  rw [w64 (x := (k0 : Int) + 1) (by omega) (by omega)]
  exact Ev.neg (by omega) e
 | succ m ih =>
  intro j o q hj ho hs e
  have hjl : j < ns.length := by omega
  obtain ⟨n0,n1⟩ := hns ns[j] (List.getElem_mem hjl)
  rw [List.drop_eq_getElem_cons hjl,visit] at e
  refine Ev.succ ?_
  simp only [spec_ggGroups.l3]
  rw [rd_at ns j hjl,w64 (x := (j : Int) + 1) (by omega) (by omega)]
  refine Ev.pos (by omega) (Ev.pos (by omega) (Ev.pos (by omega) (Ev.pos n0 (Ev.pos n1 (Ev.bind (Ev.val (ggGear_ok _)) ?_)))))
  by_cases g1 : geared (rd_T88 cs ns[j]) = true
  ·refine Ev.pos g1 (Ev.pos (by omega) ?_)
   by_cases g2 : rd o ns[j] < 0
   ·rw [if_pos ⟨g1,g2⟩] at e
    refine Ev.pos g2 (Ev.pos (by omega) ?_)
    have hv := visit_sum cs hx [ns[j]] o q (fun n hn => by rw [List.mem_singleton.1 hn]; omega)
    rw [visit,if_pos ⟨g1,g2⟩,visit] at hv
    exact ih (j + 1) _ _ (by omega) (by rw [List.length_set]; exact ho) (by simp only at hv; omega) e
   ·rw [if_neg (fun hh => g2 hh.2)] at e
    exact Ev.neg g2 (ih (j + 1) _ _ (by omega) ho hs e)
  ·rw [if_neg (fun hh => g1 hh.1)] at e
   exact Ev.neg g1 (ih (j + 1) _ _ (by omega) ho hs e)
theorem ggGroups_l2 {R C : Int} {cs : List S88} (h : GoodB R C cs) {nx : Int} (hx : 0 ≤ nx) (hx2 : nx ≤ 1000) (i : Nat) (hi : i ≤ 1000) (r : List Int) :
  ∀ (f : Nat) (o q : List Int) (k0 : Nat),o.length = cs.length → k0 ≤ q.length → negs o + (q.length - k0) ≤ f → negs o + q.length ≤ 1000 → (∀ n ∈ q,0 ≤ n ∧ n < (cs.length : Int)) → Ev (fun k => spec_ggGroups.l1 k (bfs R C cs nx f o (q.drop k0)) (nx + 1) cs (cs.length : Int) ((i : Int) + 1) R C cs) r → Ev (fun k => spec_ggGroups.l2 k o nx q k0 cs (cs.length : Int) i R C cs) r := by
 have l90 := h.len90
 intro f
 induction f with
 | zero =>
  intro o q k0 ho hk hm hs hq e
  refine Ev.succ ?_
  simp only [spec_ggGroups.l2]
  rw [w64 (x := nx + 1) (by omega) (by omega),w64 (x := (i : Int) + 1) (by omega) (by omega)]
  rw [bfs] at e
  exact Ev.neg (by omega) e
 | succ f ih =>
  intro o q k0 ho hk hm hs hq e
  by_cases hlt : k0 < q.length
  ·rw [rd_drop q k0 hlt,bfs] at e
   refine Ev.succ ?_
   simp only [spec_ggGroups.l2]
   have hin : 0 ≤ rd q k0 ∧ rd q k0 < (cs.length : Int) := by rw [rd_at q k0 hlt]; exact hq _ (List.getElem_mem hlt)
   have hnear := near_in h hin.1 hin.2
   refine Ev.pos (by omega) (Ev.pos (by omega) (Ev.bind (ggNear_ev h hin.1 hin.2) ?_))
   refine ggGroups_l3 h hx (near R C (rd q k0)) hnear (near_len _ _ _) i r k0 (by omega) _ 0 o q (Nat.zero_add _) ho hs ?_
   rw [List.drop_zero]
   have hsum := visit_sum cs hx (near R C (rd q k0)) o q (fun n hn => by rw [ho]; exact hnear n hn)
   have hsp : visit cs nx (near R C (rd q k0)) o q = ((visit cs nx (near R C (rd q k0)) o (q.drop (k0 + 1))).1,q.take (k0 + 1) ++ (visit cs nx (near R C (rd q k0)) o (q.drop (k0 + 1))).2) := by
    rw [← visit_q,List.take_append_drop]
   have hd : (visit cs nx (near R C (rd q k0)) o q).2.drop (k0 + 1) = (visit cs nx (near R C (rd q k0)) o (q.drop (k0 + 1))).2 := by
    rw [hsp]
    exact List.drop_left' (by rw [List.length_take]; omega)
   have h1 : (visit cs nx (near R C (rd q k0)) o q).1 = (visit cs nx (near R C (rd q k0)) o (q.drop (k0 + 1))).1 := by rw [hsp]
   have hlen : k0 + 1 ≤ (visit cs nx (near R C (rd q k0)) o q).2.length := by
    rw [hsp]; simp; omega
   refine ih _ _ (k0 + 1) (by rw [visit_len]; exact ho) hlen (by omega) (by omega) (visit_in cs nx _ _ o q hnear hq) ?_
   rw [hd,h1]
   exact e
  ·have hk0 : k0 = q.length := by omega
   rw [hk0,List.drop_eq_nil_of_le (Nat.le_refl _),bfs] at e
   refine Ev.succ ?_
   simp only [spec_ggGroups.l2]
   rw [w64 (x := nx + 1) (by omega) (by omega),w64 (x := (i : Int) + 1) (by omega) (by omega)]
   exact Ev.neg (by omega) e
theorem ggGroups_l1 {R C : Int} {cs : List S88} (h : GoodB R C cs) :
  ∀ (m i : Nat) (nx : Int) (o : List Int),i + m = cs.length → 0 ≤ nx → nx ≤ i → o.length = cs.length → Ev (fun k => spec_ggGroups.l1 k o nx cs (cs.length : Int) i R C cs) (grp R C cs m i nx o) := by
 have l90 := h.len90
 intro m
 induction m with
 | zero =>
  intro i nx o hi h0 h1 ho
  refine Ev.succ ?_
  simp only [spec_ggGroups.l1]
  rw [grp]
  exact Ev.neg (by omega) (Ev.now _)
 | succ m ih =>
  intro i nx o hi h0 h1 ho
  have e0 := ih (i + 1) nx o (by omega) h0 (by omega) ho
  have jt : Ev (fun k => spec_ggGroups.j2 k o nx i cs (cs.length : Int) i true R C cs) (grp R C cs m (i + 1) nx o) := by
   refine Ev.succ ?_
   simp only [spec_ggGroups.j2]
   rw [w64 (x := (i : Int) + 1) (by omega) (by omega)]
   exact Ev.pos (by trivial) e0
  refine Ev.succ ?_
  simp only [spec_ggGroups.l1]
  rw [grp]
  refine Ev.pos (by omega) (Ev.pos (by omega) (Ev.pos (by omega) (Ev.bind (Ev.val (ggGear_ok _)) ?_)))
  by_cases g1 : geared (rd_T88 cs i) = true
  case neg =>
   rw [if_neg (fun hh => g1 hh.1)]
   exact Ev.neg g1 jt
  refine Ev.pos g1 (Ev.pos (by omega) ?_)
  by_cases g2 : rd o i ≥ 0
  ·rw [if_neg (fun hh => by omega),decide_eq_true g2]
   exact jt
  rw [if_pos ⟨g1,by omega⟩,decide_eq_false g2]
  refine Ev.succ ?_
  simp only [spec_ggGroups.j2]
  refine Ev.neg (by simp) (Ev.pos (by omega) (Ev.pos (by omega) ?_))
  rw [Int.toNat_natCast]
  have ho2 : (o.set i nx).length = cs.length := by rw [List.length_set]; exact ho
  have hsum : negs (o.set i nx) + 1 = negs o := by
   have hl : i < o.length := by omega
   have hr := rd_at o i hl
   unfold negs
   rw [List.countP_set hl,decide_eq_true (show o[i] < 0 by omega),decide_eq_false (show ¬ nx < 0 by omega)]
   have pos : 0 < o.countP (fun x => decide (x < 0)) := List.countP_pos_iff.2 ⟨o[i],List.getElem_mem hl,by simp; omega⟩
   simp
   omega
  have hle : negs o ≤ o.length := List.countP_le_length
  refine ggGroups_l2 h h0 (by omega) i (by omega) _ (cs.length + 1) (o.set i nx) [(i : Int)] 0 ho2 (by simp) (by simp; omega) (by simp; omega) (fun n hn => by rw [List.mem_singleton.1 hn]; omega) ?_
  have e1 := ih (i + 1) (nx + 1) (bfs R C cs nx (cs.length + 1) (o.set i nx) [(i : Int)]) (by omega) (by omega) (by omega) (by rw [bfs_len]; exact ho2)
  exact e1
theorem ggGroups_ev {R C : Int} {cs : List S88} (h : GoodB R C cs) : Ev (fun k => spec_ggGroups.f k R C cs) (groupsOf R C cs) := by
 have l90 := h.len90
 have key : ∀ (m i : Nat),i + m = cs.length → Ev (fun k => spec_ggGroups.l0 k (List.replicate i (-1) ++ List.replicate m 0) (cs.length : Int) i R C cs) (groupsOf R C cs) := by
  intro m
  induction m with
  | zero =>
   intro i hi
   obtain rfl : i = cs.length := by omega
   refine Ev.succ ?_
   simp only [spec_ggGroups.l0]
   refine Ev.neg (by omega) ?_
   rw [List.replicate_zero,List.append_nil]
   exact ggGroups_l1 h cs.length 0 0 _ (by omega) (by omega) (by omega) (by simp)
  | succ m ih =>
   intro i hi
   refine Ev.succ ?_
   simp only [spec_ggGroups.l0]
   refine Ev.pos (by omega) (Ev.pos (by omega) (Ev.pos (by simp; omega) ?_))
   rw [w64 (x := (i : Int) + 1) (by omega) (by omega),Int.toNat_natCast,List.replicate_succ,set_at _ _ _ _ _ (by simp)]
   have e : (List.replicate i (-1 : Int) ++ -1 :: List.replicate m 0) = List.replicate (i + 1) (-1) ++ List.replicate m 0 := by
    rw [List.replicate_succ',List.append_assoc]; rfl
   rw [e]
   exact ih (i + 1) (by omega)
 unfold spec_ggGroups.f
 refine Ev.pos (by omega) (Ev.pos (by omega) (Ev.bind (Ev.now _) ?_))
 rw [Int.toNat_natCast,List.length_replicate]
 exact key cs.length 0 (by omega)
theorem groupNumbers_l3 {R C : Int} {cs : List S88} (h : GoodB R C cs) {nx : Int} (hx : 0 ≤ nx) (ns : List Int) (hns : ∀ n ∈ ns,0 ≤ n ∧ n < (cs.length : Int)) (hn4 : ns.length ≤ 4) (i : Int) (r : List Int) :
  ∀ (m j : Nat) (o q : List Int),j + m = ns.length → o.length = cs.length → negs o + q.length ≤ 1000 → Ev (fun k => impl_groupNumbers.l2 k (visit cs nx (ns.drop j) o q).1 nx (visit cs nx (ns.drop j) o q).2 cs (cs.length : Int) i R C cs) r → Ev (fun k => impl_groupNumbers.l3 k o nx q cs (cs.length : Int) i ns (ns.length : Int) j R C cs) r := by
 have l90 := h.len90
 intro m
 induction m with
 | zero =>
  intro j o q hj ho hs e
  refine Ev.succ ?_
  simp only [impl_groupNumbers.l3]
  rw [List.drop_eq_nil_of_le (by omega),visit] at e
  exact Ev.neg (by omega) e
 | succ m ih =>
  intro j o q hj ho hs e
  have hjl : j < ns.length := by omega
  obtain ⟨n0,n1⟩ := hns ns[j] (List.getElem_mem hjl)
  rw [List.drop_eq_getElem_cons hjl,visit] at e
  refine Ev.succ ?_
  simp only [impl_groupNumbers.l3]
  rw [rd_at ns j hjl,w64 (x := (j : Int) + 1) (by omega) (by omega)]
  refine Ev.pos (by omega) (Ev.pos (by omega) (Ev.pos (by omega) (Ev.pos n0 (Ev.pos n1 (Ev.bind (Ev.val (isGeared_ok _)) ?_)))))
  by_cases g1 : geared (rd_T88 cs ns[j]) = true
  ·refine Ev.pos g1 (Ev.pos (by omega) ?_)
   by_cases g2 : rd o ns[j] < 0
   ·rw [if_pos ⟨g1,g2⟩] at e
    refine Ev.pos g2 (Ev.pos (by omega) ?_)
    have hv := visit_sum cs hx [ns[j]] o q (fun n hn => by rw [List.mem_singleton.1 hn]; omega)
    rw [visit,if_pos ⟨g1,g2⟩,visit] at hv
    exact ih (j + 1) _ _ (by omega) (by rw [List.length_set]; exact ho) (by simp only at hv; omega) e
   ·rw [if_neg (fun hh => g2 hh.2)] at e
    exact Ev.neg g2 (ih (j + 1) _ _ (by omega) ho hs e)
  ·rw [if_neg (fun hh => g1 hh.1)] at e
   exact Ev.neg g1 (ih (j + 1) _ _ (by omega) ho hs e)
theorem groupNumbers_l2 {R C : Int} {cs : List S88} (h : GoodB R C cs) {nx : Int} (hx : 0 ≤ nx) (hx2 : nx ≤ 1000) (i : Nat) (hi : i ≤ 1000) (r : List Int) :
  ∀ (f : Nat) (o q : List Int),o.length = cs.length → negs o + q.length ≤ f → negs o + q.length ≤ 1000 → (∀ n ∈ q,0 ≤ n ∧ n < (cs.length : Int)) → Ev (fun k => impl_groupNumbers.l1 k (bfs R C cs nx f o q) (nx + 1) cs (cs.length : Int) ((i : Int) + 1) R C cs) r → Ev (fun k => impl_groupNumbers.l2 k o nx q cs (cs.length : Int) i R C cs) r := by
 have l90 := h.len90
 intro f
 induction f with
 | zero =>
  intro o q ho hm hs hq e
  refine Ev.succ ?_
  simp only [impl_groupNumbers.l2]
  rw [w64 (x := nx + 1) (by omega) (by omega),w64 (x := (i : Int) + 1) (by omega) (by omega)]
  rw [bfs] at e
  exact Ev.neg (by omega) e
 | succ f ih =>
  intro o q ho hm hs hq e
  cases q with
  | nil =>
   rw [bfs] at e
   refine Ev.succ ?_
   simp only [impl_groupNumbers.l2]
   rw [w64 (x := nx + 1) (by omega) (by omega),w64 (x := (i : Int) + 1) (by omega) (by omega)]
   exact Ev.neg (by simp) e
  | cons a q =>
   rw [bfs] at e
   refine Ev.succ ?_
   simp only [impl_groupNumbers.l2]
   have ha : rd (a :: q) 0 = a := rfl
   have hdr : (a :: q).drop (1 : Int).toNat = q := rfl
   have hin := hq a List.mem_cons_self
   have hq2 : ∀ n ∈ q,0 ≤ n ∧ n < (cs.length : Int) := fun n hn => hq n (List.mem_cons_of_mem _ hn)
   have hnear := near_in h hin.1 hin.2
   rw [ha,hdr]
   simp only [List.length_cons] at hm hs
   refine Ev.pos (by simp only [List.length_cons]; omega) (Ev.pos (by simp only [List.length_cons]; omega) (Ev.pos (by simp only [List.length_cons]; omega) (Ev.bind (besideOf_ev h hin.1 hin.2) ?_)))
   refine groupNumbers_l3 h hx (near R C a) hnear (near_len _ _ _) i r _ 0 o q (Nat.zero_add _) ho (by omega) ?_
   rw [List.drop_zero]
   have hsum := visit_sum cs hx (near R C a) o q (fun n hn => by rw [ho]; exact hnear n hn)
   exact ih _ _ (by rw [visit_len]; exact ho) (by omega) (by omega) (visit_in cs nx _ _ o q hnear hq2) e
theorem groupNumbers_l1 {R C : Int} {cs : List S88} (h : GoodB R C cs) :
  ∀ (m i : Nat) (nx : Int) (o : List Int),i + m = cs.length → 0 ≤ nx → nx ≤ i → o.length = cs.length → Ev (fun k => impl_groupNumbers.l1 k o nx cs (cs.length : Int) i R C cs) (grp R C cs m i nx o) := by
 have l90 := h.len90
 intro m
 induction m with
 | zero =>
  intro i nx o hi h0 h1 ho
  refine Ev.succ ?_
  simp only [impl_groupNumbers.l1]
  rw [grp]
  exact Ev.neg (by omega) (Ev.now _)
 | succ m ih =>
  intro i nx o hi h0 h1 ho
  have e0 := ih (i + 1) nx o (by omega) h0 (by omega) ho
  have jt : Ev (fun k => impl_groupNumbers.j2 k o nx i cs (cs.length : Int) i true R C cs) (grp R C cs m (i + 1) nx o) := by
   refine Ev.succ ?_
   simp only [impl_groupNumbers.j2]
   rw [w64 (x := (i : Int) + 1) (by omega) (by omega)]
   exact Ev.pos (by trivial) e0
  refine Ev.succ ?_
  simp only [impl_groupNumbers.l1]
  rw [grp]
  refine Ev.pos (by omega) (Ev.pos (by omega) (Ev.pos (by omega) (Ev.bind (Ev.val (isGeared_ok _)) ?_)))
  by_cases g1 : geared (rd_T88 cs i) = true
  case neg =>
   rw [if_neg (fun hh => g1 hh.1)]
   exact Ev.neg g1 jt
  refine Ev.pos g1 (Ev.pos (by omega) ?_)
  by_cases g2 : rd o i ≥ 0
  ·rw [if_neg (fun hh => by omega),decide_eq_true g2]
   exact jt
  rw [if_pos ⟨g1,by omega⟩,decide_eq_false g2]
  refine Ev.succ ?_
  simp only [impl_groupNumbers.j2]
  refine Ev.neg (by simp) (Ev.pos (by omega) (Ev.pos (by omega) ?_))
  rw [Int.toNat_natCast]
  have ho2 : (o.set i nx).length = cs.length := by rw [List.length_set]; exact ho
  have hsum : negs (o.set i nx) + 1 = negs o := by
   have hl : i < o.length := by omega
   have hr := rd_at o i hl
   unfold negs
   rw [List.countP_set hl,decide_eq_true (show o[i] < 0 by omega),decide_eq_false (show ¬ nx < 0 by omega)]
   have pos : 0 < o.countP (fun x => decide (x < 0)) := List.countP_pos_iff.2 ⟨o[i],List.getElem_mem hl,by simp; omega⟩
   simp
   omega
  have hle : negs o ≤ o.length := List.countP_le_length
  refine groupNumbers_l2 h h0 (by omega) i (by omega) _ (cs.length + 1) (o.set i nx) [(i : Int)] ho2 (by simp; omega) (by simp; omega) (fun n hn => by rw [List.mem_singleton.1 hn]; omega) ?_
  have e1 := ih (i + 1) (nx + 1) (bfs R C cs nx (cs.length + 1) (o.set i nx) [(i : Int)]) (by omega) (by omega) (by omega) (by rw [bfs_len]; exact ho2)
  exact e1
theorem groupNumbers_ev {R C : Int} {cs : List S88} (h : GoodB R C cs) : Ev (fun k => impl_groupNumbers.f k R C cs) (groupsOf R C cs) := by
 have l90 := h.len90
 have key : ∀ (m i : Nat),i + m = cs.length → Ev (fun k => impl_groupNumbers.l0 k (List.replicate i (-1) ++ List.replicate m 0) (cs.length : Int) i R C cs) (groupsOf R C cs) := by
  intro m
  induction m with
  | zero =>
   intro i hi
   obtain rfl : i = cs.length := by omega
   refine Ev.succ ?_
   simp only [impl_groupNumbers.l0]
   refine Ev.neg (by omega) ?_
   rw [List.replicate_zero,List.append_nil]
   exact groupNumbers_l1 h cs.length 0 0 _ (by omega) (by omega) (by omega) (by simp)
  | succ m ih =>
   intro i hi
   refine Ev.succ ?_
   simp only [impl_groupNumbers.l0]
   refine Ev.pos (by omega) (Ev.pos (by omega) (Ev.pos (by simp; omega) ?_))
   rw [w64 (x := (i : Int) + 1) (by omega) (by omega),Int.toNat_natCast,List.replicate_succ,set_at _ _ _ _ _ (by simp)]
   have e : (List.replicate i (-1 : Int) ++ -1 :: List.replicate m 0) = List.replicate (i + 1) (-1) ++ List.replicate m 0 := by
    rw [List.replicate_succ',List.append_assoc]; rfl
   rw [e]
   exact ih (i + 1) (by omega)
 unfold impl_groupNumbers.f
 refine Ev.pos (by omega) (Ev.pos (by omega) (Ev.bind (Ev.now _) ?_))
 rw [Int.toNat_natCast,List.length_replicate]
 exact key cs.length 0 (by omega)
def flipped (c : S88) : S88 := ⟨c.f0,1 - c.f1⟩
def goes (c : S88) (side : Int) : Int := if c.f0 = 1 then -1 else if c.f0 = 2 then 1 else if c.f0 = 3 ∨ c.f0 = 6 then 2 * c.f1 - 1 else if c.f0 = 4 then -side else 0
def turnAll (g : List Int) (a : Int) (cs : List S88) : List S88 := cs.mapIdx (fun i c => if c.f0 = 6 ∧ rd g i = rd g a then flipped c else c)
def pass (g : List Int) (a : Int) (cs : List S88) : List S88 := if (rd_T88 cs a).f0 = 3 then cs.set a.toNat (flipped (rd_T88 cs a)) else if (rd_T88 cs a).f0 = 6 then turnAll g a cs else cs
def fallGo (R C : Int) (g : List Int) : Nat → Int → Int → Int → List S88 → List Int → Int × Int × Int × List Int × List S88
 | 0,_,col,_,cs,way => (1,R,col,way,cs)
 | m + 1,row,col,side,cs,way => if (rd_T88 cs (row * C + col)).f0 = 5 then (2,row,col,way ++ [row * C + col],cs)
  else if 0 ≤ col + goes (rd_T88 cs (row * C + col)) side ∧ col + goes (rd_T88 cs (row * C + col)) side < C then fallGo R C g m (row + 1) (col + goes (rd_T88 cs (row * C + col)) side) (-goes (rd_T88 cs (row * C + col)) side) (pass g (row * C + col) cs) (way ++ [row * C + col])
  else (3,row,col + goes (rd_T88 cs (row * C + col)) side,way ++ [row * C + col],pass g (row * C + col) cs)
theorem good_state {c : S88} (h : goodCell c = true) : 0 ≤ c.f0 ∧ c.f0 ≤ 7 ∧ 0 ≤ c.f1 ∧ c.f1 ≤ 1 ∧ (c.f1 = 1 → c.f0 = 3 ∨ c.f0 = 6) := by
 unfold goodCell turning at h
 simp only [Bool.and_eq_true,Bool.or_eq_true,decide_eq_true_eq,inR_iff] at h
 omega
theorem good_flipped {c : S88} (h : goodCell c = true) (ht : c.f0 = 3 ∨ c.f0 = 6) : goodCell (flipped c) = true := by
 have := good_state h
 unfold goodCell turning flipped
 simp only [Bool.and_eq_true,Bool.or_eq_true,decide_eq_true_eq,inR_iff]
 omega
theorem goes_in {c : S88} (h : goodCell c = true) {side : Int} (h0 : -1 ≤ side) (h1 : side ≤ 1) : -1 ≤ goes c side ∧ goes c side ≤ 1 := by
 have := good_state h
 unfold goes
 split
 ·omega
 split
 ·omega
 split
 ·omega
 split <;> omega
theorem rdC_mem {cs : List S88} {a : Int} (h0 : 0 ≤ a) (h1 : a < (cs.length : Int)) : rd_T88 cs a ∈ cs := by
 have := rdC_at cs a.toNat (by omega)
 rw [Int.toNat_of_nonneg h0] at this
 rw [this]
 exact List.getElem_mem _
theorem turnAll_len (g : List Int) (a : Int) (cs : List S88) : (turnAll g a cs).length = cs.length := List.length_mapIdx
theorem pass_len (g : List Int) (a : Int) (cs : List S88) : (pass g a cs).length = cs.length := by
 unfold pass
 split
 ·exact List.length_set
 split
 ·exact turnAll_len _ _ _
 ·rfl
theorem turnAll_good {g : List Int} {a : Int} {cs : List S88} (h : ∀ c ∈ cs,goodCell c = true) : ∀ c ∈ turnAll g a cs,goodCell c = true := by
 intro c hc
 obtain ⟨i,hi,he⟩ := List.mem_iff_getElem.1 hc
 unfold turnAll at he hi
 rw [List.length_mapIdx] at hi
 rw [List.getElem_mapIdx] at he
 rw [← he]
 split
 ·rename_i hg
  exact good_flipped (h _ (List.getElem_mem _)) (Or.inr hg.1)
 ·exact h _ (List.getElem_mem _)
theorem pass_good {g : List Int} {a : Int} {cs : List S88} (h0 : 0 ≤ a) (h1 : a < (cs.length : Int)) (h : ∀ c ∈ cs,goodCell c = true) : ∀ c ∈ pass g a cs,goodCell c = true := by
 unfold pass
 intro c hc
 split at hc
 ·rename_i h3
  rcases List.mem_or_eq_of_mem_set hc with hc | rfl
  ·exact h _ hc
  ·exact good_flipped (h _ (rdC_mem h0 h1)) (Or.inl h3)
 split at hc
 ·exact turnAll_good h _ hc
 ·exact h _ hc
theorem GoodB.pass {R C : Int} {cs : List S88} (h : GoodB R C cs) (g : List Int) {a : Int} (h0 : 0 ≤ a) (h1 : a < (cs.length : Int)) : GoodB R C (pass g a cs) :=
 ⟨h.r1,h.r2,h.c1,h.c2,by rw [pass_len]; exact h.len,pass_good h0 h1 h.good⟩
theorem paTurn_ok {c : S88} (h : goodCell c = true) : spec_paTurn.f c.f0 c.f1 = some ((flipped c).f0,(flipped c).f1) := by
 have := good_state h
 unfold spec_paTurn.f flipped
 rw [w64 (by omega) (by omega)]
theorem turnAll_get (g : List Int) (a : Int) (cs : List S88) (i : Nat) (hi : i < cs.length) : ∀ h : i < (turnAll g a cs).length,(turnAll g a cs)[i] = if cs[i].f0 = 6 ∧ rd g i = rd g a then flipped cs[i] else cs[i] := by
 unfold turnAll
 intro h
 rw [List.getElem_mapIdx]
theorem turn_step (g : List Int) (a : Int) (cs : List S88) (i : Nat) (hi : i < cs.length) : ((turnAll g a cs).take i ++ cs.drop i).set i (if cs[i].f0 = 6 ∧ rd g i = rd g a then flipped cs[i] else cs[i]) = (turnAll g a cs).take (i + 1) ++ cs.drop (i + 1) := by
 have hl : i < (turnAll g a cs).length := by rw [turnAll_len]; exact hi
 rw [List.drop_eq_getElem_cons hi,set_at _ _ _ _ _ (by rw [List.length_take]; omega),List.take_succ_eq_append_getElem hl,List.append_assoc]
 rw [turnAll_get g a cs i hi]; rfl
theorem turn_cur (g : List Int) (a : Int) (cs : List S88) (i : Nat) (hi : i < cs.length) : ((turnAll g a cs).take i ++ cs.drop i).length = cs.length ∧ rd_T88 ((turnAll g a cs).take i ++ cs.drop i) (i : Int) = cs[i] := by
 have hl : ((turnAll g a cs).take i ++ cs.drop i).length = cs.length := by
  rw [List.length_append,List.length_take,List.length_drop,turnAll_len]; omega
 refine ⟨hl,?_⟩
 rw [rdC_at _ i (by omega),List.getElem_append_right (by rw [List.length_take,turnAll_len]; omega)]
 rw [List.getElem_drop]
 congr 1
 rw [List.length_take,turnAll_len]
 omega
theorem turnGroup_ev {R C : Int} {cs : List S88} (h : GoodB R C cs) (g : List Int) (hg : g.length = cs.length) {a : Int} (h0 : 0 ≤ a) (h1 : a < (cs.length : Int)) : Ev (fun k => impl_turnGroup.f k R C cs g a) (turnAll g a cs) := by
 have l90 := h.len90
 have key : ∀ (m i : Nat),i + m = cs.length → Ev (fun k => impl_turnGroup.l0 k g a (cs.length : Int) i R C ((turnAll g a cs).take i ++ cs.drop i)) (turnAll g a cs) := by
  intro m
  induction m with
  | zero =>
   intro i hi
   refine Ev.succ ?_
   simp only [impl_turnGroup.l0]
   refine Ev.neg (by omega) (Ev.ret ?_)
   rw [List.take_of_length_le (by rw [turnAll_len]; omega),List.drop_eq_nil_of_le (by omega),List.append_nil]
  | succ m ih =>
   intro i hi
   have hil : i < cs.length := by omega
   obtain ⟨cl,cr⟩ := turn_cur g a cs i hil
   have st := turn_step g a cs i hil
   have hgood := good_state (h.good _ (List.getElem_mem hil))
   refine Ev.succ ?_
   simp only [impl_turnGroup.l0]
   rw [cr,cl,w64 (x := (i : Int) + 1) (by omega) (by omega),w64 (x := 1 - cs[i].f1) (by omega) (by omega),Int.toNat_natCast]
   refine Ev.pos (by omega) (Ev.pos (by omega) (Ev.pos (by omega) ?_))
   have same : ¬ (cs[i].f0 = 6 ∧ rd g i = rd g a) → Ev (fun k => impl_turnGroup.l0 k g a (cs.length : Int) ((i : Int) + 1) R C ((turnAll g a cs).take i ++ cs.drop i)) (turnAll g a cs) := by
    intro hn
    rw [if_neg hn] at st
    have e2 : ((turnAll g a cs).take i ++ cs.drop i).set i cs[i] = (turnAll g a cs).take i ++ cs.drop i := by
     rw [List.drop_eq_getElem_cons hil,set_at _ _ _ _ _ (by rw [List.length_take,turnAll_len]; omega)]
    rw [e2] at st
    rw [st]
    exact ih (i + 1) (by omega)
   by_cases h6 : cs[i].f0 = 6
   ·refine Ev.pos h6 (Ev.pos (by omega) (Ev.pos h0 (Ev.pos (by omega) ?_)))
    by_cases hq : rd g i = rd g a
    ·rw [if_pos ⟨h6,hq⟩] at st
     refine Ev.pos hq ?_
     have e3 : (⟨cs[i].f0,1 - cs[i].f1⟩ : S88) = flipped cs[i] := rfl
     rw [e3,st]
     exact ih (i + 1) (by omega)
    ·exact Ev.neg hq (same (fun hh => hq hh.2))
   ·exact Ev.neg h6 (same (fun hh => h6 hh.1))
 unfold impl_turnGroup.f
 have := key cs.length 0 (by omega)
 rwa [List.take_zero,List.drop_zero,List.nil_append] at this
theorem flPass_ev {R C : Int} {cs : List S88} (h : GoodB R C cs) (g : List Int) (hg : g.length = cs.length) {a : Int} (h0 : 0 ≤ a) (h1 : a < (cs.length : Int)) : Ev (fun k => spec_flPass.f k R C cs g a) (pass g a cs) := by
 have l90 := h.len90
 have key : ∀ (m i : Nat),i + m = cs.length → Ev (fun k => spec_flPass.l0 k g a (cs.length : Int) i R C ((turnAll g a cs).take i ++ cs.drop i)) (turnAll g a cs) := by
  intro m
  induction m with
  | zero =>
   intro i hi
   refine Ev.succ ?_
   simp only [spec_flPass.l0]
   refine Ev.neg (by omega) (Ev.ret ?_)
   rw [List.take_of_length_le (by rw [turnAll_len]; omega),List.drop_eq_nil_of_le (by omega),List.append_nil]
  | succ m ih =>
   intro i hi
   have hil : i < cs.length := by omega
   obtain ⟨cl,cr⟩ := turn_cur g a cs i hil
   have st := turn_step g a cs i hil
   refine Ev.succ ?_
   simp only [spec_flPass.l0]
   rw [cr,cl,w64 (x := (i : Int) + 1) (by omega) (by omega),Int.toNat_natCast]
   refine Ev.pos (by omega) (Ev.pos (by omega) (Ev.pos (by omega) ?_))
   have same : ¬ (cs[i].f0 = 6 ∧ rd g i = rd g a) → Ev (fun k => spec_flPass.l0 k g a (cs.length : Int) ((i : Int) + 1) R C ((turnAll g a cs).take i ++ cs.drop i)) (turnAll g a cs) := by
    intro hn
    rw [if_neg hn] at st
    have e2 : ((turnAll g a cs).take i ++ cs.drop i).set i cs[i] = (turnAll g a cs).take i ++ cs.drop i := by
     rw [List.drop_eq_getElem_cons hil,set_at _ _ _ _ _ (by rw [List.length_take,turnAll_len]; omega)]
    rw [e2] at st
    rw [st]
    exact ih (i + 1) (by omega)
   by_cases h6 : cs[i].f0 = 6
   ·refine Ev.pos h6 (Ev.pos (by omega) (Ev.pos h0 (Ev.pos (by omega) ?_)))
    by_cases hq : rd g i = rd g a
    ·rw [if_pos ⟨h6,hq⟩] at st
     refine Ev.pos hq (Ev.bind (Ev.val (paTurn_ok (h.good _ (List.getElem_mem hil)))) ?_)
     have e3 : (⟨(flipped cs[i]).f0,(flipped cs[i]).f1⟩ : S88) = flipped cs[i] := rfl
     rw [e3,st]
     exact ih (i + 1) (by omega)
    ·exact Ev.neg hq (same (fun hh => hq hh.2))
   ·exact Ev.neg h6 (same (fun hh => h6 hh.1))
 unfold spec_flPass.f pass
 refine Ev.pos h0 (Ev.pos h1 ?_)
 by_cases h3 : (rd_T88 cs a).f0 = 3
 ·rw [if_pos h3]
  exact Ev.pos h3 (Ev.bind (Ev.val (paTurn_ok (h.good _ (rdC_mem h0 h1)))) (Ev.now _))
 rw [if_neg h3]
 refine Ev.neg h3 ?_
 by_cases h6 : (rd_T88 cs a).f0 = 6
 ·rw [if_pos h6]
  refine Ev.pos h6 ?_
  have := key cs.length 0 (by omega)
  rwa [List.take_zero,List.drop_zero,List.nil_append] at this
 ·rw [if_neg h6]
  exact Ev.neg h6 (Ev.now _)
theorem paGoes_ev {c : S88} (h : goodCell c = true) {side : Int} (h0 : -1 ≤ side) (h1 : side ≤ 1) : Ev (fun k => spec_paGoes.f k c.f0 c.f1 side) (goes c side) := by
 have hs := good_state h
 unfold spec_paGoes.f goes
 by_cases a1 : c.f0 = 1
 ·rw [if_pos a1]; exact Ev.pos a1 (Ev.now _)
 rw [if_neg a1]
 refine Ev.neg a1 ?_
 by_cases a2 : c.f0 = 2
 ·rw [if_pos a2]; exact Ev.pos a2 (Ev.now _)
 rw [if_neg a2]
 refine Ev.neg a2 ?_
 by_cases a3 : c.f0 = 3
 ·rw [if_pos (Or.inl a3)]
  refine Ev.pos a3 (Ev.succ ?_)
  simp only [spec_paGoes.j0]
  rw [w64 (x := 2 * c.f1) (by omega) (by omega),w64 (by omega) (by omega)]
  exact Ev.pos (by simp [a3]) (Ev.now _)
 refine Ev.neg a3 (Ev.succ ?_)
 simp only [spec_paGoes.j0]
 by_cases a6 : c.f0 = 6
 ·rw [if_pos (Or.inr a6),w64 (x := 2 * c.f1) (by omega) (by omega),w64 (x := 2 * c.f1 - 1) (by omega) (by omega)]
  exact Ev.pos (by simp [a6]) (Ev.now _)
 rw [if_neg (show ¬ (c.f0 = 3 ∨ c.f0 = 6) by omega)]
 refine Ev.neg (by simp [a6]) ?_
 exact Ev.ite (fun _ => Ev.ret (w64 (by omega) (by omega))) (fun _ => Ev.now _)
theorem GoesTo_ev {c : S88} (h : goodCell c = true) {side : Int} (h0 : -1 ≤ side) (h1 : side ≤ 1) : Ev (fun k => impl_GoesTo.f k c.f0 c.f1 side) (if c.f0 = 5 then (0,false) else (goes c side,true)) := by
 have hs := good_state h
 unfold impl_GoesTo.f goes
 refine Ev.bind (Ev.val (IsCell_ok c)) (Ev.pos h (Ev.neg (by omega) (Ev.neg (by omega) (Ev.succ ?_))))
 simp only [impl_GoesTo.j0]
 by_cases a5 : c.f0 = 5
 ·rw [if_pos a5]; exact Ev.pos (by simp [a5]) (Ev.now _)
 rw [if_neg a5]
 refine Ev.neg (by simp [a5]) ?_
 by_cases a1 : c.f0 = 1
 ·rw [if_pos a1]; exact Ev.pos a1 (Ev.now _)
 rw [if_neg a1]
 refine Ev.neg a1 ?_
 by_cases a2 : c.f0 = 2
 ·rw [if_pos a2]; exact Ev.pos a2 (Ev.now _)
 rw [if_neg a2]
 refine Ev.neg a2 ?_
 by_cases a3 : c.f0 = 3
 ·rw [if_pos (Or.inl a3)]
  refine Ev.pos a3 (Ev.succ ?_)
  simp only [impl_GoesTo.j1]
  rw [w64 (x := 2 * c.f1) (by omega) (by omega),w64 (x := 2 * c.f1 - 1) (by omega) (by omega)]
  exact Ev.pos (by simp [a3]) (Ev.now _)
 refine Ev.neg a3 (Ev.succ ?_)
 simp only [impl_GoesTo.j1]
 by_cases a6 : c.f0 = 6
 ·rw [if_pos (Or.inr a6),w64 (x := 2 * c.f1) (by omega) (by omega),w64 (x := 2 * c.f1 - 1) (by omega) (by omega)]
  exact Ev.pos (by simp [a6]) (Ev.now _)
 rw [if_neg (show ¬ (c.f0 = 3 ∨ c.f0 = 6) by omega)]
 refine Ev.neg (by simp [a6]) ?_
 by_cases a4 : c.f0 = 4
 ·refine Ev.pos a4 (Ev.ret ?_)
  rw [w64 (by omega) (by omega),if_pos a4]
 ·exact Ev.neg a4 (Ev.ret (by rw [if_neg a4]))
theorem dropL_ev {R C : Int} (g : List Int) : ∀ (m : Nat) (row col side : Int) (cs : List S88) (way : List Int),GoodB R C cs → g.length = cs.length → row + m = R → 0 ≤ row → 0 ≤ col → col < C → -1 ≤ side → side ≤ 1 → (way.length : Int) ≤ row → Ev (fun k => impl_drop.l0 k g col way side row R C cs) (fallGo R C g m row col side cs way) := by
 intro m
 induction m with
 | zero =>
  intro row col side cs way h hg hr h0 c0 c1 s0 s1 hw
  refine Ev.succ ?_
  simp only [impl_drop.l0]
  exact Ev.neg (by omega) (Ev.now _)
 | succ m ih =>
  intro row col side cs way h hg hr h0 c0 c1 s0 s1 hw
  have b := h.idx h0 (show row < R by omega) c0 c1
  have l90 := h.len90
  have hc2 := h.c2
  have hr2 := h.r2
  have hgc := h.good _ (rdC_mem b.2.2.1 b.2.2.2)
  have hst := good_state hgc
  have hgo := goes_in hgc s0 s1
  have hp := h.pass g b.2.2.1 b.2.2.2
  refine Ev.succ ?_
  simp only [impl_drop.l0,fallGo]
  rw [w64 (x := row * C) (by omega) (by omega),w64 (x := row * C + col) (by omega) (by omega)]
  refine Ev.pos (by omega) (Ev.pos (by omega) (Ev.bind (Ev.now _) (Ev.pos b.2.2.1 (Ev.pos b.2.2.2 (Ev.bind (GoesTo_ev hgc s0 s1) ?_)))))
  by_cases a5 : (rd_T88 cs (row * C + col)).f0 = 5
  ·rw [if_pos a5,if_pos a5]
   exact Ev.neg (by simp) (Ev.now _)
  rw [if_neg a5,if_neg a5]
  refine Ev.pos (by trivial) ?_
  have tail : ∀ cs' : List S88,cs' = pass g (row * C + col) cs → Ev (fun k => if wrap64 (col + goes (rd_T88 cs (row * C + col)) side) < 0 then some (3,row,wrap64 (col + goes (rd_T88 cs (row * C + col)) side),way ++ [row * C + col],cs') else if wrap64 (col + goes (rd_T88 cs (row * C + col)) side) ≥ C then some (3,row,wrap64 (col + goes (rd_T88 cs (row * C + col)) side),way ++ [row * C + col],cs') else impl_drop.l0 k g (wrap64 (col + goes (rd_T88 cs (row * C + col)) side)) (way ++ [row * C + col]) (wrap64 (-goes (rd_T88 cs (row * C + col)) side)) (wrap64 (row + 1)) R C cs')
    (if 0 ≤ col + goes (rd_T88 cs (row * C + col)) side ∧ col + goes (rd_T88 cs (row * C + col)) side < C then fallGo R C g m (row + 1) (col + goes (rd_T88 cs (row * C + col)) side) (-goes (rd_T88 cs (row * C + col)) side) (pass g (row * C + col) cs) (way ++ [row * C + col]) else (3,row,col + goes (rd_T88 cs (row * C + col)) side,way ++ [row * C + col],pass g (row * C + col) cs)) := by
   intro cs' e
   subst e
   rw [w64 (x := col + goes (rd_T88 cs (row * C + col)) side) (by omega) (by omega),w64 (x := -goes (rd_T88 cs (row * C + col)) side) (by omega) (by omega),w64 (x := row + 1) (by omega) (by omega)]
   by_cases n0 : col + goes (rd_T88 cs (row * C + col)) side < 0
   ·rw [if_neg (fun hh => by omega)]; exact Ev.pos n0 (Ev.now _)
   refine Ev.neg n0 ?_
   by_cases n1 : col + goes (rd_T88 cs (row * C + col)) side ≥ C
   ·rw [if_neg (fun hh => by omega)]; exact Ev.pos n1 (Ev.now _)
   rw [if_pos ⟨by omega,by omega⟩]
   refine Ev.neg n1 (ih _ _ _ _ _ hp (by rw [pass_len]; exact hg) (by omega) (by omega) (by omega) (by omega) (by omega) (by omega) ?_)
   rw [List.length_append]
   simp
   omega
  by_cases a3 : (rd_T88 cs (row * C + col)).f0 = 3
  ·refine Ev.pos a3 (Ev.succ ?_)
   simp only [impl_drop.j1]
   refine Ev.neg (by omega) (tail _ ?_)
   unfold pass
   rw [if_pos a3,w64 (x := 1 - (rd_T88 cs (row * C + col)).f1) (by omega) (by omega)]
   rfl
  refine Ev.neg a3 (Ev.succ ?_)
  simp only [impl_drop.j1]
  by_cases a6 : (rd_T88 cs (row * C + col)).f0 = 6
  ·refine Ev.pos a6 (Ev.bind (turnGroup_ev h g hg b.2.2.1 b.2.2.2) (tail _ ?_))
   unfold pass
   rw [if_neg a3,if_pos a6]
  ·refine Ev.neg a6 (tail _ ?_)
   unfold pass
   rw [if_neg a3,if_neg a6]
theorem drop_ev {R C : Int} {g : List Int} {cs : List S88} (h : GoodB R C cs) (hg : g.length = cs.length) {col : Int} (c0 : 0 ≤ col) (c1 : col < C) : Ev (fun k => impl_drop.f k R C cs g col) (fallGo R C g R.toNat 0 col 0 cs []) := by
 have hr := h.r1
 exact dropL_ev g R.toNat 0 col 0 cs [] h hg (by omega) (by omega) c0 c1 (by omega) (by omega) (by simp)
def wayL (C : Int) (way : List Int) : List (List Int) := way.map (fun a => [a / C,a % C])
theorem wayL_snoc {C row col : Int} (c0 : 0 ≤ col) (c1 : col < C) (way : List Int) : wayL C (way ++ [row * C + col]) = wayL C way ++ [[row,col]] := by
 unfold wayL
 rw [List.map_append,List.map_cons,List.map_nil]
 have e : row * C + col = col + row * C := by omega
 have e1 : (row * C + col) / C = row := by rw [e,Int.add_mul_ediv_right _ _ (by omega),Int.ediv_eq_zero_of_lt c0 c1,Int.zero_add]
 have e2 : (row * C + col) % C = col := by rw [e,Int.add_mul_emod_self_right]; exact Int.emod_eq_of_lt c0 c1
 rw [e1,e2]
theorem flGoL_ev {R C : Int} (g : List Int) (o : List S88) : ∀ (m : Nat) (row col side : Int) (cs : List S88) (way : List Int),GoodB R C cs → g.length = cs.length → row + m = R → 0 ≤ row → 0 ≤ col → col < C → -1 ≤ side → side ≤ 1 → (way.length : Int) ≤ row → Ev (fun k => spec_flGo.l0 k g col (wayL C way) side row R C o R C cs) ((fallGo R C g m row col side cs way).1,(fallGo R C g m row col side cs way).2.1,(fallGo R C g m row col side cs way).2.2.1,R,C,(fallGo R C g m row col side cs way).2.2.2.2,wayL C (fallGo R C g m row col side cs way).2.2.2.1) := by
 intro m
 induction m with
 | zero =>
  intro row col side cs way h hg hr h0 c0 c1 s0 s1 hw
  refine Ev.succ ?_
  simp only [spec_flGo.l0]
  exact Ev.neg (by omega) (Ev.now _)
 | succ m ih =>
  intro row col side cs way h hg hr h0 c0 c1 s0 s1 hw
  have b := h.idx h0 (show row < R by omega) c0 c1
  have l90 := h.len90
  have hc2 := h.c2
  have hr2 := h.r2
  have hgc := h.good _ (rdC_mem b.2.2.1 b.2.2.2)
  have hst := good_state hgc
  have hgo := goes_in hgc s0 s1
  have hp := h.pass g b.2.2.1 b.2.2.2
  refine Ev.succ ?_
  simp only [spec_flGo.l0,fallGo]
  have hwl : (wayL C way).length = way.length := by unfold wayL; exact List.length_map _
  rw [hwl,← wayL_snoc c0 c1]
  refine Ev.pos (by omega) (Ev.pos (by omega) (Ev.bind (Ev.now _) (Ev.bind (Ev.val (boAt_ok h h0 (show row < R by omega) c0 c1)) ?_)))
  by_cases a5 : (rd_T88 cs (row * C + col)).f0 = 5
  ·rw [if_pos a5]
   exact Ev.pos a5 (Ev.now _)
  rw [if_neg a5]
  refine Ev.neg a5 (Ev.bind (paGoes_ev hgc s0 s1) ?_)
  rw [w64 (x := row * C) (by omega) (by omega),w64 (x := row * C + col) (by omega) (by omega),w64 (x := col + goes (rd_T88 cs (row * C + col)) side) (by omega) (by omega),w64 (x := C - 1) (by omega) (by omega),w64 (x := -goes (rd_T88 cs (row * C + col)) side) (by omega) (by omega),w64 (x := row + 1) (by omega) (by omega)]
  refine Ev.bind (flPass_ev h g hg b.2.2.1 b.2.2.2) (Ev.bind (Ev.val (l1In_ok _ _ _)) ?_)
  by_cases n : 0 ≤ col + goes (rd_T88 cs (row * C + col)) side ∧ col + goes (rd_T88 cs (row * C + col)) side < C
  ·rw [if_pos n]
   refine Ev.pos (inR_iff.2 ⟨n.1,by omega⟩) (ih _ _ _ _ _ hp (by rw [pass_len]; exact hg) (by omega) (by omega) (by omega) (by omega) (by omega) (by omega) ?_)
   rw [List.length_append]
   simp
   omega
  ·rw [if_neg n]
   exact Ev.neg (fun hh => n (by have := inR_iff.1 hh; omega)) (Ev.now _)
theorem flGo_ev {R C : Int} {g : List Int} {cs : List S88} (h : GoodB R C cs) (hg : g.length = cs.length) {col : Int} (c0 : 0 ≤ col) (c1 : col < C) : Ev (fun k => spec_flGo.f k R C cs g col) ((fallGo R C g R.toNat 0 col 0 cs []).1,(fallGo R C g R.toNat 0 col 0 cs []).2.1,(fallGo R C g R.toNat 0 col 0 cs []).2.2.1,R,C,(fallGo R C g R.toNat 0 col 0 cs []).2.2.2.2,wayL C (fallGo R C g R.toNat 0 col 0 cs []).2.2.2.1) := by
 have hr := h.r1
 have l90 := h.len90
 unfold spec_flGo.f
 refine Ev.bind (Ev.val (boOwn_ok R C cs (by omega))) ?_
 exact flGoL_ev g cs R.toNat 0 col 0 cs [] h hg (by omega) (by omega) c0 c1 (by omega) (by omega) (by simp)
def fallR (R C : Int) (cs : List S88) (col : Int) : Int × Int × Int × List Int × List S88 := fallGo R C (groupsOf R C cs) R.toNat 0 col 0 cs []
theorem flRun_ev {R C : Int} {cs : List S88} (h : GoodB R C cs) {col : Int} (c0 : 0 ≤ col) (c1 : col < C) : Ev (fun k => spec_flRun.f k R C cs col) ((fallR R C cs col).1,(fallR R C cs col).2.1,(fallR R C cs col).2.2.1,R,C,(fallR R C cs col).2.2.2.2) := by
 unfold spec_flRun.f
 exact Ev.bind (ggGroups_ev h) (Ev.bind (flGo_ev h (groupsOf_len R C cs) c0 c1) (Ev.now _))
def validE (R C : Int) (cs : List S88) (col : Int) : Bool := boardGood R C cs && inR col 0 (C - 1)
theorem flHas_ev (R C : Int) (cs : List S88) (col : Int) (hl : cs.length ≤ 1048576) : Ev (fun k => spec_flHas.f k R C cs col) (validE R C cs col) := by
 unfold spec_flHas.f validE
 refine Ev.bind (boGood_ev R C cs hl) ?_
 by_cases h : boardGood R C cs = true
 ·have hb := GoodB.of h
  have := hb.c1
  have := hb.c2
  rw [h,Bool.true_and,w64 (x := C - 1) (by omega) (by omega)]
  exact Ev.pos (by trivial) (Ev.bind (Ev.val (l1In_ok _ _ _)) (Ev.now _))
 ·exact Ev.neg h (Ev.ret (by rw [Bool.eq_false_iff.mpr h,Bool.false_and]))
theorem validEntry_ev (R C : Int) (cs : List S88) (col : Int) : Ev (fun k => impl_validEntry.f k R C cs col) (validE R C cs col) := by
 unfold impl_validEntry.f validE
 refine Ev.bind (IsBoard_ev R C cs) ?_
 by_cases h : boardGood R C cs = true
 ·have hb := GoodB.of h
  rw [h,Bool.true_and]
  refine Ev.pos (by trivial) ?_
  unfold inR
  by_cases a : col ≥ 0
  ·refine Ev.pos a (Ev.ret ?_)
   rw [decide_eq_true a,Bool.true_and]
   exact decide_eq_decide.2 ⟨fun _ => by omega,fun _ => by omega⟩
  ·refine Ev.neg a (Ev.ret ?_)
   rw [decide_eq_false (show ¬ 0 ≤ col by omega),Bool.false_and]
 ·exact Ev.neg h (Ev.ret (by rw [Bool.eq_false_iff.mpr h,Bool.false_and]))
theorem validE_of {R C : Int} {cs : List S88} {col : Int} (h : validE R C cs col = true) : GoodB R C cs ∧ 0 ≤ col ∧ col < C := by
 unfold validE at h
 rw [Bool.and_eq_true,inR_iff] at h
 exact ⟨GoodB.of h.1,h.2.1,by omega⟩
theorem validE_to {R C : Int} {cs : List S88} {col : Int} (h : GoodB R C cs) (h0 : 0 ≤ col) (h1 : col < C) : validE R C cs col = true := by
 unfold validE
 rw [Bool.and_eq_true,inR_iff]
 exact ⟨h.to,h0,by omega⟩
theorem FallOf_ev (R C : Int) (cs : List S88) (col : Int) : Ev (fun k => impl_FallOf.f k R C cs col) (if validE R C cs col = true then ((fallR R C cs col).1,(fallR R C cs col).2.1,(fallR R C cs col).2.2.1,true) else (0,0,0,false)) := by
 unfold impl_FallOf.f
 refine Ev.bind (validEntry_ev R C cs col) (Ev.ite (fun h => ?_) (fun _ => Ev.now _))
 obtain ⟨hb,h0,h1⟩ := validE_of h
 have l90 := hb.len90
 exact Ev.bind (Ev.val (copyBoard_ok R C cs (by omega))) (Ev.bind (groupNumbers_ev hb) (Ev.bind (drop_ev hb (groupsOf_len R C cs) h0 h1) (Ev.now _)))
def valR (R C : Int) (cs : List S88) (s c : Int) : Int := if (fallR R C cs c).1 = 1 then (if (fallR R C cs c).2.2.1 ≥ s then 1 else 0) else -1
theorem vfValue_ev {R C : Int} {cs : List S88} (h : GoodB R C cs) (s : Int) {c : Int} (c0 : 0 ≤ c) (c1 : c < C) : Ev (fun k => spec_vfValue.f k R C cs s c) (valR R C cs s c) := by
 unfold spec_vfValue.f valR
 exact Ev.bind (flRun_ev h c0 c1) (Ev.ite (fun _ => Ev.ite (fun _ => Ev.now _) (fun _ => Ev.now _)) (fun _ => Ev.now _))
theorem valueOfEntry_ev {R C : Int} {cs : List S88} (h : GoodB R C cs) (s : Int) {c : Int} (c0 : 0 ≤ c) (c1 : c < C) : Ev (fun k => impl_valueOfEntry.f k R C cs s c) (valR R C cs s c) := by
 have hf := FallOf_ev R C cs c
 rw [if_pos (validE_to h c0 c1)] at hf
 unfold impl_valueOfEntry.f valR
 exact Ev.bind hf (Ev.ite (fun _ => Ev.ite (fun _ => Ev.now _) (fun _ => Ev.now _)) (fun _ => Ev.now _))
theorem l1All_ev (l : List Int) (lo hi : Int) (hl : l.length ≤ 4611686018427387904) : Ev (fun k => spec_l1All.f k l lo hi) (l.all fun x => inR x lo hi) := by
 have key : ∀ (n i : Nat),i + n = l.length → Ev (fun k => spec_l1All.l0 k lo hi l (l.length : Int) i) ((l.drop i).all fun x => inR x lo hi) := by
  intro n
  induction n with
  | zero =>
   intro i hi
   refine Ev.succ ?_
   simp only [spec_l1All.l0]
   refine Ev.neg (by omega) (Ev.ret ?_)
   rw [List.drop_eq_nil_of_le (by omega)]; rfl
  | succ n ih =>
   intro i hi'
   refine Ev.succ ?_
   simp only [spec_l1All.l0]
   refine Ev.pos (by omega) (Ev.pos (by omega) (Ev.pos (by omega) ?_))
   rw [rd_at l i (by omega),w64 (by omega) (by omega),List.drop_eq_getElem_cons (show i < l.length by omega)]
   have e := ih (i + 1) (by omega)
   refine Ev.bind (Ev.val (l1In_ok _ _ _)) ?_
   by_cases h : inR l[i] lo hi = true
   ·refine Ev.pos h (Ev.cast e ?_)
    rw [List.all_cons,h,Bool.true_and]
   ·refine Ev.neg h (Ev.ret ?_)
    rw [List.all_cons,Bool.eq_false_iff.mpr h]; rfl
 exact key l.length 0 (by omega)
def pow2 (n : Int) : Int := if n = 0 then 1 else if n = 1 then 2 else if n = 2 then 4 else if n = 3 then 8 else 16
theorem shl_pow {n : Int} (h0 : 0 ≤ n) (h1 : n ≤ 4) : shl .i64 1 n = pow2 n ∧ IntKind.u64.wrap n = n := by
 have : n = 0 ∨ n = 1 ∨ n = 2 ∨ n = 3 ∨ n = 4 := by omega
 rcases this with rfl | rfl | rfl | rfl | rfl <;> decide
def tgood (n : Int) (l : List Int) : Bool := inR n 0 4 && (decide ((l.length : Int) = pow2 n) && l.all fun x => inR x 0 1)
theorem ttGood_ev (n : Int) (l : List Int) : Ev (fun k => spec_ttGood.f k n l) (tgood n l) := by
 unfold spec_ttGood.f spec_ttInputs.f tgood
 refine Ev.bind (a := inR n 0 4) (Ev.val (by rw [l1In_ok]; rfl)) ?_
 by_cases g : inR n 0 4 = true
 case neg => exact Ev.neg g (Ev.ret (by rw [Bool.not_eq_true] at g; rw [g]; rfl))
 refine Ev.pos g ?_
 have hn := inR_iff.1 g
 have hs := shl_pow hn.1 hn.2
 rw [hs.2,hs.1,g]
 refine Ev.pos hn.1 ?_
 by_cases a : (l.length : Int) = pow2 n
 ·have hl : pow2 n ≤ 16 := by unfold pow2; split <;> (try split) <;> (try split) <;> (try split) <;> omega
  exact Ev.pos a (Ev.bind (l1All_ev l 0 1 (by omega)) (Ev.ret (by rw [decide_eq_true a]; rfl)))
 ·exact Ev.neg a (Ev.ret (by rw [decide_eq_false a]; rfl))
theorem areBits_ev (l : List Int) (hl : l.length ≤ 1000000) : Ev (fun k => impl_areBits.f k l) (l.all fun x => inR x 0 1) := by
 have key : ∀ (m i : Nat),i + m = l.length → Ev (fun k => impl_areBits.l0 k l (l.length : Int) i) ((l.drop i).all fun x => inR x 0 1) := by
  intro m
  induction m with
  | zero =>
   intro i hi
   refine Ev.succ ?_
   simp only [impl_areBits.l0]
   refine Ev.neg (by omega) (Ev.ret ?_)
   rw [List.drop_eq_nil_of_le (by omega)]; rfl
  | succ m ih =>
   intro i hi
   have hlt : i < l.length := by omega
   refine Ev.succ ?_
   simp only [impl_areBits.l0]
   rw [rd_at l i hlt,w64 (by omega) (by omega),List.drop_eq_getElem_cons hlt,List.all_cons]
   refine Ev.pos (by omega) (Ev.pos (by omega) (Ev.pos (by omega) ?_))
   by_cases a : l[i] = 0
   ·refine Ev.pos a (Ev.cast (ih (i + 1) (by omega)) ?_)
    rw [inR_iff.2 (show 0 ≤ l[i] ∧ l[i] ≤ 1 by omega),Bool.true_and]
   refine Ev.neg a ?_
   by_cases b : l[i] = 1
   ·refine Ev.pos b (Ev.cast (ih (i + 1) (by omega)) ?_)
    rw [inR_iff.2 (show 0 ≤ l[i] ∧ l[i] ≤ 1 by omega),Bool.true_and]
   ·refine Ev.neg b (Ev.ret ?_)
    have : inR l[i] 0 1 = false := Bool.eq_false_iff.mpr (fun q => by have := inR_iff.1 q; omega)
    rw [this,Bool.false_and]
 exact key l.length 0 (by omega)
theorem IsTable_ev (n : Int) (l : List Int) : Ev (fun k => impl_IsTable.f k n l) (tgood n l) := by
 unfold impl_IsTable.f tgood
 by_cases a1 : n ≥ 0
 case neg => exact Ev.neg a1 (Ev.ret (by rw [inR_lo (by omega)]; rfl))
 refine Ev.pos a1 ?_
 by_cases a2 : n ≤ 4
 case neg => exact Ev.neg a2 (Ev.ret (by rw [inR_hi (by omega)]; rfl))
 refine Ev.pos a2 (Ev.pos a1 ?_)
 rw [(shl_pow a1 a2).1,inR_iff.2 ⟨a1,a2⟩]
 by_cases a : (l.length : Int) = pow2 n
 ·have hl : pow2 n ≤ 16 := by unfold pow2; split <;> (try split) <;> (try split) <;> (try split) <;> omega
  exact Ev.pos a (Ev.bind (areBits_ev l (by omega)) (Ev.ret (by rw [decide_eq_true a]; rfl)))
 ·exact Ev.neg a (Ev.ret (by rw [decide_eq_false a]; rfl))
def wrongL : List Int → List Int → Int → List Int
 | [],_,_ => []
 | _ :: _,[],_ => []
 | x :: xs,y :: ys,i => if x = y then wrongL xs ys (i + 1) else i :: wrongL xs ys (i + 1)
theorem wrongL_len : ∀ (a b : List Int) (i : Int),(wrongL a b i).length ≤ a.length
 | [],b,i => by simp [wrongL]
 | _ :: _,[],i => by simp [wrongL]
 | x :: xs,y :: ys,i => by
  have := wrongL_len xs ys (i + 1)
  rw [wrongL]
  split
  ·simp only [List.length_cons]; omega
  ·simp only [List.length_cons]; omega
theorem vfWrong_ev (a b : List Int) (hab : a.length ≤ b.length) (ha : a.length ≤ 1000000) : Ev (fun k => spec_vfWrong.f k a b) (wrongL a b 0) := by
 have key : ∀ (m i : Nat) (o : List Int),i + m = a.length → o.length ≤ i → Ev (fun k => spec_vfWrong.l0 k b o a (a.length : Int) i) (o ++ wrongL (a.drop i) (b.drop i) i) := by
  intro m
  induction m with
  | zero =>
   intro i o hi ho
   refine Ev.succ ?_
   simp only [spec_vfWrong.l0]
   refine Ev.neg (by omega) (Ev.ret ?_)
   rw [List.drop_eq_nil_of_le (show a.length ≤ i by omega)]; simp [wrongL]
  | succ m ih =>
   intro i o hi ho
   have hlt : i < a.length := by omega
   have hlt2 : i < b.length := by omega
   refine Ev.succ ?_
   simp only [spec_vfWrong.l0]
   rw [rd_at a i hlt,rd_at b i hlt2,w64 (by omega) (by omega),List.drop_eq_getElem_cons hlt,List.drop_eq_getElem_cons hlt2,wrongL]
   refine Ev.pos (by omega) (Ev.pos (by omega) (Ev.pos (by omega) (Ev.pos (by omega) ?_)))
   by_cases e : a[i] = b[i]
   ·refine Ev.pos e (Ev.cast (ih (i + 1) o (by omega) (by omega)) ?_)
    rw [if_pos e]; rfl
   ·refine Ev.neg e (Ev.pos (by omega) (Ev.cast (ih (i + 1) (o ++ [(i : Int)]) (by omega) (by simp; omega)) ?_))
    rw [if_neg e,List.append_assoc]; rfl
 exact key a.length 0 [] (by omega) (by simp)
theorem wrongIndices_ev (a : List Int) (n : Int) (b : List Int) (hab : a.length ≤ b.length) (ha : a.length ≤ 1000000) : Ev (fun k => impl_wrongIndices.f k a n b) (wrongL a b 0) := by
 have key : ∀ (m i : Nat) (o : List Int),i + m = a.length → o.length ≤ i → Ev (fun k => impl_wrongIndices.l0 k o a (a.length : Int) i n b) (o ++ wrongL (a.drop i) (b.drop i) i) := by
  intro m
  induction m with
  | zero =>
   intro i o hi ho
   refine Ev.succ ?_
   simp only [impl_wrongIndices.l0]
   refine Ev.neg (by omega) (Ev.ret ?_)
   rw [List.drop_eq_nil_of_le (show a.length ≤ i by omega)]; simp [wrongL]
  | succ m ih =>
   intro i o hi ho
   have hlt : i < a.length := by omega
   have hlt2 : i < b.length := by omega
   refine Ev.succ ?_
   simp only [impl_wrongIndices.l0]
   rw [rd_at a i hlt,rd_at b i hlt2,w64 (by omega) (by omega),List.drop_eq_getElem_cons hlt,List.drop_eq_getElem_cons hlt2,wrongL]
   refine Ev.pos (by omega) (Ev.pos (by omega) (Ev.pos (by omega) (Ev.pos (by omega) ?_)))
   by_cases e : a[i] = b[i]
   ·refine Ev.pos e (Ev.cast (ih (i + 1) o (by omega) (by omega)) ?_)
    rw [if_pos e]; rfl
   ·refine Ev.neg e (Ev.pos (by omega) (Ev.cast (ih (i + 1) (o ++ [(i : Int)]) (by omega) (by simp; omega)) ?_))
    rw [if_neg e,List.append_assoc]; rfl
 exact key a.length 0 [] (by omega) (by simp)
def mkI : Nat → Int → List Int
 | 0,_ => []
 | n + 1,k => k :: mkI n (k + 1)
def mkC : Nat → Int → List S88
 | 0,_ => []
 | n + 1,k => ⟨k,k + 1⟩ :: mkC n (k + 2)
theorem mkI_len : ∀ (n : Nat) (k : Int),(mkI n k).length = n
 | 0,_ => rfl
 | n + 1,k => by rw [mkI,List.length_cons,mkI_len n]
theorem markIL_ev : ∀ (m : Nat) (pre l : List Int) (k : Int),l.length = m → pre.length + m ≤ 4294967296 → 0 ≤ k → k + m ≤ 4294967296 → Ev (fun r => laws_markIntS.l0 r (pre ++ l) k (pre.length : Int)) (k + m,pre ++ mkI m k) := by
 intro m
 induction m with
 | zero =>
  intro pre l k hl h1 h2 h3
  obtain rfl := List.eq_nil_of_length_eq_zero hl
  refine Ev.succ ?_
  simp only [laws_markIntS.l0]
  rw [List.append_nil]
  exact Ev.neg (by omega) (Ev.ret (by simp [mkI]))
 | succ m ih =>
  intro pre l k hl h1 h2 h3
  cases l with
  | nil => simp at hl
  | cons x l =>
   simp only [List.length_cons] at hl
   refine Ev.succ ?_
   simp only [laws_markIntS.l0]
   refine Ev.pos (by simp; omega) (Ev.pos (by omega) ?_)
   rw [Int.toNat_natCast,set_at _ _ _ _ _ rfl,w64 (x := k + 1) (by omega) (by omega),w64 (x := (pre.length : Int) + 1) (by omega) (by omega)]
   have e := ih (pre ++ [k]) l (k + 1) (by omega) (by simp; omega) (by omega) (by omega)
   rw [List.append_assoc,List.length_append] at e
   have e2 : (((pre.length + [k].length : Nat)) : Int) = (pre.length : Int) + 1 := by simp
   rw [e2] at e
   refine Ev.cast e ?_
   rw [mkI,List.append_assoc]
   refine Prod.ext ?_ rfl
   simp
   omega
theorem markIntS_ev (l : List Int) (k : Int) (h1 : l.length ≤ 2147483648) (h2 : 0 ≤ k) (h3 : k ≤ 2147483648) : Ev (fun r => laws_markIntS.f r l k) (k + l.length,mkI l.length k) := by
 have := markIL_ev l.length [] l k rfl (by simp; omega) h2 (by omega)
 exact this
theorem heldIL_ev : ∀ (m : Nat) (pre : List Int) (k : Int),pre.length + m ≤ 4294967296 → 0 ≤ k → k + m ≤ 4294967296 → Ev (fun r => laws_heldIntS.l0 r (pre ++ mkI m k) k (pre.length : Int)) (k + m) := by
 intro m
 induction m with
 | zero =>
  intro pre k h1 h2 h3
  refine Ev.succ ?_
  simp only [laws_heldIntS.l0,mkI]
  exact Ev.neg (by simp) (Ev.ret (by simp))
 | succ m ih =>
  intro pre k h1 h2 h3
  refine Ev.succ ?_
  simp only [laws_heldIntS.l0]
  have hr : rd (pre ++ mkI (m + 1) k) (pre.length : Int) = k := by
   rw [rd_at _ _ (by rw [List.length_append,mkI_len]; omega),List.getElem_append_right (Nat.le_refl _)]
   simp [mkI]
  rw [hr,w64 (x := k + 1) (by omega) (by omega),w64 (x := (pre.length : Int) + 1) (by omega) (by omega)]
  refine Ev.pos (by rw [List.length_append,mkI_len]; omega) (Ev.pos (by omega) (Ev.pos rfl ?_))
  have e := ih (pre ++ [k]) (k + 1) (by simp; omega) (by omega) (by omega)
  rw [List.append_assoc,List.length_append] at e
  have e2 : (((pre.length + [k].length : Nat)) : Int) = (pre.length : Int) + 1 := by simp
  rw [e2] at e
  exact Ev.cast e (by omega)
theorem heldIntS_ev (n : Nat) (k : Int) (h1 : n ≤ 2147483648) (h2 : 0 ≤ k) (h3 : k ≤ 2147483648) : Ev (fun r => laws_heldIntS.f r (mkI n k) k) (k + n) := by
 have := heldIL_ev n [] k (by simp; omega) h2 (by omega)
 exact this
theorem markCL_ev : ∀ (m : Nat) (pre l : List S88) (k : Int),l.length = m → pre.length + m ≤ 4294967296 → 0 ≤ k → k + 2 * m ≤ 4294967296 → Ev (fun r => laws_markCellS.l0 r (pre ++ l) k (pre.length : Int)) (k + 2 * m,pre ++ mkC m k) := by
 intro m
 induction m with
 | zero =>
  intro pre l k hl h1 h2 h3
  obtain rfl := List.eq_nil_of_length_eq_zero hl
  refine Ev.succ ?_
  simp only [laws_markCellS.l0]
  rw [List.append_nil]
  exact Ev.neg (by omega) (Ev.ret (by simp [mkC]))
 | succ m ih =>
  intro pre l k hl h1 h2 h3
  cases l with
  | nil => simp at hl
  | cons x l =>
   simp only [List.length_cons] at hl
   refine Ev.succ ?_
   simp only [laws_markCellS.l0]
   refine Ev.pos (by simp; omega) (Ev.pos (by omega) (Ev.bind (Ev.now _) ?_))
   rw [Int.toNat_natCast,set_at _ _ _ _ _ rfl,set_at _ _ _ _ _ rfl,w64 (x := k + 1) (by omega) (by omega),w64 (x := k + 1 + 1) (by omega) (by omega),w64 (x := (pre.length : Int) + 1) (by omega) (by omega)]
   have hr : (rd_T88 (pre ++ (⟨k,(rd_T88 (pre ++ x :: l) (pre.length : Int)).f1⟩ : S88) :: l) (pre.length : Int)).f0 = k := by
    rw [rdC_at _ _ (by simp),List.getElem_append_right (Nat.le_refl _)]
    simp
   rw [hr]
   have e := ih (pre ++ [⟨k,k + 1⟩]) l (k + 2) (by omega) (by simp; omega) (by omega) (by omega)
   rw [List.append_assoc,List.length_append] at e
   have e2 : (((pre.length + [(⟨k,k + 1⟩ : S88)].length : Nat)) : Int) = (pre.length : Int) + 1 := by simp
   rw [e2] at e
   have e3 : k + 1 + 1 = k + 2 := by omega
   rw [e3]
   refine Ev.cast e ?_
   rw [mkC,List.append_assoc]
   refine Prod.ext ?_ rfl
   simp
   omega
theorem markCellS_ev (l : List S88) (k : Int) (h1 : l.length ≤ 1073741824) (h2 : 0 ≤ k) (h3 : k ≤ 2147483648) : Ev (fun r => laws_markCellS.f r l k) (k + 2 * l.length,mkC l.length k) := by
 have := markCL_ev l.length [] l k rfl (by simp; omega) h2 (by omega)
 exact this
theorem rdM_at (l : List (List Int)) (i : Nat) (h : i < l.length) : rd_L2 l (i : Int) = l[i] := by
 show l.getD (i : Int).toNat [] = _
 rw [Int.toNat_natCast,List.getD_eq_getElem?_getD,List.getElem?_eq_getElem h]; rfl
def tot : List (List Int) → Nat
 | [] => 0
 | r :: rs => r.length + tot rs
theorem tot_row {l : List (List Int)} {r : List Int} (h : r ∈ l) : r.length ≤ tot l := by
 induction l with
 | nil => cases h
 | cons a t ih =>
  rw [tot]
  rcases List.mem_cons.1 h with rfl | h
  ·omega
  ·have := ih h; omega
theorem szIntSS_l0 (l : List (List Int)) (hl : l.length ≤ 1048576) (hr : ∀ r ∈ l,r.length ≤ maxLen) : ∀ (m i : Nat) (t : Int),i + m = l.length → 0 ≤ t → t ≤ 1048576 → ((∃ u,Ev (fun k => laws_szIntSS.l0 k l t i) u ∧ u < 0) ∨ ((tot (l.drop i) : Int) ≤ t ∧ ∃ u,Ev (fun k => laws_szIntSS.l0 k l t i) u ∧ ¬ u < 0 ∧ u ≤ 1048576)) := by
 have hm : maxLen = 9223372036854775807 := by decide
 intro m
 induction m with
 | zero =>
  intro i t hi h0 h1
  right
  rw [List.drop_eq_nil_of_le (by omega)]
  refine ⟨by simp only [tot]; omega,t,?_,by omega,h1⟩
  refine Ev.succ ?_
  simp only [laws_szIntSS.l0]
  exact Ev.neg (by omega) (Ev.now _)
 | succ m ih =>
  intro i t hi h0 h1
  have hri := hr _ (List.getElem_mem (show i < l.length by omega))
  have step : ∀ (u : Int),(t - ((l[i]'(by omega)).length : Int) < 0 → u = -1) → (¬ t - ((l[i]'(by omega)).length : Int) < 0 → Ev (fun k => laws_szIntSS.l0 k l (t - ((l[i]'(by omega)).length : Int)) ((i + 1 : Nat) : Int)) u) → Ev (fun k => laws_szIntSS.l0 k l t i) u := by
   intro u hA hB
   refine Ev.succ ?_
   simp only [laws_szIntSS.l0]
   rw [rdM_at l i (by omega),w64 (x := (i : Int) + 1) (by omega) (by omega)]
   refine Ev.pos (by omega) (Ev.pos (by omega) ?_)
   unfold laws_szIntS.f
   rw [w64 (x := t - ((l[i]'(by omega)).length : Int)) (by omega) (by omega)]
   by_cases h2 : t - ((l[i]'(by omega)).length : Int) < 0
   ·rw [if_pos h2,hA h2]
    exact Ev.bind (Ev.now _) (Ev.pos (by omega) (Ev.now _))
   ·rw [if_neg h2]
    exact Ev.bind (Ev.now _) (Ev.neg h2 (hB h2))
  rw [List.drop_eq_getElem_cons (show i < l.length by omega),tot]
  by_cases h2 : t - ((l[i]'(by omega)).length : Int) < 0
  ·left
   exact ⟨-1,step _ (fun _ => rfl) (fun h => absurd h2 h),by omega⟩
  ·rcases ih (i + 1) (t - ((l[i]'(by omega)).length : Int)) (by omega) (by omega) (by omega) with ⟨u,hu,hn⟩ | ⟨ht,u,hu,hn,hle⟩
   ·left
    exact ⟨u,step _ (fun h => absurd h h2) (fun _ => hu),hn⟩
   ·right
    exact ⟨by omega,u,step _ (fun h => absurd h h2) (fun _ => hu),hn,hle⟩
theorem szIntSSG (l : List (List Int)) (hl : l.length ≤ maxLen) (hr : ∀ r ∈ l,r.length ≤ maxLen) {t0 : Int} (h0 : 0 ≤ t0) (h1 : t0 ≤ 1048576) :
  (∃ t,Ev (fun k => laws_szIntSS.f k l t0) t ∧ t < 0) ∨ (l.length ≤ 1048576 ∧ tot l ≤ 1048576 ∧ ∃ t,Ev (fun k => laws_szIntSS.f k l t0) t ∧ ¬ t < 0 ∧ t ≤ 1048576) := by
 have hm : maxLen = 9223372036854775807 := by decide
 unfold laws_szIntSS.f
 rw [w64 (x := t0 - (l.length : Int)) (by omega) (by omega)]
 by_cases h2 : t0 - (l.length : Int) < 0
 ·left
  exact ⟨-1,Ev.pos h2 (Ev.now _),by omega⟩
 rcases szIntSS_l0 l (by omega) hr l.length 0 (t0 - (l.length : Int)) (by omega) (by omega) (by omega) with ⟨u,hu,hn⟩ | ⟨ht,u,hu,hn,hle⟩
 ·left
  exact ⟨u,Ev.neg h2 hu,hn⟩
 ·right
  rw [List.drop_zero] at ht
  exact ⟨by omega,by omega,u,Ev.neg h2 hu,hn,hle⟩
theorem toIntSS_ev (l : List (List Int)) (hl : l.length ≤ 1048576) (hr : ∀ r ∈ l,r.length ≤ 1048576) : Ev (fun k => laws_toIntSS.f k l) l := by
 have key : ∀ (m i : Nat),i + m = l.length → Ev (fun k => laws_toIntSS.l0 k l (l.take i ++ List.replicate m []) i) l := by
  intro m
  induction m with
  | zero =>
   intro i hi
   refine Ev.succ ?_
   simp only [laws_toIntSS.l0]
   refine Ev.neg (by omega) (Ev.ret ?_)
   rw [List.take_of_length_le (by omega)]; simp
  | succ m ih =>
   intro i hi
   have hri := hr _ (List.getElem_mem (show i < l.length by omega))
   refine Ev.succ ?_
   simp only [laws_toIntSS.l0]
   rw [rdM_at l i (by omega),w64 (x := (i : Int) + 1) (by omega) (by omega)]
   refine Ev.pos (by omega) (Ev.pos (by omega) (Ev.bind (toIntS_ev _ (by omega)) (Ev.pos (by simp; omega) ?_)))
   rw [Int.toNat_natCast,List.replicate_succ,set_at _ _ _ _ _ (by rw [List.length_take]; omega)]
   have := ih (i + 1) (by omega)
   rw [List.take_succ_eq_append_getElem (by omega),List.append_assoc] at this
   exact this
 unfold laws_toIntSS.f
 refine Ev.pos (by omega) (Ev.pos (by omega) ?_)
 rw [Int.toNat_natCast]
 exact key l.length 0 (by omega)
theorem eqIntSS_ev (l : List (List Int)) (hl : l.length ≤ 1048576) (hr : ∀ r ∈ l,r.length ≤ 1048576) : Ev (fun k => laws_eqIntSS.f k l l) true := by
 have key : ∀ (m i : Nat),i + m = l.length → Ev (fun k => laws_eqIntSS.l0 k l l i) true := by
  intro m
  induction m with
  | zero =>
   intro i hi
   refine Ev.succ ?_
   simp only [laws_eqIntSS.l0]
   exact Ev.neg (by omega) (Ev.now _)
  | succ m ih =>
   intro i hi
   have hri := hr _ (List.getElem_mem (show i < l.length by omega))
   refine Ev.succ ?_
   simp only [laws_eqIntSS.l0]
   rw [rdM_at l i (by omega),w64 (x := (i : Int) + 1) (by omega) (by omega)]
   exact Ev.pos (by omega) (Ev.pos (by omega) (Ev.pos (by omega) (Ev.bind (eqIntS_ev _ _ (by omega)) (Ev.pos (by simp) (ih (i + 1) (by omega))))))
 unfold laws_eqIntSS.f
 exact Ev.pos rfl (key l.length 0 (by omega))
theorem markIntSS_ev (l0 : List (List Int)) (hl : l0.length ≤ 1048576) (hr : tot l0 ≤ 1048576) (k0 : Int) (h0 : 0 ≤ k0) (h1 : k0 ≤ 1048576 * 4) : Ev (fun k => laws_markIntSS.f k l0 k0) (k0 + tot l0) := by
 have key : ∀ (m i : Nat) (xs : List (List Int)) (a : Int),xs.length = l0.length → i + m = l0.length → 0 ≤ a → a + tot (xs.drop i) ≤ 1048576 * 8 → Ev (fun k => laws_markIntSS.l0 k xs a i) (a + tot (xs.drop i)) := by
  intro m
  induction m with
  | zero =>
   intro i xs a hx hi ha hb
   refine Ev.succ ?_
   simp only [laws_markIntSS.l0]
   refine Ev.neg (by omega) (Ev.ret ?_)
   rw [List.drop_eq_nil_of_le (by omega)]; simp [tot]
  | succ m ih =>
   intro i xs a hx hi ha hb
   rw [List.drop_eq_getElem_cons (show i < xs.length by omega),tot] at hb ⊢
   refine Ev.succ ?_
   simp only [laws_markIntSS.l0]
   rw [rdM_at xs i (by omega),w64 (x := (i : Int) + 1) (by omega) (by omega)]
   refine Ev.pos (by omega) (Ev.pos (by omega) (Ev.bind (markIntS_ev _ a (by omega) ha (by omega)) ?_))
   have hd : (xs.set i (mkI (xs[i]'(by omega)).length a)).drop (i + 1) = xs.drop (i + 1) := by rw [List.drop_set_of_lt (by omega)]
   have := ih (i + 1) (xs.set i (mkI (xs[i]'(by omega)).length a)) (a + ((xs[i]'(by omega)).length : Int)) (by rw [List.length_set]; exact hx) (by omega) (by omega) (by rw [hd]; omega)
   rw [hd] at this
   rw [Int.toNat_natCast]
   exact Ev.cast this (by omega)
 unfold laws_markIntSS.f
 have := key l0.length 0 l0 k0 rfl (by omega) h0 (by rw [List.drop_zero]; omega)
 rw [List.drop_zero] at this
 exact this
theorem l1Has_ev (l : List Int) (x : Int) (h : l.length ≤ 1000000000) : Ev (fun k => spec_l1Has.f k l x) (decide (x ∈ l)) := by
 have key : ∀ (m i : Nat),i + m = l.length → Ev (fun k => spec_l1Has.l0 k x l (l.length : Int) i) (decide (x ∈ l.drop i)) := by
  intro m
  induction m with
  | zero =>
   intro i hi
   refine Ev.succ ?_
   simp only [spec_l1Has.l0]
   refine Ev.neg (by omega) (Ev.ret ?_)
   rw [List.drop_eq_nil_of_le (by omega)]; simp
  | succ m ih =>
   intro i hi
   have hlt : i < l.length := by omega
   refine Ev.succ ?_
   simp only [spec_l1Has.l0]
   rw [rd_at l i hlt,w64 (by omega) (by omega),List.drop_eq_getElem_cons hlt]
   refine Ev.pos (by omega) (Ev.pos (by omega) (Ev.pos (by omega) ?_))
   by_cases a : l[i] = x
   ·refine Ev.pos a (Ev.ret ?_); simp [a]
   ·refine Ev.neg a (Ev.cast (ih (i + 1) (by omega)) (decide_eq_decide.2 ⟨fun q => List.mem_cons_of_mem _ q,fun q => ?_⟩))
    rcases List.mem_cons.1 q with q | q
    ·exact absurd q.symm a
    ·exact q
 exact key l.length 0 (by omega)

/-! cells that are set -/
def turns (cs : List S88) (x : Int) : Bool := decide (0 ≤ x) && (decide (x < (cs.length : Int)) && turning (rd_T88 cs x))
theorem turning_iff {c : S88} : turning c = true ↔ c.f0 = 3 ∨ c.f0 = 6 := by unfold turning; simp
def tuL (cs : List S88) : Nat → Nat → List Int → List Int
 | 0,_,acc => acc
 | m + 1,i,acc => tuL cs m (i + 1) (if turning (rd_T88 cs i) = true then acc ++ [(i : Int)] else acc)
theorem tuL_mem (cs : List S88) (x : Int) : ∀ (m i : Nat) (acc : List Int),i + m = cs.length → (x ∈ tuL cs m i acc ↔ x ∈ acc ∨ ((i : Int) ≤ x ∧ x < (cs.length : Int) ∧ turning (rd_T88 cs x) = true))
 | 0,i,acc,h => by
  rw [tuL]
  exact ⟨fun h => .inl h,fun h => h.elim id (fun h => by omega)⟩
 | m + 1,i,acc,h => by
  rw [tuL,tuL_mem cs x m (i + 1) _ (by omega)]
  by_cases e : x = (i : Int)
  ·subst e
   by_cases g : turning (rd_T88 cs i) = true
   ·rw [if_pos g]
    exact ⟨fun _ => .inr ⟨by omega,by omega,g⟩,fun _ => .inl (by simp)⟩
   ·rw [if_neg g]
    exact ⟨fun h => h.elim .inl (fun h => by omega),fun h => h.elim .inl (fun h => absurd h.2.2 g)⟩
  ·have hm : (x ∈ (if turning (rd_T88 cs i) = true then acc ++ [(i : Int)] else acc)) ↔ x ∈ acc := by
    split
    ·simp [e]
    ·exact Iff.rfl
   rw [hm]
   exact ⟨fun h => h.elim .inl (fun h => .inr ⟨by omega,h.2⟩),fun h => h.elim .inl (fun h => .inr ⟨by omega,h.2⟩)⟩
theorem tuL_len (cs : List S88) : ∀ (m i : Nat) (acc : List Int),(tuL cs m i acc).length ≤ acc.length + m
 | 0,i,acc => by rw [tuL]; omega
 | m + 1,i,acc => by
  rw [tuL]
  have := tuL_len cs m (i + 1) (if turning (rd_T88 cs i) = true then acc ++ [(i : Int)] else acc)
  split at this
  ·rename_i h
   rw [if_pos h]
   rw [List.length_append] at this
   simp at this
   omega
  ·rename_i h
   rw [if_neg h]
   omega
theorem boTurning_ev (R C : Int) (cs : List S88) (hl : cs.length ≤ 90) : Ev (fun k => spec_boTurning.f k R C cs) (tuL cs cs.length 0 []) := by
 have key : ∀ (m i : Nat) (acc : List Int),i + m = cs.length → acc.length ≤ i → Ev (fun k => spec_boTurning.l0 k acc cs (cs.length : Int) i) (tuL cs m i acc) := by
  intro m
  induction m with
  | zero =>
   intro i acc hi ha
   refine Ev.succ ?_
   simp only [spec_boTurning.l0]
   exact Ev.neg (by omega) (Ev.now _)
  | succ m ih =>
   intro i acc hi ha
   refine Ev.succ ?_
   simp only [spec_boTurning.l0,tuL]
   rw [w64 (x := (i : Int) + 1) (by omega) (by omega)]
   refine Ev.pos (by omega) (Ev.pos (by omega) (Ev.pos (by omega) (Ev.bind (Ev.val (turning_ok _)) ?_)))
   by_cases g : turning (rd_T88 cs i) = true
   ·rw [if_pos g]
    exact Ev.pos g (Ev.pos (by omega) (ih (i + 1) _ (by omega) (by simp; omega)))
   ·rw [if_neg g]
    exact Ev.neg g (ih (i + 1) _ (by omega) (by omega))
 unfold spec_boTurning.f
 exact key cs.length 0 [] (by omega) (by simp)
theorem tuL_turns (cs : List S88) (x : Int) : decide (x ∈ tuL cs cs.length 0 []) = turns cs x := by
 unfold turns
 rw [Bool.eq_iff_iff,decide_eq_true_eq,tuL_mem cs x _ _ _ (by omega)]
 simp
def rowGo (cs : List S88) : List Int → List Int → Option (List Int)
 | [],all => some all
 | x :: r,all => if turns cs x = true ∧ x ∉ all then rowGo cs r (all ++ [x]) else none
def rowsGo (cs : List S88) : List (List Int) → List Int → Bool
 | [],_ => true
 | r :: rs,all => match rowGo cs r all with
  | none => false
  | some all' => rowsGo cs rs all'
theorem rowGo_turns (cs : List S88) : ∀ (r all all' : List Int),rowGo cs r all = some all' → ∀ x ∈ r,turns cs x = true
 | [],all,all',h,x,hx => by cases hx
 | y :: r,all,all',h,x,hx => by
  rw [rowGo] at h
  split at h
  ·rename_i hc
   rcases List.mem_cons.1 hx with rfl | hx
   ·exact hc.1
   ·exact rowGo_turns cs r _ _ h x hx
  ·cases h
theorem rowsGo_turns (cs : List S88) : ∀ (rs : List (List Int)) (all : List Int),rowsGo cs rs all = true → ∀ r ∈ rs,∀ x ∈ r,turns cs x = true
 | [],all,h,r,hr => by cases hr
 | q :: rs,all,h,r,hr => by
  rw [rowsGo] at h
  split at h
  ·cases h
  ·rename_i all' he
   rcases List.mem_cons.1 hr with rfl | hr
   ·exact rowGo_turns cs _ _ _ he
   ·exact rowsGo_turns cs rs _ h r hr
theorem vfCells_l1 {R C : Int} {cs : List S88} (hl : cs.length ≤ 90) (cells : List (List Int)) (i : Nat) (row : List Int) (hrow : row.length ≤ 1048576) (b : Bool) (N : Nat) (hN : N ≤ 1048576)
  (e : ∀ all',all'.length ≤ N → Ev (fun k => spec_vfCells.l0 k cells all' cells (cells.length : Int) (wrap64 ((i : Int) + 1)) R C cs) (rowsGo cs (cells.drop (i + 1)) all' && b)) :
  ∀ (m j : Nat) (all : List Int),j + m = row.length → all.length + m ≤ N → Ev (fun k => spec_vfCells.l1 k cells all cells (cells.length : Int) i row (row.length : Int) j R C cs) ((match rowGo cs (row.drop j) all with
   | none => false
   | some all' => rowsGo cs (cells.drop (i + 1)) all') && b) := by
 intro m
 induction m with
 | zero =>
  intro j all hj ha
  refine Ev.succ ?_
  simp only [spec_vfCells.l1]
  rw [List.drop_eq_nil_of_le (by omega),rowGo]
  exact Ev.neg (by omega) (e all (by omega))
 | succ m ih =>
  intro j all hj ha
  refine Ev.succ ?_
  simp only [spec_vfCells.l1]
  rw [rd_at row j (by omega),w64 (x := (j : Int) + 1) (by omega) (by omega),List.drop_eq_getElem_cons (show j < row.length by omega),rowGo]
  have htl := tuL_len cs cs.length 0 []
  simp at htl
  refine Ev.pos (by omega) (Ev.pos (by omega) (Ev.pos (by omega) (Ev.bind (boTurning_ev R C cs hl) (Ev.bind (l1Has_ev _ _ (by omega)) ?_))))
  rw [tuL_turns]
  by_cases g : turns cs row[j] = true
  ·refine Ev.pos g (Ev.bind (l1Has_ev all _ (by omega)) ?_)
   by_cases g2 : row[j] ∈ all
   ·rw [if_neg (fun h => h.2 g2)]
    exact Ev.pos (by simp [g2]) (Ev.ret (by simp))
   ·rw [if_pos ⟨g,g2⟩]
    exact Ev.neg (by simp [g2]) (Ev.pos (by omega) (ih (j + 1) _ (by omega) (by simp; omega)))
  ·rw [if_neg (fun h => g h.1)]
   exact Ev.neg g (Ev.ret (by simp))
theorem vfCells_ev {R C : Int} {cs : List S88} (hl : cs.length ≤ 90) (cells : List (List Int)) (hc : cells.length ≤ 1048576) (ht : tot cells ≤ 1048576) : Ev (fun k => spec_vfCells.f k R C cs cells) (rowsGo cs cells [] && inR (cells.length : Int) 1 4) := by
 have key : ∀ (m i : Nat) (all : List Int),i + m = cells.length → all.length + tot (cells.drop i) ≤ 1048576 → Ev (fun k => spec_vfCells.l0 k cells all cells (cells.length : Int) i R C cs) (rowsGo cs (cells.drop i) all && inR (cells.length : Int) 1 4) := by
  intro m
  induction m with
  | zero =>
   intro i all hi ha
   refine Ev.succ ?_
   simp only [spec_vfCells.l0]
   rw [List.drop_eq_nil_of_le (by omega),rowsGo,Bool.true_and]
   exact Ev.neg (by omega) (Ev.bind (Ev.val (l1In_ok _ _ _)) (Ev.now _))
  | succ m ih =>
   intro i all hi ha
   rw [List.drop_eq_getElem_cons (show i < cells.length by omega),tot] at ha
   refine Ev.succ ?_
   simp only [spec_vfCells.l0]
   rw [rdM_at cells i (by omega),List.drop_eq_getElem_cons (show i < cells.length by omega),rowsGo]
   refine Ev.pos (by omega) (Ev.pos (by omega) (Ev.pos (by omega) ?_))
   have := vfCells_l1 (R := R) (C := C) hl cells i (cells[i]'(by omega)) (by omega) (inR (cells.length : Int) 1 4) (1048576 - tot (cells.drop (i + 1))) (by omega) (fun all' h => by
    rw [w64 (x := (i : Int) + 1) (by omega) (by omega)]
    exact ih (i + 1) all' (by omega) (by omega)) _ 0 all (Nat.zero_add _) (by omega)
   rw [List.drop_zero] at this
   exact this
 unfold spec_vfCells.f
 have := key cells.length 0 [] (by omega) (by simpa using ht)
 rw [List.drop_zero] at this
 exact this
/-! the same,by a set -/
def seenL (n : Nat) (all : List Int) : List Bool := (List.range n).map fun (j : Nat) => decide ((j : Int) ∈ all)
theorem seenL_at (n : Nat) (all : List Int) {x : Int} (h0 : 0 ≤ x) (h1 : x < (n : Int)) : impl_readByFlips.seen (seenL n all) x = decide (x ∈ all) := by
 obtain ⟨v,rfl⟩ : ∃ v : Nat,x = (v : Int) := ⟨x.toNat,by omega⟩
 unfold impl_readByFlips.seen seenL
 rw [Int.toNat_natCast,List.getD_eq_getElem?_getD,List.getElem?_map,List.getElem?_range (by omega)]
 rfl
theorem seenL_set (n : Nat) (all : List Int) {x : Int} (h0 : 0 ≤ x) (h1 : x < (n : Int)) : (seenL n all).set x.toNat true = seenL n (all ++ [x]) := by
 apply List.ext_getElem
 ·simp [seenL]
 intro j hj1 hj2
 rw [List.getElem_set]
 unfold seenL
 simp only [List.getElem_map,List.getElem_range,List.mem_append,List.mem_singleton]
 split
 ·rename_i e
  simp
  right
  omega
 ·rename_i e
  have : ¬ (j : Int) = x := by omega
  simp [this]
theorem readByFlips_l1 {R C : Int} {cs : List S88} (h : GoodB R C cs) (cells : List (List Int)) (i : Nat) (row : List Int) (hrow : row.length ≤ 1048576)
  (e : ∀ all',Ev (fun k => impl_readByFlips.l0 k (seenL cs.length all') cells (cells.length : Int) (wrap64 ((i : Int) + 1)) R C cs) (rowsGo cs (cells.drop (i + 1)) all')) :
  ∀ (m j : Nat) (all : List Int),j + m = row.length → Ev (fun k => impl_readByFlips.l1 k (seenL cs.length all) cells (cells.length : Int) i row (row.length : Int) j R C cs) (match rowGo cs (row.drop j) all with
   | none => false
   | some all' => rowsGo cs (cells.drop (i + 1)) all') := by
 have l90 := h.len90
 intro m
 induction m with
 | zero =>
  intro j all hj
  refine Ev.succ ?_
  simp only [impl_readByFlips.l1]
  rw [List.drop_eq_nil_of_le (by omega),rowGo]
  exact Ev.neg (by omega) (e all)
 | succ m ih =>
  intro j all hj
  refine Ev.succ ?_
  simp only [impl_readByFlips.l1]
  rw [rd_at row j (by omega),w64 (x := (j : Int) + 1) (by omega) (by omega),List.drop_eq_getElem_cons (show j < row.length by omega),rowGo]
  refine Ev.pos (by omega) (Ev.pos (by omega) (Ev.pos (by omega) ?_))
  by_cases n0 : row[j] < 0
  ·rw [if_neg (fun hh => by have := hh.1; unfold turns at this; simp at this; omega)]
   exact Ev.pos n0 (Ev.ret rfl)
  refine Ev.neg n0 ?_
  by_cases n1 : row[j] ≥ (cs.length : Int)
  ·rw [if_neg (fun hh => by have := hh.1; unfold turns at this; simp at this; omega)]
   exact Ev.pos n1 (Ev.ret rfl)
  refine Ev.neg n1 (Ev.pos (by omega) (Ev.pos (by omega) ?_))
  have hg := h.good _ (rdC_mem (show 0 ≤ row[j] by omega) (show row[j] < (cs.length : Int) by omega))
  have hT : Ev (fun _ => impl_IsTurning.f (rd_T88 cs row[j]).f0 (rd_T88 cs row[j]).f1) (turning (rd_T88 cs row[j])) := by
   unfold impl_IsTurning.f
   refine Ev.bind (Ev.val (IsCell_ok _)) (Ev.pos hg ?_)
   unfold turning
   by_cases h3 : (rd_T88 cs row[j]).f0 = 3
   ·exact Ev.pos h3 (Ev.ret (by rw [decide_eq_true h3]; rfl))
   ·exact Ev.neg h3 (Ev.ret (by rw [decide_eq_false h3,Bool.false_or]; exact Bool.beq_eq_decide_eq _ _))
  refine Ev.bind hT ?_
  have htu : turns cs row[j] = turning (rd_T88 cs row[j]) := by
   unfold turns
   rw [decide_eq_true (by omega),decide_eq_true (by omega),Bool.true_and,Bool.true_and]
  by_cases g : turning (rd_T88 cs row[j]) = true
  ·refine Ev.pos g ?_
   rw [seenL_at _ _ (by omega) (by omega),seenL_set _ _ (by omega) (by omega)]
   by_cases g2 : row[j] ∈ all
   ·rw [if_neg (fun hh => hh.2 g2)]
    exact Ev.pos (by simp [g2]) (Ev.ret rfl)
   ·rw [if_pos ⟨htu.trans g,g2⟩]
    exact Ev.neg (by simp [g2]) (ih (j + 1) _ (by omega))
  ·rw [if_neg (fun hh => g (htu ▸ hh.1))]
   exact Ev.neg g (Ev.ret rfl)
theorem readByFlips_l0 {R C : Int} {cs : List S88} (h : GoodB R C cs) (cells : List (List Int)) (hc : cells.length ≤ 1048576) (hr : ∀ r ∈ cells,r.length ≤ 1048576) : Ev (fun k => impl_readByFlips.l0 k (List.replicate cs.length false) cells (cells.length : Int) 0 R C cs) (rowsGo cs cells []) := by
 have key : ∀ (m i : Nat) (all : List Int),i + m = cells.length → Ev (fun k => impl_readByFlips.l0 k (seenL cs.length all) cells (cells.length : Int) i R C cs) (rowsGo cs (cells.drop i) all) := by
  intro m
  induction m with
  | zero =>
   intro i all hi
   refine Ev.succ ?_
   simp only [impl_readByFlips.l0]
   rw [List.drop_eq_nil_of_le (by omega),rowsGo]
   exact Ev.neg (by omega) (Ev.now _)
  | succ m ih =>
   intro i all hi
   refine Ev.succ ?_
   simp only [impl_readByFlips.l0]
   rw [rdM_at cells i (by omega),List.drop_eq_getElem_cons (show i < cells.length by omega),rowsGo]
   refine Ev.pos (by omega) (Ev.pos (by omega) (Ev.pos (by omega) ?_))
   have := readByFlips_l1 h cells i (cells[i]'(by omega)) (hr _ (List.getElem_mem _)) (fun all' => by
    rw [w64 (x := (i : Int) + 1) (by omega) (by omega)]
    exact ih (i + 1) all' (by omega)) _ 0 all (Nat.zero_add _)
   rw [List.drop_zero] at this
   exact this
 have e : List.replicate cs.length false = seenL cs.length [] := by
  apply List.ext_getElem
  ·simp [seenL]
  intro j h1 h2
  simp [seenL]
 rw [e]
 have := key cells.length 0 [] (by omega)
 rw [List.drop_zero] at this
 exact this
def flipsOk (R C : Int) (cs : List S88) (col : Int) (cells : List (List Int)) (s : Int) : Bool := validE R C cs col && (rowsGo cs cells [] && inR (cells.length : Int) 1 4 && inR s 0 C)
theorem vfFlips_ev (R C : Int) (cs : List S88) (col : Int) (cells : List (List Int)) (s : Int) (hl : cs.length ≤ 1048576) (hc : cells.length ≤ 1048576) (ht : tot cells ≤ 1048576) : Ev (fun k => spec_vfFlips.f k R C cs col cells s) (flipsOk R C cs col cells s) := by
 unfold spec_vfFlips.f flipsOk
 refine Ev.bind (flHas_ev R C cs col hl) ?_
 by_cases g : validE R C cs col = true
 ·have hb := (validE_of g).1
  rw [g,Bool.true_and]
  refine Ev.pos (by trivial) (Ev.bind (vfCells_ev hb.len90 cells hc ht) ?_)
  by_cases g2 : (rowsGo cs cells [] && inR (cells.length : Int) 1 4) = true
  ·rw [g2,Bool.true_and]
   exact Ev.pos (by trivial) (Ev.bind (Ev.val (l1In_ok _ _ _)) (Ev.now _))
  ·rw [Bool.eq_false_iff.mpr g2,Bool.false_and]
   exact Ev.neg (by simp) (Ev.now _)
 ·rw [Bool.eq_false_iff.mpr g,Bool.false_and]
  exact Ev.neg (by simp) (Ev.now _)
theorem readByFlips_ev (R C : Int) (cs : List S88) (col : Int) (cells : List (List Int)) (s : Int) (hc : cells.length ≤ 1048576) (hr : ∀ r ∈ cells,r.length ≤ 1048576) : Ev (fun k => impl_readByFlips.f k R C cs col cells s) (flipsOk R C cs col cells s) := by
 have jt : flipsOk R C cs col cells s = false → Ev (fun k => impl_readByFlips.j0 k cells true R C cs) (flipsOk R C cs col cells s) := fun hf => by
  refine Ev.succ ?_
  simp only [impl_readByFlips.j0]
  exact Ev.pos (by trivial) (Ev.ret hf.symm)
 unfold impl_readByFlips.f
 refine Ev.bind (validEntry_ev R C cs col) ?_
 by_cases g : validE R C cs col = true
 case neg => exact Ev.neg g (jt (by unfold flipsOk; rw [Bool.eq_false_iff.mpr g,Bool.false_and]))
 have hb := (validE_of g).1
 refine Ev.pos g ?_
 by_cases s0 : s < 0
 ·exact Ev.pos s0 (jt (by unfold flipsOk; rw [inR_lo s0,Bool.and_false,Bool.and_false]))
 refine Ev.neg s0 ?_
 by_cases s1 : s > C
 ·exact Ev.pos s1 (jt (by unfold flipsOk; rw [inR_hi s1,Bool.and_false,Bool.and_false]))
 refine Ev.neg s1 ?_
 have hs : inR s 0 C = true := inR_iff.2 ⟨by omega,by omega⟩
 by_cases l0 : (cells.length : Int) < 1
 ·exact Ev.pos l0 (jt (by unfold flipsOk; rw [inR_lo l0,Bool.and_false,Bool.false_and,Bool.and_false]))
 refine Ev.neg l0 ?_
 by_cases l4 : (cells.length : Int) > 4
 ·rw [decide_eq_true l4]
  exact jt (by unfold flipsOk; rw [inR_hi l4,Bool.and_false,Bool.false_and,Bool.and_false])
 rw [decide_eq_false l4]
 refine Ev.succ ?_
 simp only [impl_readByFlips.j0]
 refine Ev.neg (by simp) (Ev.pos (by have := hb.len90; omega) ?_)
 have hl : inR (cells.length : Int) 1 4 = true := inR_iff.2 ⟨by omega,by omega⟩
 exact Ev.cast (readByFlips_l0 hb cells hc hr) (by unfold flipsOk; rw [g,hs,hl,Bool.true_and,Bool.and_true,Bool.and_true])
/-! values -/
def fbit (n j : Int) : Int := Go.bits .and .i64 (shr .i64 n j) 1
theorem fbit_01 (n j : Int) : 0 ≤ fbit n j ∧ fbit n j ≤ 1 := by
 unfold fbit
 have hd : ∀ y : Int,Go.bits .and .i64 y 1 = IntKind.i64.wrap (((BitVec.ofInt 64 y &&& BitVec.ofInt 64 1 : BitVec 64).toNat : Nat) : Int) := fun y => rfl
 rw [hd,BitVec.toNat_and]
 have e : (BitVec.ofInt 64 1).toNat = 1 := by decide
 rw [e,Nat.and_one_is_mod]
 have : (BitVec.ofInt 64 (shr .i64 n j)).toNat % 2 < 2 := Nat.mod_lt _ (by omega)
 rw [(i64_w _).trans (w64 (by omega) (by omega))]
 omega
def setRow : List S88 → Int → List Int → List S88
 | cs,_,[] => cs
 | cs,b,i :: r => setRow (cs.set i.toNat ⟨(rd_T88 cs i).f0,b⟩) b r
def setAll (x : Int) : List (List Int) → Nat → List S88 → List S88
 | [],_,cs => cs
 | r :: rs,k,cs => setAll x rs (k + 1) (setRow cs (fbit x k) r)
theorem good_set {c : S88} (h : goodCell c = true) (ht : c.f0 = 3 ∨ c.f0 = 6) {b : Int} (b0 : 0 ≤ b) (b1 : b ≤ 1) : goodCell ⟨c.f0,b⟩ = true := by
 have := good_state h
 unfold goodCell turning
 simp only [Bool.and_eq_true,Bool.or_eq_true,decide_eq_true_eq,inR_iff]
 omega
theorem turns_set {cs : List S88} {i : Int} (b : Int) (y : Int) : turns (cs.set i.toNat ⟨(rd_T88 cs i).f0,b⟩) y = turns cs y := by
 unfold turns turning
 rw [List.length_set]
 have : (rd_T88 (cs.set i.toNat ⟨(rd_T88 cs i).f0,b⟩) y).f0 = (rd_T88 cs y).f0 := by
  show ((cs.set i.toNat ⟨(cs.getD i.toNat ⟨0,0⟩).f0,b⟩).getD y.toNat ⟨0,0⟩).f0 = (cs.getD y.toNat ⟨0,0⟩).f0
  rw [List.getD_eq_getElem?_getD,List.getElem?_set,List.getD_eq_getElem?_getD (l := cs) (i := y.toNat)]
  by_cases e : i.toNat = y.toNat
  ·rw [if_pos e,e]
   by_cases l : y.toNat < cs.length
   ·simp [l,List.getD_eq_getElem?_getD]
   ·simp [l]
  ·rw [if_neg e]
 rw [this]
theorem turns_iff {cs : List S88} {x : Int} (h : turns cs x = true) : 0 ≤ x ∧ x < (cs.length : Int) ∧ ((rd_T88 cs x).f0 = 3 ∨ (rd_T88 cs x).f0 = 6) := by
 unfold turns at h
 rw [Bool.and_eq_true,Bool.and_eq_true,decide_eq_true_eq,decide_eq_true_eq,turning_iff] at h
 exact h
theorem set_goodB {R C : Int} {cs : List S88} (h : GoodB R C cs) {i : Int} (ht : turns cs i = true) {b : Int} (b0 : 0 ≤ b) (b1 : b ≤ 1) : GoodB R C (cs.set i.toNat ⟨(rd_T88 cs i).f0,b⟩) := by
 obtain ⟨h0,h1,hk⟩ := turns_iff ht
 refine ⟨h.r1,h.r2,h.c1,h.c2,by rw [List.length_set]; exact h.len,fun c hc => ?_⟩
 rcases List.mem_or_eq_of_mem_set hc with hc | rfl
 ·exact h.good c hc
 ·exact good_set (h.good _ (rdC_mem h0 h1)) hk b0 b1
theorem setRow_good {R C : Int} {b : Int} (b0 : 0 ≤ b) (b1 : b ≤ 1) : ∀ (r : List Int) (cs : List S88),GoodB R C cs → (∀ x ∈ r,turns cs x = true) → GoodB R C (setRow cs b r) ∧ ∀ y,turns (setRow cs b r) y = turns cs y
 | [],cs,h,_ => ⟨h,fun _ => rfl⟩
 | i :: r,cs,h,ht => by
  have := setRow_good b0 b1 r (cs.set i.toNat ⟨(rd_T88 cs i).f0,b⟩) (set_goodB h (ht i List.mem_cons_self) b0 b1) (fun x hx => by rw [turns_set]; exact ht x (List.mem_cons_of_mem _ hx))
  exact ⟨this.1,fun y => by rw [setRow,this.2,turns_set]⟩
def flipV (R C : Int) (cs : List S88) (col : Int) (cells : List (List Int)) (s : Int) (m : Nat) : List Int := (List.range m).map fun (x : Nat) => valR R C (setAll (x : Int) cells 0 cs) s col
theorem flipV_len (R C : Int) (cs : List S88) (col : Int) (cells : List (List Int)) (s : Int) (m : Nat) : (flipV R C cs col cells s m).length = m := by unfold flipV; simp
theorem flipV_succ (R C : Int) (cs : List S88) (col : Int) (cells : List (List Int)) (s : Int) (m : Nat) : flipV R C cs col cells s (m + 1) = flipV R C cs col cells s m ++ [valR R C (setAll (m : Int) cells 0 cs) s col] := by unfold flipV; rw [List.range_succ,List.map_append]; rfl
theorem pow2_nn {n : Int} (h0 : 0 ≤ n) (h1 : n ≤ 4) : 0 ≤ pow2 n ∧ pow2 n ≤ 16 := by unfold pow2; split <;> (try split) <;> (try split) <;> (try split) <;> omega
theorem vfByFlips_l2 {R C : Int} {cs : List S88} (cells : List (List Int)) (col s : Int) (acc : List Int) (X : Nat) (k : Nat) (hk : k < 4) (row : List Int) (hrow : row.length ≤ 1048576) {r : List Int} : ∀ (m j : Nat) (cs2 : List S88),j + m = row.length → GoodB R C cs2 → (∀ y ∈ row,turns cs2 y = true) →
  Ev (fun n => spec_vfByFlips.l1 n col cells s acc (X : Int) cells (cells.length : Int) (wrap64 ((k : Int) + 1)) R C cs R C (setRow cs2 (fbit X k) (row.drop j))) r → Ev (fun n => spec_vfByFlips.l2 n col cells s acc (X : Int) (k : Int) cells (cells.length : Int) (k : Int) row (row.length : Int) j R C cs R C cs2) r := by
 have hb := fbit_01 X k
 intro m
 induction m with
 | zero =>
  intro j cs2 hj h ht e
  refine Ev.succ ?_
  simp only [spec_vfByFlips.l2]
  rw [List.drop_eq_nil_of_le (by omega),setRow] at e
  exact Ev.neg (by omega) e
 | succ m ih =>
  intro j cs2 hj h ht e
  have htj := ht _ (List.getElem_mem (show j < row.length by omega))
  obtain ⟨h0,h1,hkk⟩ := turns_iff htj
  refine Ev.succ ?_
  simp only [spec_vfByFlips.l2]
  rw [rd_at row j (by omega),w64 (x := (j : Int) + 1) (by omega) (by omega)]
  rw [List.drop_eq_getElem_cons (show j < row.length by omega),setRow] at e
  have := ih (j + 1) (cs2.set (row[j]).toNat ⟨(rd_T88 cs2 row[j]).f0,fbit X k⟩) (by omega) (set_goodB h htj hb.1 hb.2) (fun y hy => by rw [turns_set]; exact ht y hy) e
  have hbit : spec_ttBit.f (X : Int) (k : Int) = some (fbit X k) := by
   unfold spec_ttBit.f
   rw [(shl_pow (n := (k : Int)) (by omega) (by omega)).2,if_pos (by omega)]; rfl
  exact Ev.pos (by omega) (Ev.pos (by omega) (Ev.pos (by omega) (Ev.bind (Ev.val hbit) (Ev.pos h0 (Ev.pos h1 this)))))
theorem vfByFlips_l1 {R C : Int} {cs : List S88} (cells : List (List Int)) (hc : cells.length ≤ 4) (hr : ∀ q ∈ cells,q.length ≤ 1048576) {col : Int} (c0 : 0 ≤ col) (c1 : col < C) (s : Int) (acc : List Int) (ha : acc.length ≤ 16) (X : Nat) {r : List Int} : ∀ (m k : Nat) (cs2 : List S88),k + m = cells.length → GoodB R C cs2 → (∀ q ∈ cells,∀ y ∈ q,turns cs2 y = true) →
  Ev (fun n => spec_vfByFlips.l0 n col cells s (acc ++ [valR R C (setAll X (cells.drop k) k cs2) s col]) (wrap64 ((X : Int) + 1)) R C cs) r → Ev (fun n => spec_vfByFlips.l1 n col cells s acc (X : Int) cells (cells.length : Int) k R C cs R C cs2) r := by
 intro m
 induction m with
 | zero =>
  intro k cs2 hk h ht e
  refine Ev.succ ?_
  simp only [spec_vfByFlips.l1]
  rw [List.drop_eq_nil_of_le (by omega),setAll] at e
  exact Ev.neg (by omega) (Ev.bind (vfValue_ev h s c0 c1) (Ev.pos (by omega) e))
 | succ m ih =>
  intro k cs2 hk h ht e
  have hb := fbit_01 X k
  have htk := ht _ (List.getElem_mem (show k < cells.length by omega))
  have hg := setRow_good hb.1 hb.2 (cells[k]'(by omega)) cs2 h htk
  refine Ev.succ ?_
  simp only [spec_vfByFlips.l1]
  rw [rdM_at cells k (by omega)]
  rw [List.drop_eq_getElem_cons (show k < cells.length by omega),setAll] at e
  refine Ev.pos (by omega) (Ev.pos (by omega) (Ev.pos (by omega) ?_))
  refine vfByFlips_l2 cells col s acc X k (by omega) (cells[k]'(by omega)) (hr _ (List.getElem_mem _)) _ 0 cs2 (Nat.zero_add _) h htk ?_
  rw [List.drop_zero,w64 (x := (k : Int) + 1) (by omega) (by omega)]
  exact ih (k + 1) _ (by omega) hg.1 (fun q hq y hy => by rw [hg.2]; exact ht q hq y hy) e
theorem vfByFlips_ev {R C : Int} {cs : List S88} (h : GoodB R C cs) {cells : List (List Int)} (hc : cells.length ≤ 4) (hr : ∀ q ∈ cells,q.length ≤ 1048576) (ht : ∀ q ∈ cells,∀ y ∈ q,turns cs y = true) {col : Int} (c0 : 0 ≤ col) (c1 : col < C) (s : Int) : Ev (fun k => spec_vfByFlips.f k R C cs col cells s) (flipV R C cs col cells s (pow2 cells.length).toNat) := by
 have l90 := h.len90
 have hs := shl_pow (n := (cells.length : Int)) (by omega) (by omega)
 have hp := pow2_nn (n := (cells.length : Int)) (by omega) (by omega)
 have key : ∀ (m X : Nat),X + m = (pow2 cells.length).toNat → Ev (fun k => spec_vfByFlips.l0 k col cells s (flipV R C cs col cells s X) (X : Int) R C cs) (flipV R C cs col cells s (pow2 cells.length).toNat) := by
  intro m
  induction m with
  | zero =>
   intro X hX
   refine Ev.succ ?_
   simp only [spec_vfByFlips.l0]
   rw [hs.2,hs.1]
   exact Ev.pos (by omega) (Ev.neg (by omega) (Ev.ret (by rw [← hX]; rfl)))
  | succ m ih =>
   intro X hX
   refine Ev.succ ?_
   simp only [spec_vfByFlips.l0]
   rw [hs.2,hs.1]
   refine Ev.pos (by omega) (Ev.pos (by omega) (Ev.bind (Ev.val (boOwn_ok R C cs (by omega))) ?_))
   refine vfByFlips_l1 cells hc hr c0 c1 s _ (by rw [flipV_len]; omega) X _ 0 cs (Nat.zero_add _) h ht ?_
   rw [List.drop_zero,w64 (x := (X : Int) + 1) (by omega) (by omega)]
   have := ih (X + 1) (by omega)
   rw [flipV_succ] at this
   exact this
 unfold spec_vfByFlips.f
 exact key (pow2 cells.length).toNat 0 (by omega)
theorem flipValues_l2 {R C : Int} {cs : List S88} (cells : List (List Int)) (col s : Int) (acc : List Int) (X : Nat) (k : Nat) (hk : k < 4) (row : List Int) (hrow : row.length ≤ 1048576) {r : List Int} : ∀ (m j : Nat) (cs2 : List S88),j + m = row.length → GoodB R C cs2 → (∀ y ∈ row,turns cs2 y = true) →
  Ev (fun n => impl_flipValues.l1 n col cells s acc (X : Int) cells (cells.length : Int) (wrap64 ((k : Int) + 1)) R C cs R C (setRow cs2 (fbit X k) (row.drop j))) r → Ev (fun n => impl_flipValues.l2 n col cells s acc (X : Int) (k : Int) cells (cells.length : Int) (k : Int) row (row.length : Int) j R C cs R C cs2) r := by
 have hb := fbit_01 X k
 intro m
 induction m with
 | zero =>
  intro j cs2 hj h ht e
  refine Ev.succ ?_
  simp only [impl_flipValues.l2]
  rw [List.drop_eq_nil_of_le (by omega),setRow] at e
  exact Ev.neg (by omega) e
 | succ m ih =>
  intro j cs2 hj h ht e
  have htj := ht _ (List.getElem_mem (show j < row.length by omega))
  obtain ⟨h0,h1,hkk⟩ := turns_iff htj
  refine Ev.succ ?_
  simp only [impl_flipValues.l2]
  rw [rd_at row j (by omega),w64 (x := (j : Int) + 1) (by omega) (by omega)]
  rw [List.drop_eq_getElem_cons (show j < row.length by omega),setRow] at e
  have := ih (j + 1) (cs2.set (row[j]).toNat ⟨(rd_T88 cs2 row[j]).f0,fbit X k⟩) (by omega) (set_goodB h htj hb.1 hb.2) (fun y hy => by rw [turns_set]; exact ht y hy) e
  exact Ev.pos (by omega) (Ev.pos (by omega) (Ev.pos (by omega) (Ev.pos (by omega) (Ev.pos h0 (Ev.pos h1 this)))))
theorem flipValues_l1 {R C : Int} {cs : List S88} (cells : List (List Int)) (hc : cells.length ≤ 4) (hr : ∀ q ∈ cells,q.length ≤ 1048576) {col : Int} (c0 : 0 ≤ col) (c1 : col < C) (s : Int) (acc : List Int) (ha : acc.length ≤ 16) (X : Nat) {r : List Int} : ∀ (m k : Nat) (cs2 : List S88),k + m = cells.length → GoodB R C cs2 → (∀ q ∈ cells,∀ y ∈ q,turns cs2 y = true) →
  Ev (fun n => impl_flipValues.l0 n col cells s (acc ++ [valR R C (setAll X (cells.drop k) k cs2) s col]) (wrap64 ((X : Int) + 1)) R C cs) r → Ev (fun n => impl_flipValues.l1 n col cells s acc (X : Int) cells (cells.length : Int) k R C cs R C cs2) r := by
 intro m
 induction m with
 | zero =>
  intro k cs2 hk h ht e
  refine Ev.succ ?_
  simp only [impl_flipValues.l1]
  rw [List.drop_eq_nil_of_le (by omega),setAll] at e
  exact Ev.neg (by omega) (Ev.bind (valueOfEntry_ev h s c0 c1) (Ev.pos (by omega) e))
 | succ m ih =>
  intro k cs2 hk h ht e
  have hb := fbit_01 X k
  have htk := ht _ (List.getElem_mem (show k < cells.length by omega))
  have hg := setRow_good hb.1 hb.2 (cells[k]'(by omega)) cs2 h htk
  refine Ev.succ ?_
  simp only [impl_flipValues.l1]
  rw [rdM_at cells k (by omega)]
  rw [List.drop_eq_getElem_cons (show k < cells.length by omega),setAll] at e
  refine Ev.pos (by omega) (Ev.pos (by omega) (Ev.pos (by omega) ?_))
  refine flipValues_l2 cells col s acc X k (by omega) (cells[k]'(by omega)) (hr _ (List.getElem_mem _)) _ 0 cs2 (Nat.zero_add _) h htk ?_
  rw [List.drop_zero,w64 (x := (k : Int) + 1) (by omega) (by omega)]
  exact ih (k + 1) _ (by omega) hg.1 (fun q hq y hy => by rw [hg.2]; exact ht q hq y hy) e
theorem flipValues_ev {R C : Int} {cs : List S88} (h : GoodB R C cs) {cells : List (List Int)} (hc : cells.length ≤ 4) (hr : ∀ q ∈ cells,q.length ≤ 1048576) (ht : ∀ q ∈ cells,∀ y ∈ q,turns cs y = true) {col : Int} (c0 : 0 ≤ col) (c1 : col < C) (s : Int) : Ev (fun k => impl_flipValues.f k R C cs col cells s) (flipV R C cs col cells s (pow2 cells.length).toNat) := by
 have l90 := h.len90
 have hs := shl_pow (n := (cells.length : Int)) (by omega) (by omega)
 have hp := pow2_nn (n := (cells.length : Int)) (by omega) (by omega)
 have key : ∀ (m X : Nat),X + m = (pow2 cells.length).toNat → Ev (fun k => impl_flipValues.l0 k col cells s (flipV R C cs col cells s X) (X : Int) R C cs) (flipV R C cs col cells s (pow2 cells.length).toNat) := by
  intro m
  induction m with
  | zero =>
   intro X hX
   refine Ev.succ ?_
   simp only [impl_flipValues.l0]
   rw [hs.1]
   exact Ev.neg (by omega) (Ev.ret (by rw [← hX]; rfl))
  | succ m ih =>
   intro X hX
   refine Ev.succ ?_
   simp only [impl_flipValues.l0]
   rw [hs.1]
   refine Ev.pos (by omega) (Ev.bind (Ev.val (copyBoard_ok R C cs (by omega))) ?_)
   refine flipValues_l1 cells hc hr c0 c1 s _ (by rw [flipV_len]; omega) X _ 0 cs (Nat.zero_add _) h ht ?_
   rw [List.drop_zero,w64 (x := (X : Int) + 1) (by omega) (by omega)]
   have := ih (X + 1) (by omega)
   rw [flipV_succ] at this
   exact this
 unfold impl_flipValues.f
 exact key (pow2 cells.length).toNat 0 (by omega)
theorem flipsOk_of {R C : Int} {cs : List S88} {col : Int} {cells : List (List Int)} {s : Int} (h : flipsOk R C cs col cells s = true) : GoodB R C cs ∧ 0 ≤ col ∧ col < C ∧ cells.length ≤ 4 ∧ 1 ≤ cells.length ∧ ∀ q ∈ cells,∀ y ∈ q,turns cs y = true := by
 unfold flipsOk at h
 rw [Bool.and_eq_true,Bool.and_eq_true,Bool.and_eq_true,inR_iff] at h
 obtain ⟨hb,h0,h1⟩ := validE_of h.1
 exact ⟨hb,h0,h1,by omega,by omega,rowsGo_turns cs cells [] h.2.1.1⟩
def wrgA (R C : Int) (cs : List S88) (col : Int) (cells : List (List Int)) (s : Int) (n : Int) (l : List Int) : List Int × Bool :=
 if flipsOk R C cs col cells s = true ∧ tgood n l = true ∧ n = (cells.length : Int) then (wrongL (flipV R C cs col cells s (pow2 cells.length).toNat) l 0,true) else ([],false)
theorem wrg_len {R C : Int} {cs : List S88} {col : Int} {cells : List (List Int)} {s n : Int} {l : List Int} (h4 : cells.length ≤ 4) (ht : tgood n l = true) (hn : n = (cells.length : Int)) : (flipV R C cs col cells s (pow2 cells.length).toNat).length ≤ l.length ∧ (flipV R C cs col cells s (pow2 cells.length).toNat).length ≤ 16 := by
 have hp := pow2_nn (n := (cells.length : Int)) (by omega) (by omega)
 unfold tgood at ht
 rw [Bool.and_eq_true,Bool.and_eq_true,decide_eq_true_eq] at ht
 have := ht.2.1
 rw [hn] at this
 rw [flipV_len]
 omega
theorem specWrg_ev (R C : Int) (cs : List S88) (col : Int) (cells : List (List Int)) (s n : Int) (l : List Int) (hl : cs.length ≤ 1048576) (hc : cells.length ≤ 1048576) (ht : tot cells ≤ 1048576) : Ev (fun k => spec_WrongByFlips.f k R C cs col cells s n l) (wrgA R C cs col cells s n l) := by
 have jt : ¬ (flipsOk R C cs col cells s = true ∧ tgood n l = true ∧ n = (cells.length : Int)) → Ev (fun k => spec_WrongByFlips.j0 k col cells s true R C cs n l) (wrgA R C cs col cells s n l) := fun hf => by
  refine Ev.succ ?_
  simp only [spec_WrongByFlips.j0]
  exact Ev.pos (by trivial) (Ev.ret (by unfold wrgA; rw [if_neg hf]))
 unfold spec_WrongByFlips.f
 refine Ev.bind (vfFlips_ev R C cs col cells s hl hc ht) ?_
 by_cases g : flipsOk R C cs col cells s = true
 case neg => exact Ev.neg g (jt (fun h => g h.1))
 obtain ⟨hb,c0,c1,h4,h1,htu⟩ := flipsOk_of g
 refine Ev.pos g (Ev.bind (ttGood_ev _ _) ?_)
 by_cases g2 : tgood n l = true
 case neg => exact Ev.neg g2 (jt (fun h => g2 h.2.1))
 refine Ev.pos g2 ?_
 by_cases g3 : n = (cells.length : Int)
 case neg => rw [show (n != (cells.length : Int)) = true by simpa using g3]; exact jt (fun h => g3 h.2.2)
 rw [show (n != (cells.length : Int)) = false by simpa using g3]
 obtain ⟨w1,w2⟩ := wrg_len (R := R) (C := C) (cs := cs) (col := col) (s := s) h4 g2 g3
 refine Ev.succ ?_
 simp only [spec_WrongByFlips.j0]
 exact Ev.neg (by simp) (Ev.bind (vfByFlips_ev hb h4 (fun q hq => by have := tot_row hq; omega) htu c0 c1 s) (Ev.bind (vfWrong_ev _ l w1 (by omega)) (Ev.ret (by unfold wrgA; rw [if_pos ⟨g,g2,g3⟩]))))
theorem implWrg_ev (R C : Int) (cs : List S88) (col : Int) (cells : List (List Int)) (s n : Int) (l : List Int) (hc : cells.length ≤ 1048576) (ht : tot cells ≤ 1048576) : Ev (fun k => impl_WrongByFlips.f k R C cs col cells s n l) (wrgA R C cs col cells s n l) := by
 have hrow : ∀ q ∈ cells,q.length ≤ 1048576 := fun q hq => by have := tot_row hq; omega
 have jt : ¬ (flipsOk R C cs col cells s = true ∧ tgood n l = true ∧ n = (cells.length : Int)) → Ev (fun k => impl_WrongByFlips.j0 k col cells s true R C cs n l) (wrgA R C cs col cells s n l) := fun hf => by
  refine Ev.succ ?_
  simp only [impl_WrongByFlips.j0]
  exact Ev.pos (by trivial) (Ev.ret (by unfold wrgA; rw [if_neg hf]))
 unfold impl_WrongByFlips.f
 refine Ev.bind (readByFlips_ev R C cs col cells s hc hrow) ?_
 by_cases g : flipsOk R C cs col cells s = true
 case neg => exact Ev.neg g (jt (fun h => g h.1))
 obtain ⟨hb,c0,c1,h4,h1,htu⟩ := flipsOk_of g
 refine Ev.pos g (Ev.bind (IsTable_ev _ _) ?_)
 by_cases g2 : tgood n l = true
 case neg => exact Ev.neg g2 (jt (fun h => g2 h.2.1))
 refine Ev.pos g2 ?_
 by_cases g3 : n = (cells.length : Int)
 case neg => rw [show (n != (cells.length : Int)) = true by simpa using g3]; exact jt (fun h => g3 h.2.2)
 rw [show (n != (cells.length : Int)) = false by simpa using g3]
 obtain ⟨w1,w2⟩ := wrg_len (R := R) (C := C) (cs := cs) (col := col) (s := s) h4 g2 g3
 refine Ev.succ ?_
 simp only [impl_WrongByFlips.j0]
 exact Ev.neg (by simp) (Ev.bind (flipValues_ev hb h4 hrow htu c0 c1 s) (Ev.bind (wrongIndices_ev _ n l w1 (by omega)) (Ev.ret (by unfold wrgA; rw [if_pos ⟨g,g2,g3⟩]))))
theorem wrgA_len (R C : Int) (cs : List S88) (col : Int) (cells : List (List Int)) (s n : Int) (l : List Int) : (wrgA R C cs col cells s n l).1.length ≤ 16 := by
 unfold wrgA
 split
 ·rename_i g
  obtain ⟨hb,c0,c1,h4,h1,htu⟩ := flipsOk_of g.1
  obtain ⟨w1,w2⟩ := wrg_len (R := R) (C := C) (cs := cs) (col := col) (s := s) h4 g.2.1 g.2.2
  have := wrongL_len (flipV R C cs col cells s (pow2 cells.length).toNat) l 0
  simp only []; omega
 ·simp
theorem markBoard_ev (R C : Int) (p : List S88) (hp : p.length ≤ 1048576) : Ev (fun k => laws_markBoard.f k R C p 1) (1 + 2 * p.length,mkC p.length 1) := by
 unfold laws_markBoard.f
 exact Ev.bind (markCellS_ev p 1 (by omega) (by omega) (by omega)) (Ev.now _)
theorem szBoardG (R C : Int) (p : List S106) (hp : p.length ≤ maxLen) {t0 : Int} (h0 : 0 ≤ t0) (h1 : t0 ≤ 1048576) :
  (∃ t,laws_szBoard.f R C p t0 = some t ∧ t < 0) ∨ (p.length ≤ 1048576 ∧ ∃ t,laws_szBoard.f R C p t0 = some t ∧ ¬ t < 0 ∧ t ≤ 1048576) := by
 have hm : maxLen = 9223372036854775807 := by decide
 unfold laws_szBoard.f laws_szCellS.f
 rw [w64 (x := t0 - (p.length : Int)) (by omega) (by omega)]
 by_cases h2 : t0 - (p.length : Int) < 0
 ·left
  rw [if_pos h2,Option.bind_some,if_pos (by omega)]
  exact ⟨_,rfl,by omega⟩
 right
 rw [if_neg h2,Option.bind_some,if_neg h2]
 exact ⟨by omega,_,rfl,h2,by omega⟩
theorem szTableG (n : Int) (l : List Int) (hl : l.length ≤ maxLen) {t0 : Int} (h0 : 0 ≤ t0) (h1 : t0 ≤ 1048576) :
  (∃ t,laws_szTable.f n l t0 = some t ∧ t < 0) ∨ (l.length ≤ 1048576 ∧ ∃ t,laws_szTable.f n l t0 = some t ∧ ¬ t < 0 ∧ t ≤ 1048576) := by
 have hm : maxLen = 9223372036854775807 := by decide
 unfold laws_szTable.f laws_szIntS.f
 rw [w64 (x := t0 - (l.length : Int)) (by omega) (by omega)]
 by_cases h2 : t0 - (l.length : Int) < 0
 ·left
  rw [if_pos h2,Option.bind_some,if_pos (by omega)]
  exact ⟨_,rfl,by omega⟩
 right
 rw [if_neg h2,Option.bind_some,if_neg h2]
 exact ⟨by omega,_,rfl,h2,by omega⟩
theorem FnExactWrongByFlips : StmtFnExactWrongByFlips.Stmt := by
 intro R C p col cells s n l _ _ hp _ hcl _ _ hl4
 suffices h_ : Ev (fun k => laws_FnExactWrongByFlips.f k R C p col cells s n l) true by
  obtain ⟨K,hK⟩ := h_
  exact ⟨K,hK K (Nat.le_refl _)⟩
 unfold laws_FnExactWrongByFlips.f
 rcases szBoardG R C p hp.2 (t0 := 1048576) (by omega) (by omega) with ⟨t,h,ht⟩ | ⟨hp,t,h,ht,htv⟩
 ·exact Ev.bind (Ev.val h) (Ev.pos ht (Ev.now _))
 have hpm : (p.map cv).length ≤ 1048576 := by simp; omega
 refine Ev.bind (Ev.val h) (Ev.neg ht ?_)
 rcases szIntSSG cells hcl.2 (fun r hr => (hcl.1 r hr).2) (show 0 ≤ t by omega) htv with ⟨u,h2,hu⟩ | ⟨hl,htot,u,h2,hu,huv⟩
 ·exact Ev.bind h2 (Ev.pos hu (Ev.now _))
 refine Ev.bind h2 (Ev.neg hu ?_)
 have hrow : ∀ r ∈ cells,r.length ≤ 1048576 := fun r hr => by have := tot_row hr; omega
 have hto := toBoard_ev R C p hp
 have hti := toIntSS_ev cells hl hrow
 have hei := eqIntSS_ev cells hl hrow
 rcases szTableG n l hl4.2 (show 0 ≤ u by omega) huv with ⟨v,h3,hv⟩ | ⟨hl4,v,h3,hv,hvv⟩
 ·exact Ev.bind (Ev.val h3) (Ev.pos hv (Ev.now _))
 refine Ev.bind (Ev.val h3) (Ev.neg hv ?_)
 have htt : Ev (fun k => laws_toTable.f k n l) (n,l) := by
  unfold laws_toTable.f
  exact Ev.bind (toIntS_ev l (by omega)) (Ev.now _)
 have het : Ev (fun k => laws_eqTable.f k n l n l) true := by
  unfold laws_eqTable.f
  exact Ev.pos rfl (Ev.bind (eqIntS_ev l l (by omega)) (Ev.pos (by simp) (Ev.now _)))
 have hS := specWrg_ev R C (p.map cv) col cells s n l hpm hl htot
 have hI := implWrg_ev R C (p.map cv) col cells s n l hl htot
 have hAl := wrgA_len R C (p.map cv) col cells s n l
 generalize wrgA R C (p.map cv) col cells s n l = A at hS hI hAl
 have heq : Ev (fun k => laws_eqIntS.f k A.1 A.1) true := Ev.cast (eqIntS_ev A.1 A.1 (by omega)) (by simp)
 have hh := heldIntS_ev A.1.length 1 (by omega) (by omega) (by omega)
 refine Ev.bind hto (Ev.bind hti (Ev.bind htt (Ev.bind hS (Ev.bind hto (Ev.bind hti (Ev.bind htt (Ev.bind hI (Ev.bind heq (Ev.pos rfl (Ev.succ ?_))))))))))
 simp only [laws_FnExactWrongByFlips.j0]
 refine Ev.neg (by simp) (Ev.bind hto (Ev.bind (eqBoard_ev _ _ _ _ _ _ hpm) (Ev.pos (by simp) (Ev.bind hti (Ev.bind hei (Ev.pos rfl (Ev.bind htt (Ev.bind het (Ev.pos rfl ?_)))))))))
 refine Ev.bind (markBoard_ev _ _ _ hpm) (Ev.bind (markIntSS_ev cells hl htot _ (by omega) (by omega)) (Ev.bind (a := ((1 + 2 * (p.map cv).length + tot cells + l.length : Int),mkI l.length (1 + 2 * (p.map cv).length + tot cells))) ?_ (Ev.neg (by omega) (Ev.bind heq (Ev.pos rfl (Ev.succ ?_))))))
 ·unfold laws_markTable.f
  exact Ev.bind (markIntS_ev l _ (by omega) (by omega) (by omega)) (Ev.now _)
 simp only [laws_FnExactWrongByFlips.j1]
 refine Ev.neg (by simp) (Ev.bind (markIntS_ev A.1 1 (by omega) (by omega) (by omega)) (Ev.bind hh (Ev.neg (by omega) (Ev.pos rfl ?_))))
 refine Ev.bind hto (Ev.bind hti (Ev.bind htt (Ev.bind hI (Ev.bind heq (Ev.pos rfl (Ev.succ ?_))))))
 simp only [laws_FnExactWrongByFlips.j2]
 exact Ev.neg (by simp) (Ev.bind hh (Ev.neg (by omega) (Ev.pos rfl (Ev.now _))))
end Go.Proofs.Ytipaimgpmgbkiaa.Pure
