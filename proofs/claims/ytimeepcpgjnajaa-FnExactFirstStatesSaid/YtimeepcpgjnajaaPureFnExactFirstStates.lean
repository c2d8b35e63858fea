/- Proved: the pure statement of FnExactFirstStates, over numbers and lists; the lemmas on the printed functions that it takes. No further conditions. -/
import Derived.Test.YtimeepcpgjnajaaStmtFnExactFirstStates
import Derived.Test.YtimeepcpgjnajaaF1
import Derived.Test.YtimeepcpgjnajaaF2
import Derived.Test.YtimeepcpgjnajaaF3
import Derived.Test.YtimeepcpgjnajaaF4
import Derived.Test.YtimeepcpgjnajaaF5
import Derived.Test.YtimeepcpgjnajaaF9
namespace Go.Proofs.Ytimeepcpgjnajaa.Pure
open Go.RowKit Go.Proofs.Ytimeepcpgjnajaa.F Go.Proofs.YtimeepcpgjnajaaV.PrintWords Go.Proofs.YtimeepcpgjnajaaV.PrintLast Go.Proofs.Ytimeepcpgjnajaa
set_option linter.unusedVariables false

theorem Ev.succ {α : Type} {g : Nat → Option α} {r : α} (h : Ev (fun k => g (k + 1)) r) : Ev g r := Ev.step (fun _ => rfl) h
theorem Ev.pos {α : Type} {c : Prop} [Decidable c] {f g : Nat → Option α} {r : α} (hc : c) (h : Ev f r) : Ev (fun k => if c then f k else g k) r := Ev.congr (fun _ => if_pos hc) h
theorem Ev.neg {α : Type} {c : Prop} [Decidable c] {f g : Nat → Option α} {r : α} (hc : ¬ c) (h : Ev g r) : Ev (fun k => if c then f k else g k) r := Ev.congr (fun _ => if_neg hc) h
theorem Ev.ite {α : Type} {c : Prop} [Decidable c] {f g : Nat → Option α} {r s : α} (h : c → Ev f r) (h' : ¬ c → Ev g s) : Ev (fun k => if c then f k else g k) (if c then r else s) := by
 by_cases hc : c
 ·rw [if_pos hc]; exact Ev.pos hc (h hc)
 ·rw [if_neg hc]; exact Ev.neg hc (h' hc)
theorem Ev.ret {α : Type} {r s : α} (h : s = r) : Ev (fun _ => some s) r := by subst h; exact Ev.now _
theorem Ev.val {α : Type} {o : Option α} {r : α} (h : o = some r) : Ev (fun _ => o) r := ⟨0,fun _ _ => h⟩
theorem Ev.cast {α : Type} {g : Nat → Option α} {r s : α} (h : Ev g s) (e : s = r) : Ev g r := e ▸ h
theorem w64 {x : Int} (h : -9223372036854775808 ≤ x) (h' : x ≤ 9223372036854775807) : wrap64 x = x := by unfold wrap64; omega
theorem rd_at (l : List Int) (i : Nat) (h : i < l.length) : rd l (i : Int) = l[i] := by
 unfold rd
 rw [Int.toNat_natCast,List.getD_eq_getElem?_getD,List.getElem?_eq_getElem h]; rfl
theorem rdC_at (l : List S27) (i : Nat) (h : i < l.length) : rd_T27 l (i : Int) = l[i] := by
 unfold rd_T27
 rw [Int.toNat_natCast,List.getD_eq_getElem?_getD,List.getElem?_eq_getElem h]; rfl
def inR (x lo hi : Int) : Bool := decide (lo ≤ x) && decide (x ≤ hi)
theorem inR_iff {x lo hi : Int} : inR x lo hi = true ↔ lo ≤ x ∧ x ≤ hi := by unfold inR; simp
theorem inR_lo {x lo hi : Int} (h : x < lo) : inR x lo hi = false := Bool.eq_false_iff.mpr (fun g => absurd (inR_iff.1 g).1 (by omega))
theorem inR_hi {x lo hi : Int} (h : x > hi) : inR x lo hi = false := Bool.eq_false_iff.mpr (fun g => absurd (inR_iff.1 g).2 (by omega))
theorem l1In_ok (x lo hi : Int) : spec_l1In.f x lo hi = some (inR x lo hi) := by
 unfold spec_l1In.f inR
 by_cases h : lo ≤ x
 ·rw [if_pos (by omega)]; simp [h]
 ·rw [if_neg (by omega)]; simp [h]
def turning (c : S27) : Bool := decide (c.f0 = 3) || decide (c.f0 = 6)
def goodCell (c : S27) : Bool := inR c.f0 0 7 && (decide (c.f1 = 0) || (decide (c.f1 = 1) && turning c))
theorem turning_ok (c : S27) : spec_paTurning.f c.f0 c.f1 = some (turning c) := by
 unfold spec_paTurning.f turning
 by_cases h : c.f0 = 3
 ·rw [if_pos h]; simp [h]
 ·rw [if_neg h,decide_eq_false h,Bool.false_or]; rfl
theorem paGood_ok (c : S27) : spec_paGood.f c.f0 c.f1 = some (goodCell c) := by
 unfold spec_paGood.f goodCell
 rw [l1In_ok,Option.bind_some]
 by_cases h : inR c.f0 0 7 = true
 ·rw [if_pos h,h,Bool.true_and]
  by_cases h1 : c.f1 = 0
  ·rw [if_pos h1,decide_eq_true h1]; rfl
  ·rw [if_neg h1,decide_eq_false h1,Bool.false_or]
   by_cases h2 : c.f1 = 1
   ·rw [if_pos h2,turning_ok,Option.bind_some,decide_eq_true h2,Bool.true_and]
   ·rw [if_neg h2,decide_eq_false h2,Bool.false_and]
 ·rw [if_neg h,Bool.eq_false_iff.mpr h,Bool.false_and]
theorem IsCell_ok (c : S27) : impl_IsCell.f c.f0 c.f1 = some (goodCell c) := by
 unfold impl_IsCell.f goodCell turning inR
 by_cases h1 : c.f0 < 0
 ·rw [if_pos h1,decide_eq_false (show ¬ 0 ≤ c.f0 by omega)]; rfl
 rw [if_neg h1,decide_eq_true (show 0 ≤ c.f0 by omega)]
 by_cases h2 : c.f0 > 7
 ·rw [if_pos h2,decide_eq_false (show ¬ c.f0 ≤ 7 by omega)]; rfl
 rw [if_neg h2,decide_eq_true (show c.f0 ≤ 7 by omega)]
 by_cases h3 : c.f1 = 0
 ·rw [if_neg (by omega),if_neg (by omega),if_pos h3,decide_eq_true h3]; rfl
 rw [decide_eq_false h3]
 by_cases h4 : c.f1 = 1
 ·rw [if_neg (by omega),if_neg (by omega),if_neg h3,decide_eq_true h4]
  by_cases h5 : c.f0 = 3
  ·rw [if_pos h5,decide_eq_true h5]; rfl
  ·rw [if_neg h5,decide_eq_false h5]; rfl
 rw [decide_eq_false h4]
 by_cases h6 : c.f1 < 0
 ·rw [if_pos h6]; rfl
 ·rw [if_neg h6,if_pos (by omega)]; rfl
theorem cell_eq_iff (a b : S27) : (a.f0 == b.f0 && (a.f1 == b.f1)) = true ↔ a = b := by
 cases a; cases b; simp
instance : DecidableEq S27 := fun a b => if h : (a.f0 == b.f0 && (a.f1 == b.f1)) = true then isTrue ((cell_eq_iff a b).1 h) else isFalse fun e => h ((cell_eq_iff a b).2 e)
theorem eqIntS_ev (a b : List Int) (ha : a.length ≤ 4611686018427387904) : Ev (fun k => laws_eqIntS.f k a b) (decide (a = b)) := by
 have key : ∀ (n i : Nat),a.length = b.length → i + n = a.length → Ev (fun k => laws_eqIntS.l0 k a b i) (decide (a.drop i = b.drop i)) := by
  intro n
  induction n with
  | zero =>
   intro i hl hi
   refine Ev.succ ?_
   simp only [laws_eqIntS.l0]
   refine Ev.neg (by omega) (Ev.ret ?_)
   rw [List.drop_eq_nil_of_le (by omega),List.drop_eq_nil_of_le (by omega)]; simp
  | succ n ih =>
   intro i hl hi
   refine Ev.succ ?_
   simp only [laws_eqIntS.l0]
   refine Ev.pos (by omega) (Ev.pos (by omega) (Ev.pos (by omega) ?_))
   rw [rd_at a i (by omega),rd_at b i (by omega),w64 (by omega) (by omega)]
   have e := ih (i + 1) hl (by omega)
   rw [List.drop_eq_getElem_cons (show i < a.length by omega),List.drop_eq_getElem_cons (show i < b.length by omega)]
   by_cases hc : a[i] = b[i]
   ·refine Ev.pos hc (Ev.cast e ?_)
    rw [hc]
    simp only [List.cons.injEq,true_and]
   ·exact Ev.neg hc (Ev.ret (by simp only [List.cons.injEq,hc,false_and,decide_false]))
 show Ev (fun k => if (a.length : Int) = (b.length : Int) then laws_eqIntS.l0 k a b 0 else some false) _
 by_cases hl : a.length = b.length
 ·exact Ev.pos (by omega) (key a.length 0 hl (by omega))
 ·refine Ev.neg (by omega) (Ev.ret ?_)
  have : a ≠ b := fun h => hl (by rw [h])
  simp [this]
theorem set_at {α : Type} (p q : List α) (x y : α) (i : Nat) (hi : p.length = i) : (p ++ x :: q).set i y = p ++ y :: q := by
 subst hi; simp
def cv (c : S80) : S27 := ⟨c.f0,c.f1⟩
theorem rdL_at (l : List S80) (i : Nat) (h : i < l.length) : rd_T80 l (i : Int) = l[i] := by
 unfold rd_T80
 rw [Int.toNat_natCast,List.getD_eq_getElem?_getD,List.getElem?_eq_getElem h]; rfl
theorem toCellS_ev (a : List S80) (ha : a.length ≤ 17592186044415) : Ev (fun k => laws_toCellS.f k a) (a.map cv) := by
 have key : ∀ (n i : Nat),i + n = a.length → Ev (fun k => laws_toCellS.l0 k a ((a.map cv).take i ++ List.replicate n z27) i) (a.map cv) := by
  intro n
  induction n with
  | zero =>
   intro i hi
   refine Ev.succ ?_
   simp only [laws_toCellS.l0]
   refine Ev.neg (by omega) (Ev.ret ?_)
   rw [List.take_of_length_le (by simp; omega)]; simp
  | succ n ih =>
   intro i hi
   refine Ev.succ ?_
   simp only [laws_toCellS.l0,laws_toCell.f,Option.bind_some]
   have hl : ((a.map cv).take i ++ List.replicate (n + 1) z27).length = a.length := by simp; omega
   refine Ev.pos (by omega) (Ev.pos (by omega) (Ev.pos (by rw [hl]; omega) ?_))
   rw [rdL_at a i (by omega),w64 (by omega) (by omega)]
   have e : ((a.map cv).take i ++ List.replicate (n + 1) z27).set (i : Int).toNat (⟨a[i].f0,a[i].f1⟩ : S27) = (a.map cv).take (i + 1) ++ List.replicate n z27 := by
    rw [List.replicate_succ,set_at _ _ _ _ _ (by simp; omega),List.take_succ_eq_append_getElem (by simp; omega),List.append_assoc,List.getElem_map]; rfl
   rw [e]
   exact ih (i + 1) (by omega)
 show Ev (fun k => if 0 ≤ (a.length : Int) then (if ((a.length : Int) : Int).toNat ≤ 17592186044416 then (laws_toCellS.l0 k a (List.replicate ((a.length : Int) : Int).toNat z27) 0) else none) else none) (a.map cv)
 refine Ev.pos (by omega) (Ev.pos (by omega) ?_)
 have := key a.length 0 (by omega)
 simpa using this
theorem eqCellS_ev (a b : List S27) (ha : a.length ≤ 4611686018427387904) : Ev (fun k => laws_eqCellS.f k a b) (decide (a = b)) := by
 have key : ∀ (n i : Nat),a.length = b.length → i + n = a.length → Ev (fun k => laws_eqCellS.l0 k a b i) (decide (a.drop i = b.drop i)) := by
  intro n
  induction n with
  | zero =>
   intro i hl hi
   refine Ev.succ ?_
   simp only [laws_eqCellS.l0]
   refine Ev.neg (by omega) (Ev.ret ?_)
   rw [List.drop_eq_nil_of_le (by omega),List.drop_eq_nil_of_le (by omega)]; simp
  | succ n ih =>
   intro i hl hi
   refine Ev.succ ?_
   simp only [laws_eqCellS.l0]
   refine Ev.pos (by omega) (Ev.pos (by omega) (Ev.pos (by omega) ?_))
   rw [rdC_at a i (by omega),rdC_at b i (by omega),w64 (by omega) (by omega)]
   have e := ih (i + 1) hl (by omega)
   rw [List.drop_eq_getElem_cons (show i < a.length by omega),List.drop_eq_getElem_cons (show i < b.length by omega)]
   by_cases hc : a[i] = b[i]
   ·refine Ev.bind (a := true) (Ev.val ?_) (Ev.pos rfl (Ev.cast e ?_))
    ·rw [hc]; unfold laws_eqCell.f; rw [if_pos rfl,if_pos rfl]
    ·rw [hc]
     simp only [List.cons.injEq,true_and]
   ·refine Ev.bind (a := false) (Ev.val ?_) (Ev.neg (by simp) (Ev.ret (by simp only [List.cons.injEq,hc,false_and,decide_false])))
    unfold laws_eqCell.f
    by_cases h0 : a[i].f0 = b[i].f0
    ·rw [if_pos h0,if_neg (fun h1 => hc ((cell_eq_iff _ _).1 (by simp [h0,h1])))]
    ·rw [if_neg h0]
 show Ev (fun k => if (a.length : Int) = (b.length : Int) then laws_eqCellS.l0 k a b 0 else some false) _
 by_cases hl : a.length = b.length
 ·exact Ev.pos (by omega) (key a.length 0 hl (by omega))
 ·refine Ev.neg (by omega) (Ev.ret ?_)
  have : a ≠ b := fun h => hl (by rw [h])
  simp [this]
theorem mulc {C q R : Int} (hC : 1 ≤ C) (h : q + 1 ≤ R) : C * q + C ≤ C * R := by
 have := Int.mul_le_mul_of_nonneg_left h (show 0 ≤ C by omega)
 rw [Int.mul_add,Int.mul_one] at this
 exact this
theorem mulb {x y m n : Int} (h0 : 0 ≤ x) (h1 : x ≤ m) (g0 : 0 ≤ y) (g1 : y ≤ n) : 0 ≤ x * y ∧ x * y ≤ m * n :=
 ⟨Int.mul_nonneg h0 g0,Int.mul_le_mul h1 g1 g0 (Int.le_trans h0 h1)⟩
structure GoodB (R C : Int) (cs : List S27) : Prop where
 r1 : 1 ≤ R
 r2 : R ≤ 10
 c1 : 1 ≤ C
 c2 : C ≤ 9
 len : (cs.length : Int) = R * C
 good : ∀ c ∈ cs,goodCell c = true
theorem GoodB.le {R C : Int} {cs : List S27} (h : GoodB R C cs) : 1 ≤ R * C ∧ R * C ≤ 90 := by
 have b := mulb (show 0 ≤ R by have := h.r1; omega) h.r2 (show 0 ≤ C by have := h.c1; omega) h.c2
 have b2 : 1 * 1 ≤ R * C := Int.mul_le_mul h.r1 h.c1 (by omega) (by have := h.r1; omega)
 omega
theorem GoodB.len90 {R C : Int} {cs : List S27} (h : GoodB R C cs) : cs.length ≤ 90 := by have := h.le; have := h.len; omega
theorem GoodB.idx {R C : Int} {cs : List S27} (h : GoodB R C cs) {r c : Int} (h0 : 0 ≤ r) (h1 : r < R) (h2 : 0 ≤ c) (h3 : c < C) : 0 ≤ r * C ∧ r * C ≤ 90 ∧ 0 ≤ r * C + c ∧ r * C + c < (cs.length : Int) := by
 have a := mulc h.c1 (show r + 1 ≤ R by omega)
 have b : 0 ≤ r * C := Int.mul_nonneg h0 (by have := h.c1; omega)
 have e := h.le
 rw [h.len]
 rw [Int.mul_comm C r,Int.mul_comm C R] at a
 have := h.c1
 omega
def boardGood (R C : Int) (cs : List S27) : Bool := inR R 1 10 && (inR C 1 9 && (decide ((cs.length : Int) = R * C) && cs.all goodCell))
theorem GoodB.of {R C : Int} {cs : List S27} (h : boardGood R C cs = true) : GoodB R C cs := by
 unfold boardGood at h
 simp only [Bool.and_eq_true,decide_eq_true_eq,inR_iff,List.all_eq_true] at h
 exact ⟨h.1.1,h.1.2,h.2.1.1,h.2.1.2,h.2.2.1,h.2.2.2⟩
theorem boGood_ev (R C : Int) (cs : List S27) (hl : cs.length ≤ 1048576) : Ev (fun k => spec_boGood.f k R C cs) (boardGood R C cs) := by
 have key : ∀ (m i : Nat),i + m = cs.length → Ev (fun k => spec_boGood.l0 k cs (cs.length : Int) i) ((cs.drop i).all goodCell) := by
  intro m
  induction m with
  | zero =>
   intro i hi
   refine Ev.succ ?_
   simp only [spec_boGood.l0]
   rw [List.drop_eq_nil_of_le (by omega)]
   exact Ev.neg (by omega) (Ev.now _)
  | succ m ih =>
   intro i hi
   refine Ev.succ ?_
   simp only [spec_boGood.l0]
   refine Ev.pos (by omega) (Ev.pos (by omega) (Ev.pos (by omega) ?_))
   rw [rdC_at cs i (by omega),w64 (by omega) (by omega),List.drop_eq_getElem_cons (show i < cs.length by omega),List.all_cons]
   refine Ev.bind (Ev.val (paGood_ok _)) ?_
   by_cases h : goodCell cs[i] = true
   ·rw [h,Bool.true_and]
    exact Ev.pos (by trivial) (ih (i + 1) (by omega))
   ·exact Ev.neg h (Ev.ret (by rw [Bool.eq_false_iff.mpr h,Bool.false_and]))
 have jt : Ev (fun k => spec_boGood.j0 k true R C cs) false := by
  refine Ev.succ ?_
  simp only [spec_boGood.j0]
  exact Ev.pos (by trivial) (Ev.now _)
 unfold spec_boGood.f boardGood
 refine Ev.bind (Ev.val (l1In_ok _ _ _)) ?_
 by_cases h1 : inR R 1 10 = true
 case neg => exact Ev.neg h1 (Ev.cast jt (by rw [Bool.eq_false_iff.mpr h1,Bool.false_and]))
 refine Ev.pos h1 (Ev.bind (Ev.val (l1In_ok _ _ _)) ?_)
 rw [h1,Bool.true_and]
 by_cases h2 : inR C 1 9 = true
 case neg => exact Ev.neg h2 (Ev.cast jt (by rw [Bool.eq_false_iff.mpr h2,Bool.false_and]))
 refine Ev.pos h2 ?_
 rw [h2,Bool.true_and]
 have b := mulb (show 0 ≤ R by have := inR_iff.1 h1; omega) (inR_iff.1 h1).2 (show 0 ≤ C by have := inR_iff.1 h2; omega) (inR_iff.1 h2).2
 rw [w64 (x := R * C) (by omega) (by omega)]
 by_cases h3 : (cs.length : Int) = R * C
 case neg =>
  rw [bne_iff_ne.mpr h3,decide_eq_false h3,Bool.false_and]
  exact jt
 rw [bne_eq_false_iff_eq.mpr h3,decide_eq_true h3,Bool.true_and]
 refine Ev.succ ?_
 simp only [spec_boGood.j0]
 exact Ev.neg (by simp) (key cs.length 0 (by omega))
theorem validCells_ev (cs : List S27) : Ev (fun k => impl_validCells.f k cs) (decide (cs.length ≤ 90) && cs.all goodCell) := by
 unfold impl_validCells.f
 by_cases h : (cs.length : Int) > 90
 ·exact Ev.pos h (Ev.ret (by rw [decide_eq_false (by omega)]; rfl))
 refine Ev.neg h ?_
 rw [decide_eq_true (show cs.length ≤ 90 by omega),Bool.true_and]
 have key : ∀ (m i : Nat),i + m = cs.length → Ev (fun k => impl_validCells.l0 k cs (cs.length : Int) i) ((cs.drop i).all goodCell) := by
  intro m
  induction m with
  | zero =>
   intro i hi
   refine Ev.succ ?_
   simp only [impl_validCells.l0]
   rw [List.drop_eq_nil_of_le (by omega)]
   exact Ev.neg (by omega) (Ev.now _)
  | succ m ih =>
   intro i hi
   refine Ev.succ ?_
   simp only [impl_validCells.l0]
   refine Ev.pos (by omega) (Ev.pos (by omega) (Ev.pos (by omega) ?_))
   rw [rdC_at cs i (by omega),w64 (by omega) (by omega),List.drop_eq_getElem_cons (show i < cs.length by omega),List.all_cons]
   refine Ev.bind (Ev.val (IsCell_ok _)) ?_
   by_cases h : goodCell cs[i] = true
   ·rw [h,Bool.true_and]
    exact Ev.pos (by trivial) (ih (i + 1) (by omega))
   ·exact Ev.neg h (Ev.ret (by rw [Bool.eq_false_iff.mpr h,Bool.false_and]))
 exact key cs.length 0 (by omega)
theorem IsBoard_ev (R C : Int) (cs : List S27) : Ev (fun k => impl_IsBoard.f k R C cs) (boardGood R C cs) := by
 unfold impl_IsBoard.f boardGood
 by_cases a1 : R ≥ 1
 case neg => exact Ev.neg a1 (Ev.ret (by rw [inR_lo (by omega)]; rfl))
 refine Ev.pos a1 ?_
 by_cases a2 : R ≤ 10
 case neg => exact Ev.neg a2 (Ev.ret (by rw [inR_hi (by omega)]; rfl))
 refine Ev.pos a2 ?_
 rw [inR_iff.2 ⟨a1,a2⟩,Bool.true_and]
 by_cases a3 : C ≥ 1
 case neg => exact Ev.neg a3 (Ev.ret (by rw [inR_lo (by omega)]; rfl))
 refine Ev.pos a3 ?_
 by_cases a4 : C ≤ 9
 case neg => exact Ev.neg a4 (Ev.ret (by rw [inR_hi (by omega)]; rfl))
 refine Ev.pos a4 ?_
 rw [inR_iff.2 ⟨a3,a4⟩,Bool.true_and]
 have b := mulb (show 0 ≤ R by omega) a2 (show 0 ≤ C by omega) a4
 rw [w64 (x := R * C) (by omega) (by omega)]
 by_cases h3 : (cs.length : Int) = R * C
 case neg => exact Ev.neg h3 (Ev.ret (by rw [decide_eq_false h3,Bool.false_and]))
 refine Ev.pos h3 (Ev.bind (validCells_ev cs) (Ev.ret ?_))
 rw [decide_eq_true h3,decide_eq_true (show cs.length ≤ 90 by omega),Bool.true_and]
theorem boOwn_ok (R C : Int) (cs : List S27) (hl : cs.length ≤ 1048576) : spec_boOwn.f R C cs = some (R,C,cs) := by
 unfold spec_boOwn.f
 simp only [Option.bind_some]
 rw [if_pos (by simp; omega)]; rfl
theorem copyBoard_ok (R C : Int) (cs : List S27) (hl : cs.length ≤ 1048576) : impl_copyBoard.f R C cs = some (R,C,cs) := by
 unfold impl_copyBoard.f
 simp only [Option.bind_some]
 rw [if_pos (by simp; omega)]; rfl
theorem boAt_ok {R C : Int} {cs : List S27} (h : GoodB R C cs) {r c : Int} (h0 : 0 ≤ r) (h1 : r < R) (h2 : 0 ≤ c) (h3 : c < C) : spec_boAt.f R C cs r c = some ((rd_T27 cs (r * C + c)).f0,(rd_T27 cs (r * C + c)).f1) := by
 have b := h.idx h0 h1 h2 h3
 have l := h.len90
 unfold spec_boAt.f
 rw [w64 (x := r * C) (by omega) (by omega),w64 (by omega) (by omega),if_pos b.2.2.1,if_pos b.2.2.2]
theorem szBoard_ok (R C : Int) (p : List S80) (hp : p.length ≤ maxLen) :
  (∃ t,laws_szBoard.f R C p 1048576 = some t ∧ t < 0) ∨ (p.length ≤ 1048576 ∧ ∃ t,laws_szBoard.f R C p 1048576 = some t ∧ ¬ t < 0) := by
 have hm : maxLen = 9223372036854775807 := by decide
 unfold laws_szBoard.f laws_szCellS.f
 rw [w64 (x := 1048576 - (p.length : Int)) (by omega) (by omega)]
 by_cases h1 : (1048576 : Int) - (p.length : Int) < 0
 ·left
  rw [if_pos h1,Option.bind_some,if_pos (by omega)]
  exact ⟨_,rfl,by omega⟩
 right
 rw [if_neg h1,Option.bind_some,if_neg h1]
 exact ⟨by omega,_,rfl,h1⟩
theorem toBoard_ev (R C : Int) (p : List S80) (hp : p.length ≤ 1048576) : Ev (fun k => laws_toBoard.f k R C p) (R,C,p.map cv) := by
 unfold laws_toBoard.f
 exact Ev.bind (toCellS_ev p (by omega)) (Ev.now _)
theorem eqBoard_ev (R C R' C' : Int) (p p' : List S27) (hp : p.length ≤ 1048576) : Ev (fun k => laws_eqBoard.f k R C p R' C' p') (decide (R = R' ∧ C = C' ∧ p = p')) := by
 unfold laws_eqBoard.f
 by_cases h1 : R = R'
 case neg => exact Ev.neg h1 (Ev.ret (by simp [h1]))
 refine Ev.pos h1 ?_
 by_cases h2 : C = C'
 case neg => exact Ev.neg h2 (Ev.ret (by simp [h2]))
 refine Ev.pos h2 (Ev.bind (eqCellS_ev p p' (by omega)) ?_)
 by_cases h3 : p = p'
 case neg => exact Ev.neg (by simp [h3]) (Ev.ret (by simp [h3]))
 exact Ev.pos (by simp [h3]) (Ev.ret (by simp [h1,h2,h3]))
def near (R C i : Int) : List Int := (if 0 < i / C then [i - C] else []) ++ ((if 0 < i % C then [i - 1] else []) ++ ((if i % C + 1 < C then [i + 1] else []) ++ (if i / C + 1 < R then [i + C] else [])))
theorem near_in {R C : Int} {cs : List S27} (h : GoodB R C cs) {i : Int} (h0 : 0 ≤ i) (h1 : i < (cs.length : Int)) : ∀ n ∈ near R C i,0 ≤ n ∧ n < (cs.length : Int) := by
 have hc := h.c1
 have e := Int.mul_ediv_add_emod i C
 have r0 := Int.emod_nonneg i (show C ≠ 0 by omega)
 have r1 := Int.emod_lt_of_pos i (show 0 < C by omega)
 have q0 : 0 ≤ i / C := Int.ediv_nonneg h0 (by omega)
 have hl := h.len
 have cq : 0 ≤ C * (i / C) := Int.mul_nonneg (by omega) q0
 have qR : i / C < R := by
  rcases (show i / C < R ∨ R ≤ i / C by omega) with hq | hq
  ·exact hq
  ·have := Int.mul_le_mul_of_nonneg_left hq (show 0 ≤ C by omega)
   rw [Int.mul_comm C R] at this
   omega
 have m1 := mulc hc (show i / C + 1 ≤ R by omega)
 rw [Int.mul_comm C R] at m1
 intro n hn
 unfold near at hn
 simp only [List.mem_append] at hn
 rcases hn with hn | hn | hn | hn
 ·split at hn
  ·rename_i hq
   have := mulc hc (show 0 + 1 ≤ i / C by omega)
   simp at hn this
   omega
  ·simp at hn
 ·split at hn
  ·simp at hn; omega
  ·simp at hn
 ·split at hn
  ·simp at hn; omega
  ·simp at hn
 ·split at hn
  ·rename_i hq
   have m2 := mulc hc (show (i / C + 1) + 1 ≤ R by omega)
   rw [Int.mul_comm C R,Int.mul_add,Int.mul_one] at m2
   simp at hn
   omega
  ·simp at hn
theorem near_len (R C i : Int) : (near R C i).length ≤ 4 := by
 unfold near
 simp only [List.length_append]
 split <;> split <;> split <;> split <;> simp
def geared (c : S27) : Bool := decide (c.f0 = 6) || decide (c.f0 = 7)
theorem ggGear_ok (c : S27) : spec_ggGear.f c.f0 c.f1 = some (geared c) := by
 unfold spec_ggGear.f geared
 by_cases h : c.f0 = 6
 ·rw [if_pos h,decide_eq_true h]; rfl
 ·rw [if_neg h,decide_eq_false h]; rfl
theorem isGeared_ok (c : S27) : impl_isGeared.f c.f0 c.f1 = some (geared c) := by
 unfold impl_isGeared.f geared
 by_cases h : c.f0 = 6
 ·rw [if_pos h,decide_eq_true h]; rfl
 ·rw [if_neg h,decide_eq_false h]; rfl
theorem ggNear_ev {R C : Int} {cs : List S27} (h : GoodB R C cs) {i : Int} (h0 : 0 ≤ i) (h1 : i < (cs.length : Int)) : Ev (fun k => spec_ggNear.f k R C cs i) (near R C i) := by
 have hc := h.c1
 have hc2 := h.c2
 have hl := h.len90
 have hr2 := h.r2
 have q0 : 0 ≤ i / C := Int.ediv_nonneg h0 (by omega)
 have q1 : i / C ≤ i := Int.ediv_le_self C h0
 have r0 := Int.emod_nonneg i (show C ≠ 0 by omega)
 have r1 := Int.emod_lt_of_pos i (show 0 < C by omega)
 have last : ∀ p : List Int,p.length ≤ 2 → Ev (fun k => spec_ggNear.j1 k i (i / C) (i % C) p R C cs) (p ++ ((if i % C + 1 < C then [i + 1] else []) ++ (if i / C + 1 < R then [i + C] else []))) := by
  intro p hp
  refine Ev.succ ?_
  simp only [spec_ggNear.j1]
  rw [w64 (x := i % C + 1) (by omega) (by omega),w64 (x := i / C + 1) (by omega) (by omega),w64 (x := i + 1) (by omega) (by omega),w64 (x := i + C) (by omega) (by omega)]
  by_cases g1 : i % C + 1 < C
  ·refine Ev.pos g1 (Ev.pos (by omega) (Ev.bind (Ev.now _) ?_))
   rw [if_pos g1]
   by_cases g2 : i / C + 1 < R
   ·refine Ev.pos g2 (Ev.pos (by simp; omega) (Ev.ret ?_))
    rw [if_pos g2,List.append_assoc]
   ·refine Ev.neg g2 (Ev.ret ?_)
    rw [if_neg g2,List.append_nil]
  ·refine Ev.neg g1 ?_
   rw [if_neg g1,List.nil_append]
   by_cases g2 : i / C + 1 < R
   ·refine Ev.pos g2 (Ev.pos (by omega) (Ev.ret ?_))
    rw [if_pos g2]
   ·refine Ev.neg g2 (Ev.ret ?_)
    rw [if_neg g2,List.append_nil]
 have mid : ∀ p : List Int,p.length ≤ 1 → Ev (fun k => spec_ggNear.j0 k i (i / C) (i % C) p R C cs) (p ++ ((if 0 < i % C then [i - 1] else []) ++ ((if i % C + 1 < C then [i + 1] else []) ++ (if i / C + 1 < R then [i + C] else [])))) := by
  intro p hp
  refine Ev.succ ?_
  simp only [spec_ggNear.j0]
  rw [w64 (x := i - 1) (by omega) (by omega)]
  by_cases g : i % C > 0
  ·refine Ev.pos g (Ev.pos (by omega) (Ev.cast (last (p ++ [i - 1]) (by simp; omega)) ?_))
   rw [if_pos g,List.append_assoc]
  ·refine Ev.neg g (Ev.cast (last p (by omega)) ?_)
   rw [if_neg g,List.nil_append]
 unfold spec_ggNear.f near
 rw [Int.tdiv_eq_ediv_of_nonneg h0,Int.tmod_eq_emod_of_nonneg h0,w64 (x := i / C) (by omega) (by omega),w64 (x := i - C) (by omega) (by omega)]
 refine Ev.neg (by omega) ?_
 by_cases g : i / C > 0
 ·refine Ev.pos g (Ev.pos (by simp) (Ev.cast (mid [i - C] (by simp)) ?_))
  rw [if_pos g]
 ·refine Ev.neg g (Ev.cast (mid [] (by simp)) ?_)
  rw [if_neg g]
theorem besideOf_ev {R C : Int} {cs : List S27} (h : GoodB R C cs) {i : Int} (h0 : 0 ≤ i) (h1 : i < (cs.length : Int)) : Ev (fun k => impl_besideOf.f k R C cs i) (near R C i) := by
 have hc := h.c1
 have hc2 := h.c2
 have hl := h.len90
 have hr2 := h.r2
 have q0 : 0 ≤ i / C := Int.ediv_nonneg h0 (by omega)
 have q1 : i / C ≤ i := Int.ediv_le_self C h0
 have r0 := Int.emod_nonneg i (show C ≠ 0 by omega)
 have r1 := Int.emod_lt_of_pos i (show 0 < C by omega)
 have last : ∀ p : List Int,p.length ≤ 2 → Ev (fun k => impl_besideOf.j1 k i p (i / C) (i % C) R C cs) (p ++ ((if i % C + 1 < C then [i + 1] else []) ++ (if i / C + 1 < R then [i + C] else []))) := by
  intro p hp
  refine Ev.succ ?_
  simp only [impl_besideOf.j1]
  rw [w64 (x := i % C + 1) (by omega) (by omega),w64 (x := i / C + 1) (by omega) (by omega),w64 (x := i + 1) (by omega) (by omega),w64 (x := i + C) (by omega) (by omega)]
  by_cases g1 : i % C + 1 < C
  ·refine Ev.pos g1 (Ev.pos (by omega) (Ev.bind (Ev.now _) ?_))
   rw [if_pos g1]
   by_cases g2 : i / C + 1 < R
   ·refine Ev.pos g2 (Ev.pos (by simp; omega) (Ev.ret ?_))
    rw [if_pos g2,List.append_assoc]
   ·refine Ev.neg g2 (Ev.ret ?_)
    rw [if_neg g2,List.append_nil]
  ·refine Ev.neg g1 ?_
   rw [if_neg g1,List.nil_append]
   by_cases g2 : i / C + 1 < R
   ·refine Ev.pos g2 (Ev.pos (by omega) (Ev.ret ?_))
    rw [if_pos g2]
   ·refine Ev.neg g2 (Ev.ret ?_)
    rw [if_neg g2,List.append_nil]
 have mid : ∀ p : List Int,p.length ≤ 1 → Ev (fun k => impl_besideOf.j0 k i p (i / C) (i % C) R C cs) (p ++ ((if 0 < i % C then [i - 1] else []) ++ ((if i % C + 1 < C then [i + 1] else []) ++ (if i / C + 1 < R then [i + C] else [])))) := by
  intro p hp
  refine Ev.succ ?_
  simp only [impl_besideOf.j0]
  rw [w64 (x := i - 1) (by omega) (by omega)]
  by_cases g : i % C > 0
  ·refine Ev.pos g (Ev.pos (by omega) (Ev.cast (last (p ++ [i - 1]) (by simp; omega)) ?_))
   rw [if_pos g,List.append_assoc]
  ·refine Ev.neg g (Ev.cast (last p (by omega)) ?_)
   rw [if_neg g,List.nil_append]
 unfold impl_besideOf.f near
 rw [Int.tdiv_eq_ediv_of_nonneg h0,Int.tmod_eq_emod_of_nonneg h0,w64 (x := i / C) (by omega) (by omega),w64 (x := i - C) (by omega) (by omega)]
 refine Ev.bind (Ev.now _) (Ev.neg (by omega) ?_)
 by_cases g : i / C > 0
 ·refine Ev.pos g (Ev.pos (by simp) (Ev.cast (mid [i - C] (by simp)) ?_))
  rw [if_pos g]
 ·refine Ev.neg g (Ev.cast (mid [] (by simp)) ?_)
  rw [if_neg g]
def visit (cs : List S27) (nx : Int) : List Int → List Int → List Int → List Int × List Int
 | [],o,q => (o,q)
 | n :: t,o,q => if geared (rd_T27 cs n) = true ∧ rd o n < 0 then visit cs nx t (o.set n.toNat nx) (q ++ [n]) else visit cs nx t o q
def negs (o : List Int) : Nat := o.countP (fun x => decide (x < 0))
theorem visit_len (cs : List S27) (nx : Int) : ∀ (ns o q : List Int),(visit cs nx ns o q).1.length = o.length
 | [],o,q => rfl
 | n :: t,o,q => by
  rw [visit]
  split
  ·rw [visit_len cs nx t,List.length_set]
  ·exact visit_len cs nx t o q
theorem visit_q (cs : List S27) (nx : Int) (p : List Int) : ∀ (ns o q : List Int),visit cs nx ns o (p ++ q) = ((visit cs nx ns o q).1,p ++ (visit cs nx ns o q).2)
 | [],o,q => rfl
 | n :: t,o,q => by
  rw [visit,visit]
  split
  ·rw [List.append_assoc,visit_q cs nx p t]
  ·exact visit_q cs nx p t o q
theorem visit_sum (cs : List S27) {nx : Int} (hx : 0 ≤ nx) : ∀ (ns o q : List Int),(∀ n ∈ ns,0 ≤ n ∧ n < (o.length : Int)) → negs (visit cs nx ns o q).1 + (visit cs nx ns o q).2.length = negs o + q.length
 | [],o,q,_ => rfl
 | n :: t,o,q,h => by
  have h2 : ∀ m ∈ t,0 ≤ m ∧ m < (o.length : Int) := fun m hm => h m (List.mem_cons_of_mem _ hm)
  obtain ⟨n0,n1⟩ := h n List.mem_cons_self
  rw [visit]
  split
  ·rename_i hc
   rw [visit_sum cs hx t _ _ (fun m hm => by rw [List.length_set]; exact h2 m hm),List.length_append]
   have hl : n.toNat < o.length := by omega
   have hr : rd o n = o[n.toNat] := by
    have := rd_at o n.toNat hl
    rwa [Int.toNat_of_nonneg n0] at this
   have hn := hc.2
   rw [hr] at hn
   have e : negs (o.set n.toNat nx) + 1 = negs o := by
    unfold negs
    rw [List.countP_set hl,decide_eq_true hn,decide_eq_false (show ¬ nx < 0 by omega)]
    have pos : 0 < o.countP (fun x => decide (x < 0)) := List.countP_pos_iff.2 ⟨o[n.toNat],List.getElem_mem hl,by simpa using hn⟩
    simp
    omega
   simp
   omega
  ·exact visit_sum cs hx t o q h2
theorem visit_in (cs : List S27) (nx : Int) (P : Int → Prop) : ∀ (ns o q : List Int),(∀ n ∈ ns,P n) → (∀ n ∈ q,P n) → ∀ n ∈ (visit cs nx ns o q).2,P n
 | [],o,q,_,h => h
 | n :: t,o,q,hs,h => by
  rw [visit]
  have h2 : ∀ m ∈ t,P m := fun m hm => hs m (List.mem_cons_of_mem _ hm)
  split
  ·refine visit_in cs nx P t _ _ h2 (fun m hm => ?_)
   rcases List.mem_append.1 hm with hm | hm
   ·exact h m hm
   ·rw [List.mem_singleton.1 hm]; exact hs n List.mem_cons_self
  ·exact visit_in cs nx P t o q h2 h
def bfs (R C : Int) (cs : List S27) (nx : Int) : Nat → List Int → List Int → List Int
 | 0,o,_ => o
 | _ + 1,o,[] => o
 | k + 1,o,a :: q => bfs R C cs nx k (visit cs nx (near R C a) o q).1 (visit cs nx (near R C a) o q).2
theorem bfs_len (R C : Int) (cs : List S27) (nx : Int) : ∀ (k : Nat) (o q : List Int),(bfs R C cs nx k o q).length = o.length
 | 0,o,q => rfl
 | k + 1,o,[] => rfl
 | k + 1,o,a :: q => by rw [bfs,bfs_len R C cs nx k,visit_len]
def grp (R C : Int) (cs : List S27) : Nat → Nat → Int → List Int → List Int
 | 0,_,_,o => o
 | m + 1,i,nx,o => if geared (rd_T27 cs i) = true ∧ rd o i < 0 then grp R C cs m (i + 1) (nx + 1) (bfs R C cs nx (cs.length + 1) (o.set i nx) [(i : Int)]) else grp R C cs m (i + 1) nx o
def groupsOf (R C : Int) (cs : List S27) : List Int := grp R C cs cs.length 0 0 (List.replicate cs.length (-1))
theorem grp_len (R C : Int) (cs : List S27) : ∀ (m i : Nat) (nx : Int) (o : List Int),(grp R C cs m i nx o).length = o.length
 | 0,i,nx,o => rfl
 | m + 1,i,nx,o => by
  rw [grp]
  split
  ·rw [grp_len R C cs m,bfs_len,List.length_set]
  ·exact grp_len R C cs m _ _ _
theorem groupsOf_len (R C : Int) (cs : List S27) : (groupsOf R C cs).length = cs.length := by
 unfold groupsOf
 rw [grp_len,List.length_replicate]
theorem rd_drop (q : List Int) (k : Nat) (h : k < q.length) : q.drop k = rd q k :: q.drop (k + 1) := by
 rw [rd_at q k h]; exact List.drop_eq_getElem_cons h
theorem ggGroups_l3 {R C : Int} {cs : List S27} (h : GoodB R C cs) {nx : Int} (hx : 0 ≤ nx) (ns : List Int) (hns : ∀ n ∈ ns,0 ≤ n ∧ n < (cs.length : Int)) (hn4 : ns.length ≤ 4) (i : Int) (r : List Int) (k0 : Nat) (hk0 : k0 ≤ 1000) :
  ∀ (m j : Nat) (o q : List Int),j + m = ns.length → o.length = cs.length → negs o + q.length ≤ 1000 → Ev (fun k => spec_ggGroups.l2 k (visit cs nx (ns.drop j) o q).1 nx (visit cs nx (ns.drop j) o q).2 ((k0 : Int) + 1) cs (cs.length : Int) i R C cs) r → Ev (fun k => spec_ggGroups.l3 k o nx q k0 cs (cs.length : Int) i ns (ns.length : Int) j R C cs) r := by
 have l90 := h.len90
 intro m
 induction m with
 | zero =>
  intro j o q hj ho hs e
  refine Ev.succ ?_
  simp only [spec_ggGroups.l3]
  rw [List.drop_eq_nil_of_le (by omega),visit] at e
  rw [w64 (x := (k0 : Int) + 1) (by omega) (by omega)]
  exact Ev.neg (by omega) e
 | succ m ih =>
  intro j o q hj ho hs e
  have hjl : j < ns.length := by omega
  obtain ⟨n0,n1⟩ := hns ns[j] (List.getElem_mem hjl)
  rw [List.drop_eq_getElem_cons hjl,visit] at e
  refine Ev.succ ?_
  simp only [spec_ggGroups.l3]
  rw [rd_at ns j hjl,w64 (x := (j : Int) + 1) (by omega) (by omega)]
  refine Ev.pos (by omega) (Ev.pos (by omega) (Ev.pos (by omega) (Ev.pos n0 (Ev.pos n1 (Ev.bind (Ev.val (ggGear_ok _)) ?_)))))
  by_cases g1 : geared (rd_T27 cs ns[j]) = true
  ·refine Ev.pos g1 (Ev.pos (by omega) ?_)
   by_cases g2 : rd o ns[j] < 0
   ·rw [if_pos ⟨g1,g2⟩] at e
    refine Ev.pos g2 (Ev.pos (by omega) ?_)
    have hv := visit_sum cs hx [ns[j]] o q (fun n hn => by rw [List.mem_singleton.1 hn]; omega)
    rw [visit,if_pos ⟨g1,g2⟩,visit] at hv
    exact ih (j + 1) _ _ (by omega) (by rw [List.length_set]; exact ho) (by simp only at hv; omega) e
   ·rw [if_neg (fun hh => g2 hh.2)] at e
    exact Ev.neg g2 (ih (j + 1) _ _ (by omega) ho hs e)
  ·rw [if_neg (fun hh => g1 hh.1)] at e
   exact Ev.neg g1 (ih (j + 1) _ _ (by omega) ho hs e)
theorem ggGroups_l2 {R C : Int} {cs : List S27} (h : GoodB R C cs) {nx : Int} (hx : 0 ≤ nx) (hx2 : nx ≤ 1000) (i : Nat) (hi : i ≤ 1000) (r : List Int) :
  ∀ (f : Nat) (o q : List Int) (k0 : Nat),o.length = cs.length → k0 ≤ q.length → negs o + (q.length - k0) ≤ f → negs o + q.length ≤ 1000 → (∀ n ∈ q,0 ≤ n ∧ n < (cs.length : Int)) → Ev (fun k => spec_ggGroups.l1 k (bfs R C cs nx f o (q.drop k0)) (nx + 1) cs (cs.length : Int) ((i : Int) + 1) R C cs) r → Ev (fun k => spec_ggGroups.l2 k o nx q k0 cs (cs.length : Int) i R C cs) r := by
 have l90 := h.len90
 intro f
 induction f with
 | zero =>
  intro o q k0 ho hk hm hs hq e
  refine Ev.succ ?_
  simp only [spec_ggGroups.l2]
  rw [w64 (x := nx + 1) (by omega) (by omega),w64 (x := (i : Int) + 1) (by omega) (by omega)]
  rw [bfs] at e
  exact Ev.neg (by omega) e
 | succ f ih =>
  intro o q k0 ho hk hm hs hq e
  by_cases hlt : k0 < q.length
  ·rw [rd_drop q k0 hlt,bfs] at e
   refine Ev.succ ?_
   simp only [spec_ggGroups.l2]
   have hin : 0 ≤ rd q k0 ∧ rd q k0 < (cs.length : Int) := by rw [rd_at q k0 hlt]; exact hq _ (List.getElem_mem hlt)
   have hnear := near_in h hin.1 hin.2
   refine Ev.pos (by omega) (Ev.pos (by omega) (Ev.bind (ggNear_ev h hin.1 hin.2) ?_))
   refine ggGroups_l3 h hx (near R C (rd q k0)) hnear (near_len _ _ _) i r k0 (by omega) _ 0 o q (Nat.zero_add _) ho hs ?_
   rw [List.drop_zero]
   have hsum := visit_sum cs hx (near R C (rd q k0)) o q (fun n hn => by rw [ho]; exact hnear n hn)
   have hsp : visit cs nx (near R C (rd q k0)) o q = ((visit cs nx (near R C (rd q k0)) o (q.drop (k0 + 1))).1,q.take (k0 + 1) ++ (visit cs nx (near R C (rd q k0)) o (q.drop (k0 + 1))).2) := by
    rw [← visit_q,List.take_append_drop]
   have hd : (visit cs nx (near R C (rd q k0)) o q).2.drop (k0 + 1) = (visit cs nx (near R C (rd q k0)) o (q.drop (k0 + 1))).2 := by
    rw [hsp]
    exact List.drop_left' (by rw [List.length_take]; omega)
   have h1 : (visit cs nx (near R C (rd q k0)) o q).1 = (visit cs nx (near R C (rd q k0)) o (q.drop (k0 + 1))).1 := by rw [hsp]
   have hlen : k0 + 1 ≤ (visit cs nx (near R C (rd q k0)) o q).2.length := by
    rw [hsp]; simp; omega
   refine ih _ _ (k0 + 1) (by rw [visit_len]; exact ho) hlen (by omega) (by omega) (visit_in cs nx _ _ o q hnear hq) ?_
   rw [hd,h1]
   exact e
  ·have hk0 : k0 = q.length := by omega
   rw [hk0,List.drop_eq_nil_of_le (Nat.le_refl _),bfs] at e
   refine Ev.succ ?_
   simp only [spec_ggGroups.l2]
   rw [w64 (x := nx + 1) (by omega) (by omega),w64 (x := (i : Int) + 1) (by omega) (by omega)]
   exact Ev.neg (by omega) e
theorem ggGroups_l1 {R C : Int} {cs : List S27} (h : GoodB R C cs) :
  ∀ (m i : Nat) (nx : Int) (o : List Int),i + m = cs.length → 0 ≤ nx → nx ≤ i → o.length = cs.length → Ev (fun k => spec_ggGroups.l1 k o nx cs (cs.length : Int) i R C cs) (grp R C cs m i nx o) := by
 have l90 := h.len90
 intro m
 induction m with
 | zero =>
  intro i nx o hi h0 h1 ho
  refine Ev.succ ?_
  simp only [spec_ggGroups.l1]
  rw [grp]
  exact Ev.neg (by omega) (Ev.now _)
 | succ m ih =>
  intro i nx o hi h0 h1 ho
  have e0 := ih (i + 1) nx o (by omega) h0 (by omega) ho
  have jt : Ev (fun k => spec_ggGroups.j2 k o nx i cs (cs.length : Int) i true R C cs) (grp R C cs m (i + 1) nx o) := by
   refine Ev.succ ?_
   simp only [spec_ggGroups.j2]
   rw [w64 (x := (i : Int) + 1) (by omega) (by omega)]
   exact Ev.pos (by trivial) e0
  refine Ev.succ ?_
  simp only [spec_ggGroups.l1]
  rw [grp]
  refine Ev.pos (by omega) (Ev.pos (by omega) (Ev.pos (by omega) (Ev.bind (Ev.val (ggGear_ok _)) ?_)))
  by_cases g1 : geared (rd_T27 cs i) = true
  case neg =>
   rw [if_neg (fun hh => g1 hh.1)]
   exact Ev.neg g1 jt
  refine Ev.pos g1 (Ev.pos (by omega) ?_)
  by_cases g2 : rd o i ≥ 0
  ·rw [if_neg (fun hh => by omega),decide_eq_true g2]
   exact jt
  rw [if_pos ⟨g1,by omega⟩,decide_eq_false g2]
  refine Ev.succ ?_
  simp only [spec_ggGroups.j2]
  refine Ev.neg (by simp) (Ev.pos (by omega) (Ev.pos (by omega) ?_))
  rw [Int.toNat_natCast]
  have ho2 : (o.set i nx).length = cs.length := by rw [List.length_set]; exact ho
  have hsum : negs (o.set i nx) + 1 = negs o := by
   have hl : i < o.length := by omega
   have hr := rd_at o i hl
   unfold negs
   rw [List.countP_set hl,decide_eq_true (show o[i] < 0 by omega),decide_eq_false (show ¬ nx < 0 by omega)]
   have pos : 0 < o.countP (fun x => decide (x < 0)) := List.countP_pos_iff.2 ⟨o[i],List.getElem_mem hl,by simp; omega⟩
   simp
   omega
  have hle : negs o ≤ o.length := List.countP_le_length
  refine ggGroups_l2 h h0 (by omega) i (by omega) _ (cs.length + 1) (o.set i nx) [(i : Int)] 0 ho2 (by simp) (by simp; omega) (by simp; omega) (fun n hn => by rw [List.mem_singleton.1 hn]; omega) ?_
  have e1 := ih (i + 1) (nx + 1) (bfs R C cs nx (cs.length + 1) (o.set i nx) [(i : Int)]) (by omega) (by omega) (by omega) (by rw [bfs_len]; exact ho2)
  exact e1
theorem ggGroups_ev {R C : Int} {cs : List S27} (h : GoodB R C cs) : Ev (fun k => spec_ggGroups.f k R C cs) (groupsOf R C cs) := by
 have l90 := h.len90
 have key : ∀ (m i : Nat),i + m = cs.length → Ev (fun k => spec_ggGroups.l0 k (List.replicate i (-1) ++ List.replicate m 0) (cs.length : Int) i R C cs) (groupsOf R C cs) := by
  intro m
  induction m with
  | zero =>
   intro i hi
   obtain rfl : i = cs.length := by omega
   refine Ev.succ ?_
   simp only [spec_ggGroups.l0]
   refine Ev.neg (by omega) ?_
   rw [List.replicate_zero,List.append_nil]
   exact ggGroups_l1 h cs.length 0 0 _ (by omega) (by omega) (by omega) (by simp)
  | succ m ih =>
   intro i hi
   refine Ev.succ ?_
   simp only [spec_ggGroups.l0]
   refine Ev.pos (by omega) (Ev.pos (by omega) (Ev.pos (by simp; omega) ?_))
   rw [w64 (x := (i : Int) + 1) (by omega) (by omega),Int.toNat_natCast,List.replicate_succ,set_at _ _ _ _ _ (by simp)]
   have e : (List.replicate i (-1 : Int) ++ -1 :: List.replicate m 0) = List.replicate (i + 1) (-1) ++ List.replicate m 0 := by
    rw [List.replicate_succ',List.append_assoc]; rfl
   rw [e]
   exact ih (i + 1) (by omega)
 unfold spec_ggGroups.f
 refine Ev.pos (by omega) (Ev.pos (by omega) (Ev.bind (Ev.now _) ?_))
 rw [Int.toNat_natCast,List.length_replicate]
 exact key cs.length 0 (by omega)
theorem groupNumbers_l3 {R C : Int} {cs : List S27} (h : GoodB R C cs) {nx : Int} (hx : 0 ≤ nx) (ns : List Int) (hns : ∀ n ∈ ns,0 ≤ n ∧ n < (cs.length : Int)) (hn4 : ns.length ≤ 4) (i : Int) (r : List Int) :
  ∀ (m j : Nat) (o q : List Int),j + m = ns.length → o.length = cs.length → negs o + q.length ≤ 1000 → Ev (fun k => impl_groupNumbers.l2 k (visit cs nx (ns.drop j) o q).1 nx (visit cs nx (ns.drop j) o q).2 cs (cs.length : Int) i R C cs) r → Ev (fun k => impl_groupNumbers.l3 k o nx q cs (cs.length : Int) i ns (ns.length : Int) j R C cs) r := by
 have l90 := h.len90
 intro m
 induction m with
 | zero =>
  intro j o q hj ho hs e
  refine Ev.succ ?_
  simp only [impl_groupNumbers.l3]
  rw [List.drop_eq_nil_of_le (by omega),visit] at e
  exact Ev.neg (by omega) e
 | succ m ih =>
  intro j o q hj ho hs e
  have hjl : j < ns.length := by omega
  obtain ⟨n0,n1⟩ := hns ns[j] (List.getElem_mem hjl)
  rw [List.drop_eq_getElem_cons hjl,visit] at e
  refine Ev.succ ?_
  simp only [impl_groupNumbers.l3]
  rw [rd_at ns j hjl,w64 (x := (j : Int) + 1) (by omega) (by omega)]
  refine Ev.pos (by omega) (Ev.pos (by omega) (Ev.pos (by omega) (Ev.pos n0 (Ev.pos n1 (Ev.bind (Ev.val (isGeared_ok _)) ?_)))))
  by_cases g1 : geared (rd_T27 cs ns[j]) = true
  ·refine Ev.pos g1 (Ev.pos (by omega) ?_)
   by_cases g2 : rd o ns[j] < 0
   ·rw [if_pos ⟨g1,g2⟩] at e
    refine Ev.pos g2 (Ev.pos (by omega) ?_)
    have hv := visit_sum cs hx [ns[j]] o q (fun n hn => by rw [List.mem_singleton.1 hn]; omega)
    rw [visit,if_pos ⟨g1,g2⟩,visit] at hv
    exact ih (j + 1) _ _ (by omega) (by rw [List.length_set]; exact ho) (by simp only at hv; omega) e
   ·rw [if_neg (fun hh => g2 hh.2)] at e
    exact Ev.neg g2 (ih (j + 1) _ _ (by omega) ho hs e)
  ·rw [if_neg (fun hh => g1 hh.1)] at e
   exact Ev.neg g1 (ih (j + 1) _ _ (by omega) ho hs e)
theorem groupNumbers_l2 {R C : Int} {cs : List S27} (h : GoodB R C cs) {nx : Int} (hx : 0 ≤ nx) (hx2 : nx ≤ 1000) (i : Nat) (hi : i ≤ 1000) (r : List Int) :
  ∀ (f : Nat) (o q : List Int),o.length = cs.length → negs o + q.length ≤ f → negs o + q.length ≤ 1000 → (∀ n ∈ q,0 ≤ n ∧ n < (cs.length : Int)) → Ev (fun k => impl_groupNumbers.l1 k (bfs R C cs nx f o q) (nx + 1) cs (cs.length : Int) ((i : Int) + 1) R C cs) r → Ev (fun k => impl_groupNumbers.l2 k o nx q cs (cs.length : Int) i R C cs) r := by
 have l90 := h.len90
 intro f
 induction f with
 | zero =>
  intro o q ho hm hs hq e
  refine Ev.succ ?_
  simp only [impl_groupNumbers.l2]
  rw [w64 (x := nx + 1) (by omega) (by omega),w64 (x := (i : Int) + 1) (by omega) (by omega)]
  rw [bfs] at e
  exact Ev.neg (by omega) e
 | succ f ih =>
  intro o q ho hm hs hq e
  cases q with
  | nil =>
   rw [bfs] at e
   refine Ev.succ ?_
   simp only [impl_groupNumbers.l2]
   rw [w64 (x := nx + 1) (by omega) (by omega),w64 (x := (i : Int) + 1) (by omega) (by omega)]
   exact Ev.neg (by simp) e
  | cons a q =>
   rw [bfs] at e
   refine Ev.succ ?_
   simp only [impl_groupNumbers.l2]
   have ha : rd (a :: q) 0 = a := rfl
   have hdr : (a :: q).drop (1 : Int).toNat = q := rfl
   have hin := hq a List.mem_cons_self
   have hq2 : ∀ n ∈ q,0 ≤ n ∧ n < (cs.length : Int) := fun n hn => hq n (List.mem_cons_of_mem _ hn)
   have hnear := near_in h hin.1 hin.2
   rw [ha,hdr]
   simp only [List.length_cons] at hm hs
   refine Ev.pos (by simp only [List.length_cons]; omega) (Ev.pos (by simp only [List.length_cons]; omega) (Ev.pos (by simp only [List.length_cons]; omega) (Ev.bind (besideOf_ev h hin.1 hin.2) ?_)))
   refine groupNumbers_l3 h hx (near R C a) hnear (near_len _ _ _) i r _ 0 o q (Nat.zero_add _) ho (by omega) ?_
   rw [List.drop_zero]
   have hsum := visit_sum cs hx (near R C a) o q (fun n hn => by rw [ho]; exact hnear n hn)
   exact ih _ _ (by rw [visit_len]; exact ho) (by omega) (by omega) (visit_in cs nx _ _ o q hnear hq2) e
theorem groupNumbers_l1 {R C : Int} {cs : List S27} (h : GoodB R C cs) :
  ∀ (m i : Nat) (nx : Int) (o : List Int),i + m = cs.length → 0 ≤ nx → nx ≤ i → o.length = cs.length → Ev (fun k => impl_groupNumbers.l1 k o nx cs (cs.length : Int) i R C cs) (grp R C cs m i nx o) := by
 have l90 := h.len90
 intro m
 induction m with
 | zero =>
  intro i nx o hi h0 h1 ho
  refine Ev.succ ?_
  simp only [impl_groupNumbers.l1]
  rw [grp]
  exact Ev.neg (by omega) (Ev.now _)
 | succ m ih =>
  intro i nx o hi h0 h1 ho
  have e0 := ih (i + 1) nx o (by omega) h0 (by omega) ho
  have jt : Ev (fun k => impl_groupNumbers.j2 k o nx i cs (cs.length : Int) i true R C cs) (grp R C cs m (i + 1) nx o) := by
   refine Ev.succ ?_
   simp only [impl_groupNumbers.j2]
   rw [w64 (x := (i : Int) + 1) (by omega) (by omega)]
   exact Ev.pos (by trivial) e0
  refine Ev.succ ?_
  simp only [impl_groupNumbers.l1]
  rw [grp]
  refine Ev.pos (by omega) (Ev.pos (by omega) (Ev.pos (by omega) (Ev.bind (Ev.val (isGeared_ok _)) ?_)))
  by_cases g1 : geared (rd_T27 cs i) = true
  case neg =>
   rw [if_neg (fun hh => g1 hh.1)]
   exact Ev.neg g1 jt
  refine Ev.pos g1 (Ev.pos (by omega) ?_)
  by_cases g2 : rd o i ≥ 0
  ·rw [if_neg (fun hh => by omega),decide_eq_true g2]
   exact jt
  rw [if_pos ⟨g1,by omega⟩,decide_eq_false g2]
  refine Ev.succ ?_
  simp only [impl_groupNumbers.j2]
  refine Ev.neg (by simp) (Ev.pos (by omega) (Ev.pos (by omega) ?_))
  rw [Int.toNat_natCast]
  have ho2 : (o.set i nx).length = cs.length := by rw [List.length_set]; exact ho
  have hsum : negs (o.set i nx) + 1 = negs o := by
   have hl : i < o.length := by omega
   have hr := rd_at o i hl
   unfold negs
   rw [List.countP_set hl,decide_eq_true (show o[i] < 0 by omega),decide_eq_false (show ¬ nx < 0 by omega)]
   have pos : 0 < o.countP (fun x => decide (x < 0)) := List.countP_pos_iff.2 ⟨o[i],List.getElem_mem hl,by simp; omega⟩
   simp
   omega
  have hle : negs o ≤ o.length := List.countP_le_length
  refine groupNumbers_l2 h h0 (by omega) i (by omega) _ (cs.length + 1) (o.set i nx) [(i : Int)] ho2 (by simp; omega) (by simp; omega) (fun n hn => by rw [List.mem_singleton.1 hn]; omega) ?_
  have e1 := ih (i + 1) (nx + 1) (bfs R C cs nx (cs.length + 1) (o.set i nx) [(i : Int)]) (by omega) (by omega) (by omega) (by rw [bfs_len]; exact ho2)
  exact e1
theorem groupNumbers_ev {R C : Int} {cs : List S27} (h : GoodB R C cs) : Ev (fun k => impl_groupNumbers.f k R C cs) (groupsOf R C cs) := by
 have l90 := h.len90
 have key : ∀ (m i : Nat),i + m = cs.length → Ev (fun k => impl_groupNumbers.l0 k (List.replicate i (-1) ++ List.replicate m 0) (cs.length : Int) i R C cs) (groupsOf R C cs) := by
  intro m
  induction m with
  | zero =>
   intro i hi
   obtain rfl : i = cs.length := by omega
   refine Ev.succ ?_
   simp only [impl_groupNumbers.l0]
   refine Ev.neg (by omega) ?_
   rw [List.replicate_zero,List.append_nil]
   exact groupNumbers_l1 h cs.length 0 0 _ (by omega) (by omega) (by omega) (by simp)
  | succ m ih =>
   intro i hi
   refine Ev.succ ?_
   simp only [impl_groupNumbers.l0]
   refine Ev.pos (by omega) (Ev.pos (by omega) (Ev.pos (by simp; omega) ?_))
   rw [w64 (x := (i : Int) + 1) (by omega) (by omega),Int.toNat_natCast,List.replicate_succ,set_at _ _ _ _ _ (by simp)]
   have e : (List.replicate i (-1 : Int) ++ -1 :: List.replicate m 0) = List.replicate (i + 1) (-1) ++ List.replicate m 0 := by
    rw [List.replicate_succ',List.append_assoc]; rfl
   rw [e]
   exact ih (i + 1) (by omega)
 unfold impl_groupNumbers.f
 refine Ev.pos (by omega) (Ev.pos (by omega) (Ev.bind (Ev.now _) ?_))
 rw [Int.toNat_natCast,List.length_replicate]
 exact key cs.length 0 (by omega)
def flipped (c : S27) : S27 := ⟨c.f0,1 - c.f1⟩
def goes (c : S27) (side : Int) : Int := if c.f0 = 1 then -1 else if c.f0 = 2 then 1 else if c.f0 = 3 ∨ c.f0 = 6 then 2 * c.f1 - 1 else if c.f0 = 4 then -side else 0
def turnAll (g : List Int) (a : Int) (cs : List S27) : List S27 := cs.mapIdx (fun i c => if c.f0 = 6 ∧ rd g i = rd g a then flipped c else c)
def pass (g : List Int) (a : Int) (cs : List S27) : List S27 := if (rd_T27 cs a).f0 = 3 then cs.set a.toNat (flipped (rd_T27 cs a)) else if (rd_T27 cs a).f0 = 6 then turnAll g a cs else cs
def fallGo (R C : Int) (g : List Int) : Nat → Int → Int → Int → List S27 → List Int → Int × Int × Int × List Int × List S27
 | 0,_,col,_,cs,way => (1,R,col,way,cs)
 | m + 1,row,col,side,cs,way => if (rd_T27 cs (row * C + col)).f0 = 5 then (2,row,col,way ++ [row * C + col],cs)
  else if 0 ≤ col + goes (rd_T27 cs (row * C + col)) side ∧ col + goes (rd_T27 cs (row * C + col)) side < C then fallGo R C g m (row + 1) (col + goes (rd_T27 cs (row * C + col)) side) (-goes (rd_T27 cs (row * C + col)) side) (pass g (row * C + col) cs) (way ++ [row * C + col])
  else (3,row,col + goes (rd_T27 cs (row * C + col)) side,way ++ [row * C + col],pass g (row * C + col) cs)
theorem good_state {c : S27} (h : goodCell c = true) : 0 ≤ c.f0 ∧ c.f0 ≤ 7 ∧ 0 ≤ c.f1 ∧ c.f1 ≤ 1 ∧ (c.f1 = 1 → c.f0 = 3 ∨ c.f0 = 6) := by
 unfold goodCell turning at h
 simp only [Bool.and_eq_true,Bool.or_eq_true,decide_eq_true_eq,inR_iff] at h
 omega
theorem good_flipped {c : S27} (h : goodCell c = true) (ht : c.f0 = 3 ∨ c.f0 = 6) : goodCell (flipped c) = true := by
 have := good_state h
 unfold goodCell turning flipped
 simp only [Bool.and_eq_true,Bool.or_eq_true,decide_eq_true_eq,inR_iff]
 omega
theorem goes_in {c : S27} (h : goodCell c = true) {side : Int} (h0 : -1 ≤ side) (h1 : side ≤ 1) : -1 ≤ goes c side ∧ goes c side ≤ 1 := by
 have := good_state h
 unfold goes
 split
 ·omega
 split
 ·omega
 split
 ·omega
 split <;> omega
theorem rdC_mem {cs : List S27} {a : Int} (h0 : 0 ≤ a) (h1 : a < (cs.length : Int)) : rd_T27 cs a ∈ cs := by
 have := rdC_at cs a.toNat (by omega)
 rw [Int.toNat_of_nonneg h0] at this
 rw [this]
 exact List.getElem_mem _
theorem turnAll_len (g : List Int) (a : Int) (cs : List S27) : (turnAll g a cs).length = cs.length := List.length_mapIdx
theorem pass_len (g : List Int) (a : Int) (cs : List S27) : (pass g a cs).length = cs.length := by
 unfold pass
 split
 ·exact List.length_set
 split
 ·exact turnAll_len _ _ _
 ·rfl
theorem turnAll_good {g : List Int} {a : Int} {cs : List S27} (h : ∀ c ∈ cs,goodCell c = true) : ∀ c ∈ turnAll g a cs,goodCell c = true := by
 intro c hc
 obtain ⟨i,hi,he⟩ := List.mem_iff_getElem.1 hc
 unfold turnAll at he hi
 rw [List.length_mapIdx] at hi
 rw [List.getElem_mapIdx] at he
 rw [← he]
 split
 ·rename_i hg
  exact good_flipped (h _ (List.getElem_mem _)) (Or.inr hg.1)
 ·exact h _ (List.getElem_mem _)
theorem pass_good {g : List Int} {a : Int} {cs : List S27} (h0 : 0 ≤ a) (h1 : a < (cs.length : Int)) (h : ∀ c ∈ cs,goodCell c = true) : ∀ c ∈ pass g a cs,goodCell c = true := by
 unfold pass
 intro c hc
 split at hc
 ·rename_i h3
  rcases List.mem_or_eq_of_mem_set hc with hc | rfl
  ·exact h _ hc
  ·exact good_flipped (h _ (rdC_mem h0 h1)) (Or.inl h3)
 split at hc
 ·exact turnAll_good h _ hc
 ·exact h _ hc
theorem GoodB.pass {R C : Int} {cs : List S27} (h : GoodB R C cs) (g : List Int) {a : Int} (h0 : 0 ≤ a) (h1 : a < (cs.length : Int)) : GoodB R C (pass g a cs) :=
 ⟨h.r1,h.r2,h.c1,h.c2,by rw [pass_len]; exact h.len,pass_good h0 h1 h.good⟩
theorem paTurn_ok {c : S27} (h : goodCell c = true) : spec_paTurn.f c.f0 c.f1 = some ((flipped c).f0,(flipped c).f1) := by
 have := good_state h
 unfold spec_paTurn.f flipped
 rw [w64 (by omega) (by omega)]
theorem turnAll_get (g : List Int) (a : Int) (cs : List S27) (i : Nat) (hi : i < cs.length) : ∀ h : i < (turnAll g a cs).length,(turnAll g a cs)[i] = if cs[i].f0 = 6 ∧ rd g i = rd g a then flipped cs[i] else cs[i] := by
 unfold turnAll
 intro h
 rw [List.getElem_mapIdx]
theorem turn_step (g : List Int) (a : Int) (cs : List S27) (i : Nat) (hi : i < cs.length) : ((turnAll g a cs).take i ++ cs.drop i).set i (if cs[i].f0 = 6 ∧ rd g i = rd g a then flipped cs[i] else cs[i]) = (turnAll g a cs).take (i + 1) ++ cs.drop (i + 1) := by
 have hl : i < (turnAll g a cs).length := by rw [turnAll_len]; exact hi
 rw [List.drop_eq_getElem_cons hi,set_at _ _ _ _ _ (by rw [List.length_take]; omega),List.take_succ_eq_append_getElem hl,List.append_assoc]
 rw [turnAll_get g a cs i hi]; rfl
theorem turn_cur (g : List Int) (a : Int) (cs : List S27) (i : Nat) (hi : i < cs.length) : ((turnAll g a cs).take i ++ cs.drop i).length = cs.length ∧ rd_T27 ((turnAll g a cs).take i ++ cs.drop i) (i : Int) = cs[i] := by
 have hl : ((turnAll g a cs).take i ++ cs.drop i).length = cs.length := by
  rw [List.length_append,List.length_take,List.length_drop,turnAll_len]; omega
 refine ⟨hl,?_⟩
 rw [rdC_at _ i (by omega),List.getElem_append_right (by rw [List.length_take,turnAll_len]; omega)]
 rw [List.getElem_drop]
 congr 1
 rw [List.length_take,turnAll_len]
 omega
theorem turnGroup_ev {R C : Int} {cs : List S27} (h : GoodB R C cs) (g : List Int) (hg : g.length = cs.length) {a : Int} (h0 : 0 ≤ a) (h1 : a < (cs.length : Int)) : Ev (fun k => impl_turnGroup.f k R C cs g a) (turnAll g a cs) := by
 have l90 := h.len90
 have key : ∀ (m i : Nat),i + m = cs.length → Ev (fun k => impl_turnGroup.l0 k g a (cs.length : Int) i R C ((turnAll g a cs).take i ++ cs.drop i)) (turnAll g a cs) := by
  intro m
  induction m with
  | zero =>
   intro i hi
   refine Ev.succ ?_
   simp only [impl_turnGroup.l0]
   refine Ev.neg (by omega) (Ev.ret ?_)
   rw [List.take_of_length_le (by rw [turnAll_len]; omega),List.drop_eq_nil_of_le (by omega),List.append_nil]
  | succ m ih =>
   intro i hi
   have hil : i < cs.length := by omega
   obtain ⟨cl,cr⟩ := turn_cur g a cs i hil
   have st := turn_step g a cs i hil
   have hgood := good_state (h.good _ (List.getElem_mem hil))
   refine Ev.succ ?_
   simp only [impl_turnGroup.l0]
   rw [cr,cl,w64 (x := (i : Int) + 1) (by omega) (by omega),w64 (x := 1 - cs[i].f1) (by omega) (by omega),Int.toNat_natCast]
   refine Ev.pos (by omega) (Ev.pos (by omega) (Ev.pos (by omega) ?_))
   have same : ¬ (cs[i].f0 = 6 ∧ rd g i = rd g a) → Ev (fun k => impl_turnGroup.l0 k g a (cs.length : Int) ((i : Int) + 1) R C ((turnAll g a cs).take i ++ cs.drop i)) (turnAll g a cs) := by
    intro hn
    rw [if_neg hn] at st
    have e2 : ((turnAll g a cs).take i ++ cs.drop i).set i cs[i] = (turnAll g a cs).take i ++ cs.drop i := by
     rw [List.drop_eq_getElem_cons hil,set_at _ _ _ _ _ (by rw [List.length_take,turnAll_len]; omega)]
    rw [e2] at st
    rw [st]
    exact ih (i + 1) (by omega)
   by_cases h6 : cs[i].f0 = 6
   ·refine Ev.pos h6 (Ev.pos (by omega) (Ev.pos h0 (Ev.pos (by omega) ?_)))
    by_cases hq : rd g i = rd g a
    ·rw [if_pos ⟨h6,hq⟩] at st
     refine Ev.pos hq ?_
     have e3 : (⟨cs[i].f0,1 - cs[i].f1⟩ : S27) = flipped cs[i] := rfl
     rw [e3,st]
     exact ih (i + 1) (by omega)
    ·exact Ev.neg hq (same (fun hh => hq hh.2))
   ·exact Ev.neg h6 (same (fun hh => h6 hh.1))
 unfold impl_turnGroup.f
 have := key cs.length 0 (by omega)
 rwa [List.take_zero,List.drop_zero,List.nil_append] at this
theorem flPass_ev {R C : Int} {cs : List S27} (h : GoodB R C cs) (g : List Int) (hg : g.length = cs.length) {a : Int} (h0 : 0 ≤ a) (h1 : a < (cs.length : Int)) : Ev (fun k => spec_flPass.f k R C cs g a) (pass g a cs) := by
 have l90 := h.len90
 have key : ∀ (m i : Nat),i + m = cs.length → Ev (fun k => spec_flPass.l0 k g a (cs.length : Int) i R C ((turnAll g a cs).take i ++ cs.drop i)) (turnAll g a cs) := by
  intro m
  induction m with
  | zero =>
   intro i hi
   refine Ev.succ ?_
   simp only [spec_flPass.l0]
   refine Ev.neg (by omega) (Ev.ret ?_)
   rw [List.take_of_length_le (by rw [turnAll_len]; omega),List.drop_eq_nil_of_le (by omega),List.append_nil]
  | succ m ih =>
   intro i hi
   have hil : i < cs.length := by omega
   obtain ⟨cl,cr⟩ := turn_cur g a cs i hil
   have st := turn_step g a cs i hil
   refine Ev.succ ?_
   simp only [spec_flPass.l0]
   rw [cr,cl,w64 (x := (i : Int) + 1) (by omega) (by omega),Int.toNat_natCast]
   refine Ev.pos (by omega) (Ev.pos (by omega) (Ev.pos (by omega) ?_))
   have same : ¬ (cs[i].f0 = 6 ∧ rd g i = rd g a) → Ev (fun k => spec_flPass.l0 k g a (cs.length : Int) ((i : Int) + 1) R C ((turnAll g a cs).take i ++ cs.drop i)) (turnAll g a cs) := by
    intro hn
    rw [if_neg hn] at st
    have e2 : ((turnAll g a cs).take i ++ cs.drop i).set i cs[i] = (turnAll g a cs).take i ++ cs.drop i := by
     rw [List.drop_eq_getElem_cons hil,set_at _ _ _ _ _ (by rw [List.length_take,turnAll_len]; omega)]
    rw [e2] at st
    rw [st]
    exact ih (i + 1) (by omega)
   by_cases h6 : cs[i].f0 = 6
   ·refine Ev.pos h6 (Ev.pos (by omega) (Ev.pos h0 (Ev.pos (by omega) ?_)))
    by_cases hq : rd g i = rd g a
    ·rw [if_pos ⟨h6,hq⟩] at st
     refine Ev.pos hq (Ev.bind (Ev.val (paTurn_ok (h.good _ (List.getElem_mem hil)))) ?_)
     have e3 : (⟨(flipped cs[i]).f0,(flipped cs[i]).f1⟩ : S27) = flipped cs[i] := rfl
     rw [e3,st]
     exact ih (i + 1) (by omega)
    ·exact Ev.neg hq (same (fun hh => hq hh.2))
   ·exact Ev.neg h6 (same (fun hh => h6 hh.1))
 unfold spec_flPass.f pass
 refine Ev.pos h0 (Ev.pos h1 ?_)
 by_cases h3 : (rd_T27 cs a).f0 = 3
 ·rw [if_pos h3]
  exact Ev.pos h3 (Ev.bind (Ev.val (paTurn_ok (h.good _ (rdC_mem h0 h1)))) (Ev.now _))
 rw [if_neg h3]
 refine Ev.neg h3 ?_
 by_cases h6 : (rd_T27 cs a).f0 = 6
 ·rw [if_pos h6]
  refine Ev.pos h6 ?_
  have := key cs.length 0 (by omega)
  rwa [List.take_zero,List.drop_zero,List.nil_append] at this
 ·rw [if_neg h6]
  exact Ev.neg h6 (Ev.now _)
theorem paGoes_ev {c : S27} (h : goodCell c = true) {side : Int} (h0 : -1 ≤ side) (h1 : side ≤ 1) : Ev (fun k => spec_paGoes.f k c.f0 c.f1 side) (goes c side) := by
 have hs := good_state h
 unfold spec_paGoes.f goes
 by_cases a1 : c.f0 = 1
 ·rw [if_pos a1]; exact Ev.pos a1 (Ev.now _)
 rw [if_neg a1]
 refine Ev.neg a1 ?_
 by_cases a2 : c.f0 = 2
 ·rw [if_pos a2]; exact Ev.pos a2 (Ev.now _)
 rw [if_neg a2]
 refine Ev.neg a2 ?_
 by_cases a3 : c.f0 = 3
 ·rw [if_pos (Or.inl a3)]
  refine Ev.pos a3 (Ev.succ ?_)
  simp only [spec_paGoes.j0]
  rw [w64 (x := 2 * c.f1) (by omega) (by omega),w64 (by omega) (by omega)]
  exact Ev.pos (by simp [a3]) (Ev.now _)
 refine Ev.neg a3 (Ev.succ ?_)
 simp only [spec_paGoes.j0]
 by_cases a6 : c.f0 = 6
 ·rw [if_pos (Or.inr a6),w64 (x := 2 * c.f1) (by omega) (by omega),w64 (x := 2 * c.f1 - 1) (by omega) (by omega)]
  exact Ev.pos (by simp [a6]) (Ev.now _)
 rw [if_neg (show ¬ (c.f0 = 3 ∨ c.f0 = 6) by omega)]
 refine Ev.neg (by simp [a6]) ?_
 exact Ev.ite (fun _ => Ev.ret (w64 (by omega) (by omega))) (fun _ => Ev.now _)
theorem GoesTo_ev {c : S27} (h : goodCell c = true) {side : Int} (h0 : -1 ≤ side) (h1 : side ≤ 1) : Ev (fun k => impl_GoesTo.f k c.f0 c.f1 side) (if c.f0 = 5 then (0,false) else (goes c side,true)) := by
 have hs := good_state h
 unfold impl_GoesTo.f goes
 refine Ev.bind (Ev.val (IsCell_ok c)) (Ev.pos h (Ev.neg (by omega) (Ev.neg (by omega) (Ev.succ ?_))))
 simp only [impl_GoesTo.j0]
 by_cases a5 : c.f0 = 5
 ·rw [if_pos a5]; exact Ev.pos (by simp [a5]) (Ev.now _)
 rw [if_neg a5]
 refine Ev.neg (by simp [a5]) ?_
 by_cases a1 : c.f0 = 1
 ·rw [if_pos a1]; exact Ev.pos a1 (Ev.now _)
 rw [if_neg a1]
 refine Ev.neg a1 ?_
 by_cases a2 : c.f0 = 2
 ·rw [if_pos a2]; exact Ev.pos a2 (Ev.now _)
 rw [if_neg a2]
 refine Ev.neg a2 ?_
 by_cases a3 : c.f0 = 3
 ·rw [if_pos (Or.inl a3)]
  refine Ev.pos a3 (Ev.succ ?_)
  simp only [impl_GoesTo.j1]
  rw [w64 (x := 2 * c.f1) (by omega) (by omega),w64 (x := 2 * c.f1 - 1) (by omega) (by omega)]
  exact Ev.pos (by simp [a3]) (Ev.now _)
 refine Ev.neg a3 (Ev.succ ?_)
 simp only [impl_GoesTo.j1]
 by_cases a6 : c.f0 = 6
 ·rw [if_pos (Or.inr a6),w64 (x := 2 * c.f1) (by omega) (by omega),w64 (x := 2 * c.f1 - 1) (by omega) (by omega)]
  exact Ev.pos (by simp [a6]) (Ev.now _)
 rw [if_neg (show ¬ (c.f0 = 3 ∨ c.f0 = 6) by omega)]
 refine Ev.neg (by simp [a6]) ?_
 by_cases a4 : c.f0 = 4
 ·refine Ev.pos a4 (Ev.ret ?_)
  rw [w64 (by omega) (by omega),if_pos a4]
 ·exact Ev.neg a4 (Ev.ret (by rw [if_neg a4]))
theorem dropL_ev {R C : Int} (g : List Int) : ∀ (m : Nat) (row col side : Int) (cs : List S27) (way : List Int),GoodB R C cs → g.length = cs.length → row + m = R → 0 ≤ row → 0 ≤ col → col < C → -1 ≤ side → side ≤ 1 → (way.length : Int) ≤ row → Ev (fun k => impl_drop.l0 k g col way side row R C cs) (fallGo R C g m row col side cs way) := by
 intro m
 induction m with
 | zero =>
  intro row col side cs way h hg hr h0 c0 c1 s0 s1 hw
  refine Ev.succ ?_
  simp only [impl_drop.l0]
  exact Ev.neg (by omega) (Ev.now _)
 | succ m ih =>
  intro row col side cs way h hg hr h0 c0 c1 s0 s1 hw
  have b := h.idx h0 (show row < R by omega) c0 c1
  have l90 := h.len90
  have hc2 := h.c2
  have hr2 := h.r2
  have hgc := h.good _ (rdC_mem b.2.2.1 b.2.2.2)
  have hst := good_state hgc
  have hgo := goes_in hgc s0 s1
  have hp := h.pass g b.2.2.1 b.2.2.2
  refine Ev.succ ?_
  simp only [impl_drop.l0,fallGo]
  rw [w64 (x := row * C) (by omega) (by omega),w64 (x := row * C + col) (by omega) (by omega)]
  refine Ev.pos (by omega) (Ev.pos (by omega) (Ev.bind (Ev.now _) (Ev.pos b.2.2.1 (Ev.pos b.2.2.2 (Ev.bind (GoesTo_ev hgc s0 s1) ?_)))))
  by_cases a5 : (rd_T27 cs (row * C + col)).f0 = 5
  ·rw [if_pos a5,if_pos a5]
   exact Ev.neg (by simp) (Ev.now _)
  rw [if_neg a5,if_neg a5]
  refine Ev.pos (by trivial) ?_
  have tail : ∀ cs' : List S27,cs' = pass g (row * C + col) cs → Ev (fun k => if wrap64 (col + goes (rd_T27 cs (row * C + col)) side) < 0 then some (3,row,wrap64 (col + goes (rd_T27 cs (row * C + col)) side),way ++ [row * C + col],cs') else if wrap64 (col + goes (rd_T27 cs (row * C + col)) side) ≥ C then some (3,row,wrap64 (col + goes (rd_T27 cs (row * C + col)) side),way ++ [row * C + col],cs') else impl_drop.l0 k g (wrap64 (col + goes (rd_T27 cs (row * C + col)) side)) (way ++ [row * C + col]) (wrap64 (-goes (rd_T27 cs (row * C + col)) side)) (wrap64 (row + 1)) R C cs')
    (if 0 ≤ col + goes (rd_T27 cs (row * C + col)) side ∧ col + goes (rd_T27 cs (row * C + col)) side < C then fallGo R C g m (row + 1) (col + goes (rd_T27 cs (row * C + col)) side) (-goes (rd_T27 cs (row * C + col)) side) (pass g (row * C + col) cs) (way ++ [row * C + col]) else (3,row,col + goes (rd_T27 cs (row * C + col)) side,way ++ [row * C + col],pass g (row * C + col) cs)) := by
   intro cs' e
   subst e
   rw [w64 (x := col + goes (rd_T27 cs (row * C + col)) side) (by omega) (by omega),w64 (x := -goes (rd_T27 cs (row * C + col)) side) (by omega) (by omega),w64 (x := row + 1) (by omega) (by omega)]
   by_cases n0 : col + goes (rd_T27 cs (row * C + col)) side < 0
   ·rw [if_neg (fun hh => by omega)]; exact Ev.pos n0 (Ev.now _)
   refine Ev.neg n0 ?_
   by_cases n1 : col + goes (rd_T27 cs (row * C + col)) side ≥ C
   ·rw [if_neg (fun hh => by omega)]; exact Ev.pos n1 (Ev.now _)
   rw [if_pos ⟨by omega,by omega⟩]
   refine Ev.neg n1 (ih _ _ _ _ _ hp (by rw [pass_len]; exact hg) (by omega) (by omega) (by omega) (by omega) (by omega) (by omega) ?_)
   rw [List.length_append]
   simp
   omega
  by_cases a3 : (rd_T27 cs (row * C + col)).f0 = 3
  ·refine Ev.pos a3 (Ev.succ ?_)
   simp only [impl_drop.j1]
   refine Ev.neg (by omega) (tail _ ?_)
   unfold pass
   rw [if_pos a3,w64 (x := 1 - (rd_T27 cs (row * C + col)).f1) (by omega) (by omega)]
   rfl
  refine Ev.neg a3 (Ev.succ ?_)
  simp only [impl_drop.j1]
  by_cases a6 : (rd_T27 cs (row * C + col)).f0 = 6
  ·refine Ev.pos a6 (Ev.bind (turnGroup_ev h g hg b.2.2.1 b.2.2.2) (tail _ ?_))
   unfold pass
   rw [if_neg a3,if_pos a6]
  ·refine Ev.neg a6 (tail _ ?_)
   unfold pass
   rw [if_neg a3,if_neg a6]
theorem drop_ev {R C : Int} {g : List Int} {cs : List S27} (h : GoodB R C cs) (hg : g.length = cs.length) {col : Int} (c0 : 0 ≤ col) (c1 : col < C) : Ev (fun k => impl_drop.f k R C cs g col) (fallGo R C g R.toNat 0 col 0 cs []) := by
 have hr := h.r1
 exact dropL_ev g R.toNat 0 col 0 cs [] h hg (by omega) (by omega) c0 c1 (by omega) (by omega) (by simp)
def wayL (C : Int) (way : List Int) : List (List Int) := way.map (fun a => [a / C,a % C])
theorem wayL_snoc {C row col : Int} (c0 : 0 ≤ col) (c1 : col < C) (way : List Int) : wayL C (way ++ [row * C + col]) = wayL C way ++ [[row,col]] := by
 unfold wayL
 rw [List.map_append,List.map_cons,List.map_nil]
 have e : row * C + col = col + row * C := by omega
 have e1 : (row * C + col) / C = row := by rw [e,Int.add_mul_ediv_right _ _ (by omega),Int.ediv_eq_zero_of_lt c0 c1,Int.zero_add]
 have e2 : (row * C + col) % C = col := by rw [e,Int.add_mul_emod_self_right]; exact Int.emod_eq_of_lt c0 c1
 rw [e1,e2]
theorem flGoL_ev {R C : Int} (g : List Int) (o : List S27) : ∀ (m : Nat) (row col side : Int) (cs : List S27) (way : List Int),GoodB R C cs → g.length = cs.length → row + m = R → 0 ≤ row → 0 ≤ col → col < C → -1 ≤ side → side ≤ 1 → (way.length : Int) ≤ row → Ev (fun k => spec_flGo.l0 k g col (wayL C way) side row R C o R C cs) ((fallGo R C g m row col side cs way).1,(fallGo R C g m row col side cs way).2.1,(fallGo R C g m row col side cs way).2.2.1,R,C,(fallGo R C g m row col side cs way).2.2.2.2,wayL C (fallGo R C g m row col side cs way).2.2.2.1) := by
 intro m
 induction m with
 | zero =>
  intro row col side cs way h hg hr h0 c0 c1 s0 s1 hw
  refine Ev.succ ?_
  simp only [spec_flGo.l0]
  exact Ev.neg (by omega) (Ev.now _)
 | succ m ih =>
  intro row col side cs way h hg hr h0 c0 c1 s0 s1 hw
  have b := h.idx h0 (show row < R by omega) c0 c1
  have l90 := h.len90
  have hc2 := h.c2
  have hr2 := h.r2
  have hgc := h.good _ (rdC_mem b.2.2.1 b.2.2.2)
  have hst := good_state hgc
  have hgo := goes_in hgc s0 s1
  have hp := h.pass g b.2.2.1 b.2.2.2
  refine Ev.succ ?_
  simp only [spec_flGo.l0,fallGo]
  have hwl : (wayL C way).length = way.length := by unfold wayL; exact List.length_map _
  rw [hwl,← wayL_snoc c0 c1]
  refine Ev.pos (by omega) (Ev.pos (by omega) (Ev.bind (Ev.now _) (Ev.bind (Ev.val (boAt_ok h h0 (show row < R by omega) c0 c1)) ?_)))
  by_cases a5 : (rd_T27 cs (row * C + col)).f0 = 5
  ·rw [if_pos a5]
   exact Ev.pos a5 (Ev.now _)
  rw [if_neg a5]
  refine Ev.neg a5 (Ev.bind (paGoes_ev hgc s0 s1) ?_)
  rw [w64 (x := row * C) (by omega) (by omega),w64 (x := row * C + col) (by omega) (by omega),w64 (x := col + goes (rd_T27 cs (row * C + col)) side) (by omega) (by omega),w64 (x := C - 1) (by omega) (by omega),w64 (x := -goes (rd_T27 cs (row * C + col)) side) (by omega) (by omega),w64 (x := row + 1) (by omega) (by omega)]
  refine Ev.bind (flPass_ev h g hg b.2.2.1 b.2.2.2) (Ev.bind (Ev.val (l1In_ok _ _ _)) ?_)
  by_cases n : 0 ≤ col + goes (rd_T27 cs (row * C + col)) side ∧ col + goes (rd_T27 cs (row * C + col)) side < C
  ·rw [if_pos n]
   refine Ev.pos (inR_iff.2 ⟨n.1,by omega⟩) (ih _ _ _ _ _ hp (by rw [pass_len]; exact hg) (by omega) (by omega) (by omega) (by omega) (by omega) (by omega) ?_)
   rw [List.length_append]
   simp
   omega
  ·rw [if_neg n]
   exact Ev.neg (fun hh => n (by have := inR_iff.1 hh; omega)) (Ev.now _)
theorem flGo_ev {R C : Int} {g : List Int} {cs : List S27} (h : GoodB R C cs) (hg : g.length = cs.length) {col : Int} (c0 : 0 ≤ col) (c1 : col < C) : Ev (fun k => spec_flGo.f k R C cs g col) ((fallGo R C g R.toNat 0 col 0 cs []).1,(fallGo R C g R.toNat 0 col 0 cs []).2.1,(fallGo R C g R.toNat 0 col 0 cs []).2.2.1,R,C,(fallGo R C g R.toNat 0 col 0 cs []).2.2.2.2,wayL C (fallGo R C g R.toNat 0 col 0 cs []).2.2.2.1) := by
 have hr := h.r1
 have l90 := h.len90
 unfold spec_flGo.f
 refine Ev.bind (Ev.val (boOwn_ok R C cs (by omega))) ?_
 exact flGoL_ev g cs R.toNat 0 col 0 cs [] h hg (by omega) (by omega) c0 c1 (by omega) (by omega) (by simp)
def fallR (R C : Int) (cs : List S27) (col : Int) : Int × Int × Int × List Int × List S27 := fallGo R C (groupsOf R C cs) R.toNat 0 col 0 cs []
theorem flRun_ev {R C : Int} {cs : List S27} (h : GoodB R C cs) {col : Int} (c0 : 0 ≤ col) (c1 : col < C) : Ev (fun k => spec_flRun.f k R C cs col) ((fallR R C cs col).1,(fallR R C cs col).2.1,(fallR R C cs col).2.2.1,R,C,(fallR R C cs col).2.2.2.2) := by
 unfold spec_flRun.f
 exact Ev.bind (ggGroups_ev h) (Ev.bind (flGo_ev h (groupsOf_len R C cs) c0 c1) (Ev.now _))
def validE (R C : Int) (cs : List S27) (col : Int) : Bool := boardGood R C cs && inR col 0 (C - 1)
theorem flHas_ev (R C : Int) (cs : List S27) (col : Int) (hl : cs.length ≤ 1048576) : Ev (fun k => spec_flHas.f k R C cs col) (validE R C cs col) := by
 unfold spec_flHas.f validE
 refine Ev.bind (boGood_ev R C cs hl) ?_
 by_cases h : boardGood R C cs = true
 ·have hb := GoodB.of h
  have := hb.c1
  have := hb.c2
  rw [h,Bool.true_and,w64 (x := C - 1) (by omega) (by omega)]
  exact Ev.pos (by trivial) (Ev.bind (Ev.val (l1In_ok _ _ _)) (Ev.now _))
 ·exact Ev.neg h (Ev.ret (by rw [Bool.eq_false_iff.mpr h,Bool.false_and]))
theorem validEntry_ev (R C : Int) (cs : List S27) (col : Int) : Ev (fun k => impl_validEntry.f k R C cs col) (validE R C cs col) := by
 unfold impl_validEntry.f validE
 refine Ev.bind (IsBoard_ev R C cs) ?_
 by_cases h : boardGood R C cs = true
 ·have hb := GoodB.of h
  rw [h,Bool.true_and]
  refine Ev.pos (by trivial) ?_
  unfold inR
  by_cases a : col ≥ 0
  ·refine Ev.pos a (Ev.ret ?_)
   rw [decide_eq_true a,Bool.true_and]
   exact decide_eq_decide.2 ⟨fun _ => by omega,fun _ => by omega⟩
  ·refine Ev.neg a (Ev.ret ?_)
   rw [decide_eq_false (show ¬ 0 ≤ col by omega),Bool.false_and]
 ·exact Ev.neg h (Ev.ret (by rw [Bool.eq_false_iff.mpr h,Bool.false_and]))
theorem validE_of {R C : Int} {cs : List S27} {col : Int} (h : validE R C cs col = true) : GoodB R C cs ∧ 0 ≤ col ∧ col < C := by
 unfold validE at h
 rw [Bool.and_eq_true,inR_iff] at h
 exact ⟨GoodB.of h.1,h.2.1,by omega⟩
theorem rdC_def (l : List S27) (i : Int) : rd_T27 l i = l.getD i.toNat ⟨0,0⟩ := rfl
theorem rdU_at (l : List (List Int)) (i : Nat) (h : i < l.length) : rd_L3 l (i : Int) = l[i] := by
 show l.getD (i : Int).toNat [] = _
 rw [Int.toNat_natCast,List.getD_eq_getElem?_getD,List.getElem?_eq_getElem h]; rfl
/-- Of one kind,cell by cell. -/
def sameK (a b : List S27) : Prop := a.length = b.length ∧ ∀ n : Int,(rd_T27 a n).f0 = (rd_T27 b n).f0
theorem sameK.rfl' (a : List S27) : sameK a a := ⟨rfl,fun _ => rfl⟩
theorem sameK.tr {a b c : List S27} (h : sameK a b) (h' : sameK b c) : sameK a c := ⟨h.1.trans h'.1,fun n => (h.2 n).trans (h'.2 n)⟩
theorem rd_set (o : List Int) (m : Nat) (v j : Int) : rd (o.set m v) j = if m = j.toNat ∧ m < o.length then v else rd o j := by
 unfold rd
 rw [List.getD_eq_getElem?_getD,List.getElem?_set,List.getD_eq_getElem?_getD]
 by_cases h : m = j.toNat
 ·subst h
  by_cases h2 : j.toNat < o.length
  ·simp [h2]
  ·simp [h2]
 ·simp [h]
theorem rdC_set (o : List S27) (m : Nat) (v : S27) (j : Int) : rd_T27 (o.set m v) j = if m = j.toNat ∧ m < o.length then v else rd_T27 o j := by
 rw [rdC_def,rdC_def,List.getD_eq_getElem?_getD,List.getElem?_set,List.getD_eq_getElem?_getD]
 by_cases h : m = j.toNat
 ·subst h
  by_cases h2 : j.toNat < o.length
  ·simp [h2]
  ·simp [h2]
 ·simp [h]
theorem sameK.set (cs : List S27) (m : Nat) (v : S27) (h : v.f0 = (rd_T27 cs m).f0) : sameK cs (cs.set m v) := ⟨by simp,fun n => by
 rw [rdC_set]
 split
 ·rename_i hh
  rw [h,rdC_def,rdC_def,Int.toNat_natCast,hh.1]
 ·rfl⟩
/-! groups -/
theorem geared_sameK {a b : List S27} (h : sameK a b) (n : Int) : geared (rd_T27 a n) = geared (rd_T27 b n) := by unfold geared; rw [h.2 n]
theorem visit_sameK {a b : List S27} (h : sameK a b) (nx : Int) : ∀ ns o q,visit a nx ns o q = visit b nx ns o q
 | [],o,q => rfl
 | n :: t,o,q => by rw [visit,visit,geared_sameK h,visit_sameK h nx t,visit_sameK h nx t]
theorem bfs_sameK {R C : Int} {a b : List S27} (h : sameK a b) (nx : Int) : ∀ k o q,bfs R C a nx k o q = bfs R C b nx k o q
 | 0,o,q => rfl
 | k + 1,o,[] => rfl
 | k + 1,o,x :: q => by rw [bfs,bfs,visit_sameK h,bfs_sameK h nx k]
theorem grp_sameK {R C : Int} {a b : List S27} (h : sameK a b) : ∀ m i nx o,grp R C a m i nx o = grp R C b m i nx o
 | 0,i,nx,o => rfl
 | m + 1,i,nx,o => by rw [grp,grp,geared_sameK h,bfs_sameK h,h.1,grp_sameK h m,grp_sameK h m]
theorem groupsOf_sameK {R C : Int} {a b : List S27} (h : sameK a b) : groupsOf R C a = groupsOf R C b := by unfold groupsOf; rw [grp_sameK h,h.1]
theorem visit_mono (cs : List S27) {nx : Int} (hx : 0 ≤ nx) (j : Int) : ∀ ns o q,0 ≤ rd o j → 0 ≤ rd (visit cs nx ns o q).1 j
 | [],o,q,h => h
 | n :: t,o,q,h => by
  rw [visit]
  split
  ·refine visit_mono cs hx j t _ _ ?_
   rw [rd_set]; split
   ·exact hx
   ·exact h
  ·exact visit_mono cs hx j t _ _ h
theorem bfs_mono {R C : Int} (cs : List S27) {nx : Int} (hx : 0 ≤ nx) (j : Int) : ∀ k o q,0 ≤ rd o j → 0 ≤ rd (bfs R C cs nx k o q) j
 | 0,o,q,h => h
 | k + 1,o,[],h => h
 | k + 1,o,x :: q,h => by rw [bfs]; exact bfs_mono cs hx j k _ _ (visit_mono cs hx j _ _ _ h)
theorem visit_lt (cs : List S27) {nx M : Int} (hx : nx < M) : ∀ ns o q,(∀ x ∈ o,x < M) → ∀ x ∈ (visit cs nx ns o q).1,x < M
 | [],o,q,h => h
 | n :: t,o,q,h => by
  rw [visit]
  split
  ·refine visit_lt cs hx t _ _ (fun x hm => ?_)
   rcases List.mem_or_eq_of_mem_set hm with hm | rfl
   ·exact h x hm
   ·exact hx
  ·exact visit_lt cs hx t _ _ h
theorem bfs_lt {R C : Int} (cs : List S27) {nx M : Int} (hx : nx < M) : ∀ k o q,(∀ x ∈ o,x < M) → ∀ x ∈ bfs R C cs nx k o q,x < M
 | 0,o,q,h => h
 | k + 1,o,[],h => h
 | k + 1,o,x :: q,h => by rw [bfs]; exact bfs_lt cs hx k _ _ (visit_lt cs hx _ _ _ h)
theorem grp_lt {R C : Int} (cs : List S27) : ∀ m i nx o,i + m = cs.length → nx ≤ (i : Int) → (∀ x ∈ o,x < (cs.length : Int)) → ∀ x ∈ grp R C cs m i nx o,x < (cs.length : Int)
 | 0,i,nx,o,_,_,h => h
 | m + 1,i,nx,o,hi,hx,h => by
  rw [grp]
  split
  ·refine grp_lt cs m _ _ _ (by omega) (by omega) (bfs_lt cs (by omega) _ _ _ (fun x hm => ?_))
   rcases List.mem_or_eq_of_mem_set hm with hm | rfl
   ·exact h x hm
   ·omega
  ·exact grp_lt cs m _ _ _ (by omega) (by omega) h
theorem grp_mono {R C : Int} (cs : List S27) (j : Int) : ∀ m i nx o,0 ≤ nx → 0 ≤ rd o j → 0 ≤ rd (grp R C cs m i nx o) j
 | 0,i,nx,o,_,h => h
 | m + 1,i,nx,o,hx,h => by
  rw [grp]
  split
  ·refine grp_mono cs j m _ _ _ (by omega) (bfs_mono cs hx j _ _ _ ?_)
   rw [rd_set]; split
   ·exact hx
   ·exact h
  ·exact grp_mono cs j m _ _ _ hx h
theorem grp_geared {R C : Int} (cs : List S27) : ∀ m i nx o,i + m = cs.length → o.length = cs.length → 0 ≤ nx → ∀ j : Nat,i ≤ j → j < cs.length → geared (rd_T27 cs j) = true → 0 ≤ rd (grp R C cs m i nx o) j
 | 0,i,nx,o,hi,_,_,j,h0,h1,_ => by omega
 | m + 1,i,nx,o,hi,ho,hx,j,h0,h1,hg => by
  by_cases e : j = i
  ·subst e
   rw [grp]
   split
   ·refine grp_mono cs _ m _ _ _ (by omega) (bfs_mono cs hx _ _ _ _ ?_)
    rw [rd_set,if_pos ⟨by simp,by omega⟩]
    exact hx
   ·rename_i hn
    refine grp_mono cs _ m _ _ _ hx ?_
    have : ¬ rd o j < 0 := fun hh => hn ⟨hg,hh⟩
    omega
  ·rw [grp]
   split
   ·exact grp_geared cs m _ _ _ (by omega) (by rw [bfs_len,List.length_set]; exact ho) (by omega) j (by omega) h1 hg
   ·exact grp_geared cs m _ _ _ (by omega) ho hx j (by omega) h1 hg
theorem rd_mem (o : List Int) {j : Int} (h0 : 0 ≤ j) (h1 : j < (o.length : Int)) : rd o j ∈ o := by
 have := rd_at o j.toNat (by omega)
 rw [Int.toNat_of_nonneg h0] at this
 rw [this]
 exact List.getElem_mem _
theorem groups_in {R C : Int} (cs : List S27) {j : Nat} (h1 : j < cs.length) (hg : (rd_T27 cs j).f0 = 6) : 0 ≤ rd (groupsOf R C cs) j ∧ rd (groupsOf R C cs) j < (cs.length : Int) := by
 refine ⟨grp_geared cs _ _ _ _ (by omega) (by simp) (by omega) j (by omega) h1 (by unfold geared; simp [hg]),?_⟩
 exact grp_lt cs _ _ _ _ (by omega) (by omega) (fun x hm => by rw [List.eq_of_mem_replicate hm]; omega) _ (rd_mem _ (by omega) (by rw [grp_len,List.length_replicate]; omega))
/-! units -/
def uGo (g : List Int) (cs : List S27) : Nat → Nat → List (List Int) → List Int → List (List Int)
 | 0,_,out,_ => out
 | m + 1,i,out,num => if (rd_T27 cs i).f0 = 3 then uGo g cs m (i + 1) (out ++ [[(i : Int)]]) num
  else if (rd_T27 cs i).f0 = 6 then (if rd num (rd g i) < 0 then uGo g cs m (i + 1) (out ++ [[(i : Int)]]) (num.set (rd g i).toNat (out.length : Int)) else uGo g cs m (i + 1) (out.set (rd num (rd g i)).toNat (rd_L3 out (rd num (rd g i)) ++ [(i : Int)])) num)
  else uGo g cs m (i + 1) out num
def unitsP (R C : Int) (cs : List S27) : List (List Int) := uGo (groupsOf R C cs) cs cs.length 0 [] (List.replicate cs.length (-1))
theorem uGo_sameK {a b : List S27} (h : sameK a b) (g : List Int) : ∀ m i out num,uGo g a m i out num = uGo g b m i out num
 | 0,i,out,num => rfl
 | m + 1,i,out,num => by rw [uGo,uGo,h.2,uGo_sameK h g m,uGo_sameK h g m,uGo_sameK h g m,uGo_sameK h g m]
theorem unitsP_sameK {R C : Int} {a b : List S27} (h : sameK a b) : unitsP R C a = unitsP R C b := by unfold unitsP; rw [groupsOf_sameK h,uGo_sameK h,h.1]
structure UI (cs : List S27) (i : Nat) (out : List (List Int)) : Prop where
 len : out.length ≤ i
 rows : ∀ r ∈ out,0 < r.length ∧ r.length ≤ i ∧ ∀ x ∈ r,0 ≤ x ∧ x < (i : Int) ∧ ((rd_T27 cs x).f0 = 3 ∨ (rd_T27 cs x).f0 = 6)
 dis : ∀ a b (ha : a < out.length) (hb : b < out.length) x,x ∈ out[a] → x ∈ out[b] → a = b
theorem UI.up {cs : List S27} {i : Nat} {out : List (List Int)} (h : UI cs i out) : UI cs (i + 1) out :=
 ⟨by have := h.len; omega,fun r hr => by
  obtain ⟨h1,h2,h3⟩ := h.rows r hr
  exact ⟨h1,by omega,fun x hx => by have := h3 x hx; exact ⟨this.1,by omega,this.2.2⟩⟩,h.dis⟩
theorem UI.new {cs : List S27} {i : Nat} {out : List (List Int)} (h : UI cs i out) (hk : (rd_T27 cs i).f0 = 3 ∨ (rd_T27 cs i).f0 = 6) : UI cs (i + 1) (out ++ [[(i : Int)]]) := by
 have u := h.up
 have hlt : ∀ a (ha : a < out.length) x,x ∈ out[a] → x < (i : Int) := fun a ha x hx => ((h.rows _ (List.getElem_mem ha)).2.2 x hx).2.1
 refine ⟨by simp; exact h.len,fun r hr => ?_,fun a b ha hb x hx hy => ?_⟩
 ·rcases List.mem_append.1 hr with hr | hr
  ·exact u.rows r hr
  ·rw [List.mem_singleton.1 hr]
   refine ⟨by simp,by simp,fun x hx => ?_⟩
   rw [List.mem_singleton.1 hx]
   exact ⟨by omega,by omega,hk⟩
 ·simp only [List.length_append,List.length_cons,List.length_nil] at ha hb
  by_cases ea : a < out.length
  ·rw [List.getElem_append_left ea] at hx
   by_cases eb : b < out.length
   ·rw [List.getElem_append_left eb] at hy
    exact h.dis a b ea eb x hx hy
   ·rw [List.getElem_append_right (by omega)] at hy
    have hy2 : x = (i : Int) := by simpa using hy
    have := hlt a ea x hx
    omega
  ·rw [List.getElem_append_right (by omega)] at hx
   have hx2 : x = (i : Int) := by simpa using hx
   by_cases eb : b < out.length
   ·rw [List.getElem_append_left eb] at hy
    have := hlt b eb x hy
    omega
   ·omega
theorem UI.put {cs : List S27} {i : Nat} {out : List (List Int)} (h : UI cs i out) (hk : (rd_T27 cs i).f0 = 3 ∨ (rd_T27 cs i).f0 = 6) {q : Nat} (hq : q < out.length) : UI cs (i + 1) (out.set q (out[q] ++ [(i : Int)])) := by
 have u := h.up
 have hlt : ∀ a (ha : a < out.length) x,x ∈ out[a] → x < (i : Int) := fun a ha x hx => ((h.rows _ (List.getElem_mem ha)).2.2 x hx).2.1
 refine ⟨by simp; exact u.len,fun r hr => ?_,fun a b ha hb x hx hy => ?_⟩
 ·rcases List.mem_or_eq_of_mem_set hr with hr | rfl
  ·exact u.rows r hr
  ·obtain ⟨h1,h2,h3⟩ := h.rows _ (List.getElem_mem hq)
   refine ⟨by simp,by simp; exact h2,fun x hx => ?_⟩
   rcases List.mem_append.1 hx with hx | hx
   ·have := h3 x hx; exact ⟨this.1,by omega,this.2.2⟩
   ·rw [List.mem_singleton.1 hx]
    exact ⟨by omega,by omega,hk⟩
 ·rw [List.length_set] at ha hb
  have key : ∀ a (ha : a < out.length),x ∈ (out.set q (out[q] ++ [(i : Int)]))[a]'(by rw [List.length_set]; exact ha) → (x ∈ out[a] ∨ (a = q ∧ x = (i : Int))) := by
   intro a ha hx
   rw [List.getElem_set] at hx
   split at hx
   ·rename_i e
    subst e
    rcases List.mem_append.1 hx with hx | hx
    ·exact .inl hx
    ·exact .inr ⟨rfl,List.mem_singleton.1 hx⟩
   ·exact .inl hx
  have ha' : a < out.length := ha
  have hb' : b < out.length := hb
  rcases key a ha' hx with hx | ⟨ea,ex⟩
  ·rcases key b hb' hy with hy | ⟨eb,ey⟩
   ·exact h.dis a b ha' hb' x hx hy
   ·have := hlt a ha' _ hx; omega
  ·rcases key b hb' hy with hy | ⟨eb,_⟩
   ·have := hlt b hb' _ hy; omega
   ·omega
theorem UI.nil (cs : List S27) : UI cs 0 [] := ⟨by simp,(fun r hr => by simp at hr),(fun a b ha => by simp at ha)⟩
theorem uGo_UI (g : List Int) (cs : List S27) : ∀ m i out num,i + m = cs.length → UI cs i out → (∀ x ∈ num,x < (out.length : Int)) → (∀ j : Nat,j < cs.length → (rd_T27 cs j).f0 = 6 → 0 ≤ rd g j ∧ rd g j < (num.length : Int)) → UI cs cs.length (uGo g cs m i out num)
 | 0,i,out,num,hi,h,_,_ => by
  obtain rfl : i = cs.length := by omega
  exact h
 | m + 1,i,out,num,hi,h,hn,hg => by
  rw [uGo]
  split
  ·rename_i h3
   exact uGo_UI g cs m _ _ _ (by omega) (h.new (.inl h3)) (fun x hx => by have := hn x hx; simp; omega) hg
  split
  ·rename_i h6
   obtain ⟨g0,g1⟩ := hg i (by omega) h6
   split
   ·exact uGo_UI g cs m _ _ _ (by omega) (h.new (.inr h6)) (fun x hx => by
     rcases List.mem_or_eq_of_mem_set hx with hx | rfl
     ·have := hn x hx; simp; omega
     ·simp; omega) (by rw [List.length_set]; exact hg)
   ·rename_i hneg
    have hq := hn _ (rd_mem num g0 g1)
    have e : rd_L3 out (rd num (rd g i)) = out[(rd num (rd g i)).toNat]'(by omega) := by
     rw [← rdU_at out _ (by omega),Int.toNat_of_nonneg (by omega)]
    rw [e]
    exact uGo_UI g cs m _ _ _ (by omega) (h.put (.inr h6) _) (fun x hx => by rw [List.length_set]; exact hn x hx) hg
  ·exact uGo_UI g cs m _ _ _ (by omega) h.up hn hg
theorem unitsP_UI (R C : Int) (cs : List S27) : UI cs cs.length (unitsP R C cs) :=
 uGo_UI _ cs _ _ _ _ (by omega) (UI.nil cs) (fun x hx => by rw [List.eq_of_mem_replicate hx]; simp) (fun j h1 h6 => by rw [List.length_replicate]; exact groups_in cs h1 h6)
theorem saUnits_l1 {g : List Int} {cs : List S27} (hl : cs.length ≤ 90) (hgl : g.length = cs.length) : ∀ m i out num,i + m = cs.length → UI cs i out → (∀ x ∈ num,x < (out.length : Int)) → (∀ j : Nat,j < cs.length → (rd_T27 cs j).f0 = 6 → 0 ≤ rd g j ∧ rd g j < (num.length : Int)) →
  Ev (fun k => spec_saUnits.l1 k g num out cs (cs.length : Int) i) (uGo g cs m i out num) := by
 intro m
 induction m with
 | zero =>
  intro i out num hi h hn hg
  refine Ev.succ ?_
  simp only [spec_saUnits.l1]
  exact Ev.neg (by omega) (Ev.now _)
 | succ m ih =>
  intro i out num hi h hn hg
  refine Ev.succ ?_
  simp only [spec_saUnits.l1,uGo]
  rw [w64 (x := (i : Int) + 1) (by omega) (by omega)]
  refine Ev.pos (by omega) (Ev.pos (by omega) (Ev.pos (by omega) ?_))
  have hlen := h.len
  by_cases h3 : (rd_T27 cs i).f0 = 3
  ·rw [if_pos h3]
   exact Ev.pos h3 (Ev.pos (by omega) (ih (i + 1) _ _ (by omega) (h.new (.inl h3)) (fun x hx => by have := hn x hx; simp; omega) hg))
  rw [if_neg h3]
  refine Ev.neg h3 ?_
  by_cases h6 : (rd_T27 cs i).f0 = 6
  ·rw [if_pos h6]
   obtain ⟨g0,g1⟩ := hg i (by omega) h6
   refine Ev.pos h6 (Ev.pos (by omega) (Ev.pos g0 (Ev.pos g1 ?_)))
   by_cases hneg : rd num (rd g i) < 0
   ·rw [if_pos hneg]
    exact Ev.pos hneg (Ev.pos (by omega) (ih (i + 1) _ _ (by omega) (h.new (.inr h6)) (fun x hx => by
     rcases List.mem_or_eq_of_mem_set hx with hx | rfl
     ·have := hn x hx; simp; omega
     ·simp; omega) (by rw [List.length_set]; exact hg)))
   ·rw [if_neg hneg]
    have hq := hn _ (rd_mem num g0 g1)
    have e : rd_L3 out (rd num (rd g i)) = out[(rd num (rd g i)).toNat]'(by omega) := by
     rw [← rdU_at out _ (by omega),Int.toNat_of_nonneg (by omega)]
    have hr := (h.rows _ (List.getElem_mem (show (rd num (rd g i)).toNat < out.length by omega))).2.1
    rw [e]
    exact Ev.neg hneg (Ev.pos hq (Ev.pos (by omega) (ih (i + 1) _ _ (by omega) (h.put (.inr h6) _) (fun x hx => by rw [List.length_set]; exact hn x hx) hg)))
  ·rw [if_neg h6]
   exact Ev.neg h6 (ih (i + 1) _ _ (by omega) h.up hn hg)
theorem unitsOf_l0 {g : List Int} {cs : List S27} (hl : cs.length ≤ 90) (hgl : g.length = cs.length) : ∀ m i out num,i + m = cs.length → UI cs i out → (∀ x ∈ num,x < (out.length : Int)) → (∀ j : Nat,j < cs.length → (rd_T27 cs j).f0 = 6 → 0 ≤ rd g j ∧ rd g j < (num.length : Int)) →
  Ev (fun k => impl_unitsOf.l0 k g num out cs (cs.length : Int) i) (uGo g cs m i out num) := by
 intro m
 induction m with
 | zero =>
  intro i out num hi h hn hg
  refine Ev.succ ?_
  simp only [impl_unitsOf.l0]
  exact Ev.neg (by omega) (Ev.now _)
 | succ m ih =>
  intro i out num hi h hn hg
  refine Ev.succ ?_
  simp only [impl_unitsOf.l0,uGo]
  rw [w64 (x := (i : Int) + 1) (by omega) (by omega)]
  refine Ev.pos (by omega) (Ev.pos (by omega) (Ev.pos (by omega) ?_))
  have hlen := h.len
  by_cases h3 : (rd_T27 cs i).f0 = 3
  ·rw [if_pos h3]
   exact Ev.pos h3 (Ev.pos (by omega) (ih (i + 1) _ _ (by omega) (h.new (.inl h3)) (fun x hx => by have := hn x hx; simp; omega) hg))
  rw [if_neg h3]
  refine Ev.neg h3 ?_
  by_cases h6 : (rd_T27 cs i).f0 = 6
  ·rw [if_pos h6]
   obtain ⟨g0,g1⟩ := hg i (by omega) h6
   refine Ev.pos h6 (Ev.pos (by omega) (Ev.pos g0 (Ev.pos g1 ?_)))
   by_cases hneg : rd num (rd g i) < 0
   ·rw [if_pos hneg]
    exact Ev.pos hneg (Ev.pos (by omega) (ih (i + 1) _ _ (by omega) (h.new (.inr h6)) (fun x hx => by
     rcases List.mem_or_eq_of_mem_set hx with hx | rfl
     ·have := hn x hx; simp; omega
     ·simp; omega) (by rw [List.length_set]; exact hg)))
   ·rw [if_neg hneg]
    have hq := hn _ (rd_mem num g0 g1)
    have e : rd_L3 out (rd num (rd g i)) = out[(rd num (rd g i)).toNat]'(by omega) := by
     rw [← rdU_at out _ (by omega),Int.toNat_of_nonneg (by omega)]
    have hr := (h.rows _ (List.getElem_mem (show (rd num (rd g i)).toNat < out.length by omega))).2.1
    rw [e]
    exact Ev.neg hneg (Ev.pos hq (Ev.pos (by omega) (ih (i + 1) _ _ (by omega) (h.put (.inr h6) _) (fun x hx => by rw [List.length_set]; exact hn x hx) hg)))
  ·rw [if_neg h6]
   exact Ev.neg h6 (ih (i + 1) _ _ (by omega) h.up hn hg)
theorem unitsOf_ev {R C : Int} {cs : List S27} (h : GoodB R C cs) : Ev (fun k => impl_unitsOf.f k R C cs) (unitsP R C cs) := by
 have l90 := h.len90
 unfold impl_unitsOf.f
 refine Ev.bind (groupNumbers_ev h) (Ev.pos (by omega) ?_)
 exact unitsOf_l0 l90 (groupsOf_len R C cs) cs.length 0 [] _ (by omega) (UI.nil cs) (fun x hx => by rw [List.eq_of_mem_replicate hx]; simp) (fun j h1 h6 => by rw [List.length_replicate]; exact groups_in cs h1 h6)
theorem saUnits_ev {R C : Int} {cs : List S27} (h : GoodB R C cs) : Ev (fun k => spec_saUnits.f k R C cs) (unitsP R C cs) := by
 have l90 := h.len90
 have key : ∀ (m i : Nat),i + m = cs.length → Ev (fun k => spec_saUnits.l0 k (groupsOf R C cs) (List.replicate i (-1) ++ List.replicate m 0) (cs.length : Int) i R C cs) (unitsP R C cs) := by
  intro m
  induction m with
  | zero =>
   intro i hi
   obtain rfl : i = cs.length := by omega
   refine Ev.succ ?_
   simp only [spec_saUnits.l0]
   refine Ev.neg (by omega) ?_
   rw [List.replicate_zero,List.append_nil]
   exact saUnits_l1 l90 (groupsOf_len R C cs) cs.length 0 [] _ (by omega) (UI.nil cs) (fun x hx => by rw [List.eq_of_mem_replicate hx]; simp) (fun j h1 h6 => by rw [List.length_replicate]; exact groups_in cs h1 h6)
  | succ m ih =>
   intro i hi
   refine Ev.succ ?_
   simp only [spec_saUnits.l0]
   refine Ev.pos (by omega) (Ev.pos (by omega) (Ev.pos (by simp; omega) ?_))
   rw [w64 (x := (i : Int) + 1) (by omega) (by omega),Int.toNat_natCast,List.replicate_succ,set_at _ _ _ _ _ (by simp)]
   have e : (List.replicate i (-1 : Int) ++ -1 :: List.replicate m 0) = List.replicate (i + 1) (-1) ++ List.replicate m 0 := by
    rw [List.replicate_succ',List.append_assoc]; rfl
   rw [e]
   exact ih (i + 1) (by omega)
 unfold spec_saUnits.f
 refine Ev.bind (ggGroups_ev h) (Ev.pos (by omega) (Ev.pos (by omega) (Ev.bind (Ev.now _) ?_)))
 rw [Int.toNat_natCast,List.length_replicate]
 exact key cs.length 0 (by omega)
def flipAt (cs : List S27) (i : Int) : List S27 := cs.set i.toNat (flipped (rd_T27 cs i))
def turnU : List S27 → List Int → List S27
 | cs,[] => cs
 | cs,i :: r => turnU (flipAt cs i) r
theorem flipAt_len (cs : List S27) (i : Int) : (flipAt cs i).length = cs.length := List.length_set
theorem flipAt_sameK (cs : List S27) (i : Int) : sameK cs (flipAt cs i) := sameK.set cs _ _ (by
 show (rd_T27 cs i).f0 = _
 rw [rdC_def,rdC_def,Int.toNat_natCast])
theorem turnU_sameK : ∀ (u : List Int) (cs : List S27),sameK cs (turnU cs u)
 | [],cs => sameK.rfl' cs
 | i :: r,cs => (flipAt_sameK cs i).tr (turnU_sameK r _)
theorem turnU_other {x : Int} (h0 : 0 ≤ x) : ∀ (u : List Int) (cs : List S27),(∀ y ∈ u,0 ≤ y) → x ∉ u → rd_T27 (turnU cs u) x = rd_T27 cs x
 | [],cs,_,_ => rfl
 | i :: r,cs,hp,hx => by
  rw [turnU,turnU_other h0 r _ (fun y hy => hp y (List.mem_cons_of_mem _ hy)) (fun h => hx (List.mem_cons_of_mem _ h))]
  unfold flipAt
  rw [rdC_set,if_neg]
  intro hh
  have := hp i List.mem_cons_self
  exact hx (by rw [show x = i by omega]; exact List.mem_cons_self)
theorem GoodB.as {R C : Int} {a b : List S27} (h : GoodB R C a) (hl : b.length = a.length) (hg : ∀ c ∈ b,goodCell c = true) : GoodB R C b := ⟨h.r1,h.r2,h.c1,h.c2,by rw [hl]; exact h.len,hg⟩
theorem flipAt_good {R C : Int} {cs : List S27} (h : GoodB R C cs) {i : Int} (h0 : 0 ≤ i) (h1 : i < (cs.length : Int)) (hk : (rd_T27 cs i).f0 = 3 ∨ (rd_T27 cs i).f0 = 6) : GoodB R C (flipAt cs i) :=
 h.as (flipAt_len cs i) (fun c hc => by
  rcases List.mem_or_eq_of_mem_set hc with hc | rfl
  ·exact h.good c hc
  ·exact good_flipped (h.good _ (rdC_mem h0 h1)) hk)
def Turns (cs : List S27) (u : List Int) : Prop := ∀ x ∈ u,0 ≤ x ∧ x < (cs.length : Int) ∧ ((rd_T27 cs x).f0 = 3 ∨ (rd_T27 cs x).f0 = 6)
theorem Turns.same {a b : List S27} (h : sameK a b) {u : List Int} (t : Turns a u) : Turns b u := fun x hx => by
 have := t x hx
 rw [← h.1,← h.2]
 exact this
theorem turnU_good {R C : Int} : ∀ (u : List Int) (cs : List S27),GoodB R C cs → Turns cs u → GoodB R C (turnU cs u)
 | [],cs,h,_ => h
 | i :: r,cs,h,t => by
  obtain ⟨h0,h1,hk⟩ := t i List.mem_cons_self
  exact turnU_good r _ (flipAt_good h h0 h1 hk) (Turns.same (flipAt_sameK cs i) (fun x hx => t x (List.mem_cons_of_mem _ hx)))
theorem f1_01 {R C : Int} {cs : List S27} (h : GoodB R C cs) {i : Int} (h0 : 0 ≤ i) (h1 : i < (cs.length : Int)) : 0 ≤ (rd_T27 cs i).f1 ∧ (rd_T27 cs i).f1 ≤ 1 := by
 have := good_state (h.good _ (rdC_mem h0 h1))
 exact ⟨this.2.2.1,this.2.2.2.1⟩
theorem saTurn_l0 {R C : Int} (u : List Int) (hu : u.length ≤ 90) : ∀ (m j : Nat) (cs : List S27),j + m = u.length → GoodB R C cs → Turns cs u → Ev (fun k => spec_saTurn.l0 k u (u.length : Int) j R C cs) (turnU cs (u.drop j)) := by
 intro m
 induction m with
 | zero =>
  intro j cs hj h t
  refine Ev.succ ?_
  simp only [spec_saTurn.l0]
  rw [List.drop_eq_nil_of_le (by omega)]
  exact Ev.neg (by omega) (Ev.now _)
 | succ m ih =>
  intro j cs hj h t
  obtain ⟨h0,h1,hk⟩ := t (u[j]'(by omega)) (List.getElem_mem _)
  have hf := f1_01 h h0 h1
  refine Ev.succ ?_
  simp only [spec_saTurn.l0]
  rw [rd_at u j (by omega),w64 (x := (j : Int) + 1) (by omega) (by omega)]
  refine Ev.pos (by omega) (Ev.pos (by omega) (Ev.pos (by omega) (Ev.pos h0 (Ev.pos h1 (Ev.bind (Ev.val (show spec_paTurn.f _ _ = some (_,1 - (rd_T27 cs u[j]).f1) by unfold spec_paTurn.f; rw [w64 (by omega) (by omega)])) ?_)))))
  rw [List.drop_eq_getElem_cons (show j < u.length by omega),turnU]
  exact ih (j + 1) (flipAt cs u[j]) (by omega) (flipAt_good h h0 h1 hk) (Turns.same (flipAt_sameK cs _) t)
theorem saTurn_ev {R C : Int} {u : List Int} (hu : u.length ≤ 90) {cs : List S27} (h : GoodB R C cs) (t : Turns cs u) : Ev (fun k => spec_saTurn.f k R C cs u) (turnU cs u) := by
 unfold spec_saTurn.f
 exact saTurn_l0 u hu u.length 0 cs (by omega) h t
def wB (b : List S27) (bits : List Int) (us : List (List Int)) : Nat → Nat → List S27 → List S27
 | 0,_,cs => cs
 | m + 1,k,cs => wB b bits us m (k + 1) (if (rd_T27 b (rd (rd_L3 us k) 0)).f1 = rd bits k then cs else turnU cs (rd_L3 us k))
theorem UI.turns {cs : List S27} {us : List (List Int)} (u : UI cs cs.length us) {k : Nat} (hk : k < us.length) : Turns cs (rd_L3 us k) := by
 rw [rdU_at us k hk]
 exact (u.rows _ (List.getElem_mem hk)).2.2
theorem UI.head {cs : List S27} {us : List (List Int)} (u : UI cs cs.length us) {k : Nat} (hk : k < us.length) : 0 < (rd_L3 us k).length ∧ (rd_L3 us k).length ≤ cs.length ∧ rd (rd_L3 us k) 0 ∈ rd_L3 us k := by
 rw [rdU_at us k hk]
 obtain ⟨h1,h2,_⟩ := u.rows _ (List.getElem_mem hk)
 exact ⟨h1,h2,rd_mem _ (by omega) (by omega)⟩
theorem wB_good {R C : Int} {b : List S27} {us : List (List Int)} (u : UI b b.length us) (bits : List Int) : ∀ (m k : Nat) (cs : List S27),k + m = us.length → GoodB R C cs → sameK b cs → GoodB R C (wB b bits us m k cs) ∧ sameK b (wB b bits us m k cs)
 | 0,k,cs,_,h,s => ⟨h,s⟩
 | m + 1,k,cs,hk,h,s => by
  rw [wB]
  split
  ·exact wB_good u bits m _ _ (by omega) h s
  ·exact wB_good u bits m _ _ (by omega) (turnU_good _ _ h (Turns.same s (u.turns (by omega)))) (s.tr (turnU_sameK _ _))
theorem saWith_l0 {R C : Int} {b : List S27} {us : List (List Int)} (hb : GoodB R C b) (u : UI b b.length us) (bits : List Int) (hl : bits.length = us.length) : ∀ (m k : Nat) (cs : List S27),k + m = us.length → GoodB R C cs → sameK b cs →
  Ev (fun n => spec_saWith.l0 n bits us (us.length : Int) k R C b R C cs) (R,C,wB b bits us m k cs) := by
 have l90 := hb.len90
 have hul := u.len
 intro m
 induction m with
 | zero =>
  intro k cs hk h s
  refine Ev.succ ?_
  simp only [spec_saWith.l0]
  exact Ev.neg (by omega) (Ev.now _)
 | succ m ih =>
  intro k cs hk h s
  obtain ⟨h1,h2,h3⟩ := u.head (show k < us.length by omega)
  have t := u.turns (show k < us.length by omega)
  obtain ⟨g0,g1,_⟩ := t _ h3
  refine Ev.succ ?_
  simp only [spec_saWith.l0,wB]
  rw [w64 (x := (k : Int) + 1) (by omega) (by omega)]
  refine Ev.pos (by omega) (Ev.pos (by omega) (Ev.pos (by omega) (Ev.pos (by omega) (Ev.pos g0 (Ev.pos g1 (Ev.pos (by omega) ?_))))))
  by_cases e : (rd_T27 b (rd (rd_L3 us k) 0)).f1 = rd bits k
  ·rw [if_pos e]
   exact Ev.pos e (ih (k + 1) cs (by omega) h s)
  ·rw [if_neg e]
   exact Ev.neg e (Ev.bind (saTurn_ev (by omega) h (Turns.same s t)) (ih (k + 1) _ (by omega) (turnU_good _ _ h (Turns.same s t)) (s.tr (turnU_sameK _ _))))
theorem saWith_ev {R C : Int} {cs : List S27} (h : GoodB R C cs) {bits : List Int} (hl : bits.length = (unitsP R C cs).length) : Ev (fun k => spec_saWith.f k R C cs bits) (R,C,wB cs bits (unitsP R C cs) (unitsP R C cs).length 0 cs) := by
 unfold spec_saWith.f
 refine Ev.bind (Ev.val (boOwn_ok R C cs (by have := h.len90; omega))) (Ev.bind (saUnits_ev h) ?_)
 exact saWith_l0 h (unitsP_UI R C cs) bits hl _ 0 cs (by omega) h (sameK.rfl' cs)
theorem setBits_l1 {R C : Int} {r : List S27} (bits : List Int) (us : List (List Int)) (k : Nat) (uu : List Int) (hu : uu.length ≤ 90) : ∀ (m j : Nat) (cs : List S27),j + m = uu.length → GoodB R C cs → Turns cs uu →
  Ev (fun n => impl_setBits.l0 n bits us (us.length : Int) (wrap64 ((k : Int) + 1)) R C (turnU cs (uu.drop j))) r → Ev (fun n => impl_setBits.l1 n bits us (us.length : Int) k uu (uu.length : Int) j R C cs) r := by
 intro m
 induction m with
 | zero =>
  intro j cs hj h t e
  refine Ev.succ ?_
  simp only [impl_setBits.l1]
  rw [List.drop_eq_nil_of_le (by omega)] at e
  exact Ev.neg (by omega) e
 | succ m ih =>
  intro j cs hj h t e
  obtain ⟨h0,h1,hk⟩ := t (uu[j]'(by omega)) (List.getElem_mem _)
  have hf := f1_01 h h0 h1
  refine Ev.succ ?_
  simp only [impl_setBits.l1]
  rw [rd_at uu j (by omega),w64 (x := (j : Int) + 1) (by omega) (by omega),w64 (x := 1 - (rd_T27 cs uu[j]).f1) (by omega) (by omega)]
  refine Ev.pos (by omega) (Ev.pos (by omega) (Ev.pos (by omega) (Ev.pos h0 (Ev.pos h1 ?_))))
  rw [List.drop_eq_getElem_cons (show j < uu.length by omega),turnU] at e
  exact ih (j + 1) (flipAt cs uu[j]) (by omega) (flipAt_good h h0 h1 hk) (Turns.same (flipAt_sameK cs _) t) e
theorem setBits_l0 {R C : Int} {b : List S27} {us : List (List Int)} (hb : GoodB R C b) (u : UI b b.length us) (bits : List Int) (hl : bits.length = us.length) : ∀ (m k : Nat) (cs : List S27),k + m = us.length → GoodB R C cs → sameK b cs →
  (∀ j : Nat,k ≤ j → j < us.length → (rd_T27 cs (rd (rd_L3 us j) 0)).f1 = (rd_T27 b (rd (rd_L3 us j) 0)).f1) → Ev (fun n => impl_setBits.l0 n bits us (us.length : Int) k R C cs) (wB b bits us m k cs) := by
 have l90 := hb.len90
 have hul := u.len
 intro m
 induction m with
 | zero =>
  intro k cs hk h s hs
  refine Ev.succ ?_
  simp only [impl_setBits.l0]
  exact Ev.neg (by omega) (Ev.now _)
 | succ m ih =>
  intro k cs hk h s hs
  obtain ⟨h1,h2,h3⟩ := u.head (show k < us.length by omega)
  have t := u.turns (show k < us.length by omega)
  obtain ⟨g0,g1,_⟩ := t _ h3
  refine Ev.succ ?_
  simp only [impl_setBits.l0,wB]
  refine Ev.pos (by omega) (Ev.pos (by omega) (Ev.pos (by omega) (Ev.pos (by omega) (Ev.pos g0 (Ev.pos (by rw [← s.1]; exact g1) (Ev.pos (by omega) ?_))))))
  rw [hs k (by omega) (by omega)]
  by_cases e : (rd_T27 b (rd (rd_L3 us k) 0)).f1 = rd bits k
  ·rw [if_pos e,w64 (x := (k : Int) + 1) (by omega) (by omega)]
   exact Ev.pos e (ih (k + 1) cs (by omega) h s (fun j h0 h1 => hs j (by omega) h1))
  ·rw [if_neg e]
   refine Ev.neg e (setBits_l1 bits us k (rd_L3 us k) (by omega) _ 0 cs (Nat.zero_add _) h (Turns.same s t) ?_)
   rw [List.drop_zero,w64 (x := (k : Int) + 1) (by omega) (by omega)]
   refine ih (k + 1) _ (by omega) (turnU_good _ _ h (Turns.same s t)) (s.tr (turnU_sameK _ _)) (fun j hj0 hj1 => ?_)
   obtain ⟨_,_,hj3⟩ := u.head hj1
   rw [turnU_other ((u.turns hj1) _ hj3).1 _ _ (fun y hy => (t y hy).1) (fun hx => ?_)]
   ·exact hs j (by omega) hj1
   ·rw [rdU_at us k (by omega)] at hx
    rw [rdU_at us j hj1] at hj3 hx
    have := u.dis k j (by omega) hj1 _ hx hj3
    omega
theorem setBits_ev {R C : Int} {cs : List S27} (h : GoodB R C cs) {bits : List Int} (hl : bits.length = (unitsP R C cs).length) : Ev (fun k => impl_setBits.f k R C cs (unitsP R C cs) bits) (wB cs bits (unitsP R C cs) (unitsP R C cs).length 0 cs) := by
 unfold impl_setBits.f
 exact setBits_l0 h (unitsP_UI R C cs) bits hl _ 0 cs (by omega) h (sameK.rfl' cs) (fun _ _ _ => rfl)
/-! numbers -/
def bitAt (n j : Int) : Int := Go.bits .and .i64 (shr .i64 n j) 1
def blist (n : Int) (m : Nat) : List Int := (List.range m).map fun (j : Nat) => bitAt n (j : Int)
theorem blist_len (n : Int) (m : Nat) : (blist n m).length = m := by unfold blist; simp
theorem blist_succ (n : Int) (m : Nat) : blist n (m + 1) = blist n m ++ [bitAt n m] := by unfold blist; rw [List.range_succ,List.map_append]; rfl
theorem u64w {x : Int} (h0 : 0 ≤ x) (h1 : x ≤ 1000) : IntKind.u64.wrap x = x := by
 unfold IntKind.wrap
 simp only [IntKind.signed,IntKind.bits,Bool.false_and,Bool.false_eq_true,if_false]
 omega
theorem saIn_l0 {R C : Int} {cs : List S27} (h : GoodB R C cs) (n : Int) : ∀ (m j : Nat),j + m = (unitsP R C cs).length → Ev (fun k => spec_saIn.l0 k n (blist n j) ((unitsP R C cs).length : Int) j R C cs) (R,C,wB cs (blist n (unitsP R C cs).length) (unitsP R C cs) (unitsP R C cs).length 0 cs) := by
 have l90 := h.len90
 have hul := (unitsP_UI R C cs).len
 intro m
 induction m with
 | zero =>
  intro j hj
  refine Ev.succ ?_
  simp only [spec_saIn.l0]
  refine Ev.neg (by omega) ?_
  obtain rfl : j = (unitsP R C cs).length := by omega
  exact Ev.bind (saWith_ev h (blist_len _ _)) (Ev.now _)
 | succ m ih =>
  intro j hj
  refine Ev.succ ?_
  simp only [spec_saIn.l0]
  rw [w64 (x := (j : Int) + 1) (by omega) (by omega),u64w (by omega) (by omega)]
  refine Ev.pos (by omega) (Ev.pos (by omega) (Ev.pos (by rw [blist_len]; omega) ?_))
  have := ih (j + 1) (by omega)
  rw [blist_succ] at this
  exact this
theorem saIn_ev {R C : Int} {cs : List S27} (h : GoodB R C cs) (n : Int) : Ev (fun k => spec_saIn.f k R C cs n) (R,C,wB cs (blist n (unitsP R C cs).length) (unitsP R C cs) (unitsP R C cs).length 0 cs) := by
 unfold spec_saIn.f
 exact Ev.bind (saUnits_ev h) (saIn_l0 h n (unitsP R C cs).length 0 (by omega))
theorem bitList_l0 (n : Int) (M : Nat) (hM : M ≤ 90) : ∀ (m j : Nat),j + m = M → Ev (fun k => impl_bitList.l0 k n (blist n j ++ List.replicate m 0) (M : Int) j) (blist n M) := by
 intro m
 induction m with
 | zero =>
  intro j hj
  refine Ev.succ ?_
  simp only [impl_bitList.l0]
  obtain rfl : j = M := by omega
  exact Ev.neg (by omega) (Ev.ret (by simp))
 | succ m ih =>
  intro j hj
  refine Ev.succ ?_
  simp only [impl_bitList.l0]
  rw [w64 (x := (j : Int) + 1) (by omega) (by omega)]
  refine Ev.pos (by omega) (Ev.pos (by omega) (Ev.pos (by simp [blist_len]; omega) ?_))
  rw [Int.toNat_natCast,List.replicate_succ,set_at _ _ _ _ _ (blist_len n j)]
  have := ih (j + 1) (by omega)
  rw [blist_succ,List.append_assoc] at this
  exact this
theorem bitList_ev (n : Int) (M : Nat) (hM : M ≤ 90) : Ev (fun k => impl_bitList.f k n (M : Int)) (blist n M) := by
 unfold impl_bitList.f
 refine Ev.pos (by omega) (Ev.pos (by omega) (Ev.bind (Ev.now _) ?_))
 rw [Int.toNat_natCast,List.length_replicate]
 have := bitList_l0 n M hM M 0 (by omega)
 exact this
theorem pow10 {j : Nat} (hj : j ≤ 11) : (1 : Int) ≤ 2 ^ j ∧ (2 : Int) ^ j ≤ 2048 := by
 have : j = 0 ∨ j = 1 ∨ j = 2 ∨ j = 3 ∨ j = 4 ∨ j = 5 ∨ j = 6 ∨ j = 7 ∨ j = 8 ∨ j = 9 ∨ j = 10 ∨ j = 11 := by omega
 rcases this with rfl | rfl | rfl | rfl | rfl | rfl | rfl | rfl | rfl | rfl | rfl | rfl <;> decide
theorem shl_ok {x : Int} {j : Nat} (hj : j ≤ 10) (x0 : 0 ≤ x) (x1 : x ≤ 1) : shl .i64 x (j : Int) = x * 2 ^ j := by
 have : j = 0 ∨ j = 1 ∨ j = 2 ∨ j = 3 ∨ j = 4 ∨ j = 5 ∨ j = 6 ∨ j = 7 ∨ j = 8 ∨ j = 9 ∨ j = 10 := by omega
 have hx : x = 0 ∨ x = 1 := by omega
 rcases hx with rfl | rfl <;> rcases this with rfl | rfl | rfl | rfl | rfl | rfl | rfl | rfl | rfl | rfl | rfl <;> decide
theorem or_ok {acc x : Int} {j : Nat} (hj : j ≤ 10) (h0 : 0 ≤ acc) (h1 : acc < 2 ^ j) (x0 : 0 ≤ x) (x1 : x ≤ 1) : Go.bits .or .i64 acc (x * 2 ^ j) = acc + x * 2 ^ j := by
 have hp := pow10 (show j ≤ 11 by omega)
 obtain ⟨a,rfl⟩ : ∃ a : Nat,acc = (a : Int) := ⟨acc.toNat,by omega⟩
 have hx : x = 0 ∨ x = 1 := by omega
 have ha : a < 2 ^ j := by
  have : ((a : Int)) < ((2 ^ j : Nat) : Int) := by rw [Int.natCast_pow]; exact h1
  omega
 have ha2 : a < 2 ^ 64 := by omega
 have hpn : (2 : Nat) ^ j < 2 ^ 64 := Nat.pow_lt_pow_right (by omega) (by omega)
 have hd : ∀ y : Int,Go.bits .or .i64 (a : Int) y = IntKind.i64.wrap (((BitVec.ofInt 64 (a : Int) ||| BitVec.ofInt 64 y : BitVec 64).toNat : Nat) : Int) := fun y => rfl
 rw [hd,BitVec.toNat_or]
 rcases hx with rfl | rfl
 ·rw [Int.zero_mul]
  rw [BitVec.toNat_ofInt,BitVec.toNat_ofInt,show ((a : Int) % ((2 ^ 64 : Nat) : Int)).toNat = a by omega]
  simp
  exact (i64_w _).trans (w64 (by omega) (by omega))
 ·rw [Int.one_mul]
  have e : ((2 : Int) ^ j) = (((2 ^ j : Nat)) : Int) := by rw [Int.natCast_pow]; rfl
  rw [e] at h1 hp ⊢
  rw [BitVec.toNat_ofInt,BitVec.toNat_ofInt,show ((a : Int) % ((2 ^ 64 : Nat) : Int)).toNat = a by omega,show ((((2 ^ j : Nat)) : Int) % ((2 ^ 64 : Nat) : Int)).toNat = 2 ^ j by omega]
  have h2 := Nat.two_pow_add_eq_or_of_lt ha 1
  rw [Nat.mul_one] at h2
  rw [Nat.or_comm,← h2]
  refine (i64_w _).trans ((w64 (by omega) (by omega)).trans (by omega))
def numGo : List Int → Nat → Int → Int
 | [],_,a => a
 | x :: r,k,a => numGo r (k + 1) (a + x * 2 ^ k)
def numL (l : List Int) : Int := numGo l 0 0
theorem num_step {a x : Int} {k : Nat} (h0 : 0 ≤ a) (h1 : a < 2 ^ k) (x0 : 0 ≤ x) (x1 : x ≤ 1) : 0 ≤ a + x * 2 ^ k ∧ a + x * 2 ^ k < 2 ^ (k + 1) := by
 have hx : x = 0 ∨ x = 1 := by omega
 rw [Int.pow_succ]
 rcases hx with rfl | rfl <;> omega
theorem numGo_rng : ∀ (l : List Int) (k : Nat) (a : Int),(∀ x ∈ l,0 ≤ x ∧ x ≤ 1) → 0 ≤ a → a < 2 ^ k → 0 ≤ numGo l k a ∧ numGo l k a < 2 ^ (k + l.length)
 | [],k,a,_,h0,h1 => ⟨h0,h1⟩
 | x :: r,k,a,hx,h0,h1 => by
  obtain ⟨x0,x1⟩ := hx x List.mem_cons_self
  obtain ⟨s0,s1⟩ := num_step h0 h1 x0 x1
  have := numGo_rng r (k + 1) _ (fun y hy => hx y (List.mem_cons_of_mem _ hy)) s0 s1
  rw [List.length_cons,show k + (r.length + 1) = k + 1 + r.length by omega]
  exact this
theorem saNumber_l0 (l : List Int) (hl : l.length ≤ 10) (hb : ∀ x ∈ l,0 ≤ x ∧ x ≤ 1) : ∀ (m j : Nat) (a : Int),j + m = l.length → 0 ≤ a → a < 2 ^ j → Ev (fun k => spec_saNumber.l0 k a l (l.length : Int) j) (numGo (l.drop j) j a) := by
 intro m
 induction m with
 | zero =>
  intro j a hj h0 h1
  refine Ev.succ ?_
  simp only [spec_saNumber.l0]
  rw [List.drop_eq_nil_of_le (by omega)]
  exact Ev.neg (by omega) (Ev.now _)
 | succ m ih =>
  intro j a hj h0 h1
  obtain ⟨x0,x1⟩ := hb (l[j]'(by omega)) (List.getElem_mem _)
  obtain ⟨s0,s1⟩ := num_step h0 h1 x0 x1
  have hp := pow10 (show j + 1 ≤ 11 by omega)
  refine Ev.succ ?_
  simp only [spec_saNumber.l0]
  rw [rd_at l j (by omega),u64w (by omega) (by omega),shl_ok (by omega) x0 x1,w64 (x := (j : Int) + 1) (by omega) (by omega),w64 (x := a + l[j] * 2 ^ j) (by omega) (by omega),List.drop_eq_getElem_cons (show j < l.length by omega),numGo]
  exact Ev.pos (by omega) (Ev.pos (by omega) (Ev.pos (by omega) (Ev.pos (by omega) (ih (j + 1) _ (by omega) s0 s1))))
theorem numberOf_ev (l : List Int) (hl : l.length ≤ 10) (hb : ∀ x ∈ l,0 ≤ x ∧ x ≤ 1) : Ev (fun k => impl_numberOf.f k l) (numL l) := by
 have key : ∀ (m j : Nat) (a : Int),j + m = l.length → 0 ≤ a → a < 2 ^ j → Ev (fun k => impl_numberOf.l0 k a l (l.length : Int) j) (numGo (l.drop j) j a) := by
  intro m
  induction m with
  | zero =>
   intro j a hj h0 h1
   refine Ev.succ ?_
   simp only [impl_numberOf.l0]
   rw [List.drop_eq_nil_of_le (by omega)]
   exact Ev.neg (by omega) (Ev.now _)
  | succ m ih =>
   intro j a hj h0 h1
   obtain ⟨x0,x1⟩ := hb (l[j]'(by omega)) (List.getElem_mem _)
   obtain ⟨s0,s1⟩ := num_step h0 h1 x0 x1
   refine Ev.succ ?_
   simp only [impl_numberOf.l0]
   rw [rd_at l j (by omega),shl_ok (by omega) x0 x1,or_ok (by omega) h0 h1 x0 x1,w64 (x := (j : Int) + 1) (by omega) (by omega),List.drop_eq_getElem_cons (show j < l.length by omega),numGo]
   exact Ev.pos (by omega) (Ev.pos (by omega) (Ev.pos (by omega) (ih (j + 1) _ (by omega) s0 s1)))
 unfold impl_numberOf.f numL
 exact key l.length 0 0 (by omega) (by omega) (by simp)
def bitsU (us : List (List Int)) (cs : List S27) : List Int := us.map fun u => (rd_T27 cs (rd u 0)).f1
theorem bitsU_01 {R C : Int} {cs0 cs : List S27} {us : List (List Int)} (u : UI cs0 cs0.length us) (h : GoodB R C cs) (s : sameK cs0 cs) : ∀ x ∈ bitsU us cs,0 ≤ x ∧ x ≤ 1 := by
 intro x hx
 obtain ⟨r,hr,rfl⟩ := List.mem_map.1 hx
 obtain ⟨h1,_,h3⟩ := u.rows r hr
 have := h3 _ (rd_mem r (j := 0) (by omega) (by omega))
 exact f1_01 h this.1 (by rw [← s.1]; exact this.2.1)
theorem drop_map_step {α β : Type} (f : α → β) (l : List α) (j : Nat) (h : j < l.length) (acc : List β) : acc ++ (l.drop j).map f = (acc ++ [f l[j]]) ++ (l.drop (j + 1)).map f := by
 rw [List.drop_eq_getElem_cons h,List.map_cons,List.append_assoc]; rfl
theorem saBits_ev {R C : Int} {cs : List S27} (h : GoodB R C cs) : Ev (fun k => spec_saBits.f k R C cs) (bitsU (unitsP R C cs) cs) := by
 have l90 := h.len90
 have u := unitsP_UI R C cs
 have hul := u.len
 have key : ∀ (m j : Nat) (acc : List Int),j + m = (unitsP R C cs).length → acc.length = j → Ev (fun k => spec_saBits.l0 k acc (unitsP R C cs) ((unitsP R C cs).length : Int) j R C cs) (acc ++ ((unitsP R C cs).drop j).map fun u => (rd_T27 cs (rd u 0)).f1) := by
  intro m
  induction m with
  | zero =>
   intro j acc hj ha
   refine Ev.succ ?_
   simp only [spec_saBits.l0]
   rw [List.drop_eq_nil_of_le (by omega)]
   exact Ev.neg (by omega) (Ev.ret (by simp))
  | succ m ih =>
   intro j acc hj ha
   obtain ⟨h1,h2,h3⟩ := u.head (show j < (unitsP R C cs).length by omega)
   obtain ⟨g0,g1,_⟩ := u.turns (show j < (unitsP R C cs).length by omega) _ h3
   refine Ev.succ ?_
   simp only [spec_saBits.l0]
   rw [w64 (x := (j : Int) + 1) (by omega) (by omega),drop_map_step _ _ j (by omega),← rdU_at _ j (by omega)]
   exact Ev.pos (by omega) (Ev.pos (by omega) (Ev.pos (by omega) (Ev.pos (by omega) (Ev.pos g0 (Ev.pos g1 (Ev.pos (by omega) (ih (j + 1) _ (by omega) (by simp; omega))))))))
 unfold spec_saBits.f
 exact Ev.bind (saUnits_ev h) (key (unitsP R C cs).length 0 [] (by omega) rfl)
def stN (R C : Int) (cs : List S27) : Int := numL (bitsU (unitsP R C cs) cs)
theorem bitsU_len (us : List (List Int)) (cs : List S27) : (bitsU us cs).length = us.length := List.length_map _
theorem saNumber_ev {R C : Int} {cs : List S27} (h : GoodB R C cs) (hu : (unitsP R C cs).length ≤ 10) : Ev (fun k => spec_saNumber.f k R C cs) (stN R C cs) := by
 have hb := bitsU_01 (unitsP_UI R C cs) h (sameK.rfl' cs)
 unfold spec_saNumber.f stN numL
 refine Ev.bind (saBits_ev h) ?_
 exact saNumber_l0 _ (by rw [bitsU_len]; exact hu) hb (bitsU (unitsP R C cs) cs).length 0 0 (by omega) (by omega) (by simp)
theorem stN_rng {R C : Int} {cs : List S27} (h : GoodB R C cs) : 0 ≤ stN R C cs ∧ stN R C cs < 2 ^ (unitsP R C cs).length := by
 have := numGo_rng _ 0 0 (bitsU_01 (unitsP_UI R C cs) h (sameK.rfl' cs)) (by omega) (by simp)
 rw [bitsU_len,Nat.zero_add] at this
 exact this
theorem turnAll_sameK (g : List Int) (a : Int) (cs : List S27) : sameK cs (turnAll g a cs) := ⟨(turnAll_len g a cs).symm,fun n => by
 unfold turnAll
 rw [rdC_def,rdC_def,List.getD_eq_getElem?_getD,List.getD_eq_getElem?_getD,List.getElem?_mapIdx]
 cases h : cs[n.toNat]? with
 | none => rfl
 | some c =>
  show c.f0 = (if _ then flipped c else c).f0
  split <;> rfl⟩
theorem pass_sameK (g : List Int) (a : Int) (cs : List S27) : sameK cs (pass g a cs) := by
 unfold pass
 split
 ·exact flipAt_sameK cs a
 split
 ·exact turnAll_sameK g a cs
 ·exact sameK.rfl' cs
theorem fallGo_keep {R C : Int} (g : List Int) : ∀ (m : Nat) (row col side : Int) (cs : List S27) (way : List Int),GoodB R C cs → row + m = R → 0 ≤ row → 0 ≤ col → col < C → GoodB R C (fallGo R C g m row col side cs way).2.2.2.2 ∧ sameK cs (fallGo R C g m row col side cs way).2.2.2.2
 | 0,row,col,side,cs,way,h,_,_,_,_ => ⟨h,sameK.rfl' cs⟩
 | m + 1,row,col,side,cs,way,h,hr,h0,c0,c1 => by
  have b := h.idx h0 (show row < R by omega) c0 c1
  have hp := h.pass g b.2.2.1 b.2.2.2
  rw [fallGo]
  split
  ·exact ⟨h,sameK.rfl' cs⟩
  split
  ·rename_i hc
   have := fallGo_keep g m (row + 1) _ (-goes (rd_T27 cs (row * C + col)) side) _ (way ++ [row * C + col]) hp (by omega) (by omega) hc.1 hc.2
   exact ⟨this.1,(pass_sameK g _ cs).tr this.2⟩
  ·exact ⟨hp,pass_sameK g _ cs⟩
def inSt (R C : Int) (cs : List S27) (n : Int) : List S27 := wB cs (blist n (unitsP R C cs).length) (unitsP R C cs) (unitsP R C cs).length 0 cs
theorem inSt_good {R C : Int} {cs : List S27} (h : GoodB R C cs) (n : Int) : GoodB R C (inSt R C cs n) ∧ sameK cs (inSt R C cs n) := wB_good (unitsP_UI R C cs) _ _ 0 cs (by omega) h (sameK.rfl' cs)
def nextN (R C : Int) (cs : List S27) (col n : Int) : Int := numL (bitsU (unitsP R C cs) (fallR R C (inSt R C cs n) col).2.2.2.2)
theorem fallR_keep {R C : Int} {cs : List S27} (h : GoodB R C cs) {col : Int} (c0 : 0 ≤ col) (c1 : col < C) : GoodB R C (fallR R C cs col).2.2.2.2 ∧ sameK cs (fallR R C cs col).2.2.2.2 := by
 have := h.r1
 exact fallGo_keep _ R.toNat 0 col 0 cs [] h (by omega) (by omega) c0 c1
theorem nextN_eq {R C : Int} {cs : List S27} (h : GoodB R C cs) {col : Int} (c0 : 0 ≤ col) (c1 : col < C) (n : Int) : stN R C (fallR R C (inSt R C cs n) col).2.2.2.2 = nextN R C cs col n := by
 obtain ⟨h1,s1⟩ := inSt_good h n
 obtain ⟨h2,s2⟩ := fallR_keep h1 c0 c1
 unfold stN nextN
 rw [← unitsP_sameK (s1.tr s2)]
theorem nextN_rng {R C : Int} {cs : List S27} (h : GoodB R C cs) {col : Int} (c0 : 0 ≤ col) (c1 : col < C) (n : Int) : 0 ≤ nextN R C cs col n ∧ nextN R C cs col n < 2 ^ (unitsP R C cs).length := by
 obtain ⟨h1,s1⟩ := inSt_good h n
 obtain ⟨h2,s2⟩ := fallR_keep h1 c0 c1
 have := stN_rng h2
 rw [nextN_eq h c0 c1,← unitsP_sameK (s1.tr s2)] at this
 exact this
def nextL (R C : Int) (cs : List S27) (col : Int) (m : Nat) : List Int := (List.range m).map fun (n : Nat) => nextN R C cs col (n : Int)
theorem nextL_len (R C : Int) (cs : List S27) (col : Int) (m : Nat) : (nextL R C cs col m).length = m := by unfold nextL; simp
theorem nextL_succ (R C : Int) (cs : List S27) (col : Int) (m : Nat) : nextL R C cs col (m + 1) = nextL R C cs col m ++ [nextN R C cs col m] := by unfold nextL; rw [List.range_succ,List.map_append]; rfl
theorem rvStates_ev {R C : Int} {cs : List S27} (h : GoodB R C cs) (hu : (unitsP R C cs).length ≤ 10) : Ev (fun k => spec_rvStates.f k R C cs) (2 ^ (unitsP R C cs).length : Int) := by
 unfold spec_rvStates.f
 refine Ev.bind (saUnits_ev h) ?_
 rw [u64w (by omega) (by omega)]
 exact Ev.pos (by omega) (Ev.ret (by rw [shl_ok hu (by omega) (by omega),Int.one_mul]))
theorem pow_nat (m : Nat) : ((2 ^ m : Nat) : Int) = 2 ^ m := by rw [Int.natCast_pow]; rfl
theorem rvNext_ev {R C : Int} {cs : List S27} (h : GoodB R C cs) (hu : (unitsP R C cs).length ≤ 10) {col : Int} (c0 : 0 ≤ col) (c1 : col < C) : Ev (fun k => spec_rvNext.f k R C cs col) (nextL R C cs col (2 ^ (unitsP R C cs).length)) := by
 have hp := pow10 (show (unitsP R C cs).length ≤ 11 by omega)
 have hpn := pow_nat (unitsP R C cs).length
 have key : ∀ (m j : Nat),j + m = 2 ^ (unitsP R C cs).length → Ev (fun k => spec_rvNext.l0 k col (nextL R C cs col j) j R C cs) (nextL R C cs col (2 ^ (unitsP R C cs).length)) := by
  intro m
  induction m with
  | zero =>
   intro j hj
   refine Ev.succ ?_
   simp only [spec_rvNext.l0]
   refine Ev.bind (rvStates_ev h hu) (Ev.neg (by omega) (Ev.ret (by rw [← hj]; rfl)))
  | succ m ih =>
   intro j hj
   obtain ⟨h1,s1⟩ := inSt_good h (j : Int)
   obtain ⟨h2,s2⟩ := fallR_keep h1 c0 c1
   refine Ev.succ ?_
   simp only [spec_rvNext.l0]
   rw [w64 (x := (j : Int) + 1) (by omega) (by omega)]
   refine Ev.bind (rvStates_ev h hu) (Ev.pos (by omega) (Ev.bind (saIn_ev h (j : Int)) (Ev.bind (flRun_ev h1 c0 c1) (Ev.bind (saNumber_ev h2 (by rw [← unitsP_sameK (s1.tr s2)]; exact hu)) (Ev.pos (by rw [nextL_len]; omega) ?_)))))
   have := ih (j + 1) (by omega)
   rw [nextL_succ,← nextN_eq h c0 c1] at this
   exact this
 unfold spec_rvNext.f
 exact key _ 0 (Nat.zero_add _)
theorem numbersAfter_l2 {R C : Int} {cs cs2 : List S27} (h : GoodB R C cs) (h2 : GoodB R C cs2) (s2 : sameK cs cs2) (hu : (unitsP R C cs).length ≤ 10) (g cols : List Int) (out : List (List Int)) (n kk : Int) (row : List Int) (M nn : Int) {r : List (List Int)}
  (e : Ev (fun k => impl_numbersAfter.l1 k (unitsP R C cs) g cols R C cs out n kk (row.set nn.toNat (numL (bitsU (unitsP R C cs) cs2))) M (wrap64 (nn + 1))) r) : ∀ (m j : Nat),j + m = (unitsP R C cs).length →
  Ev (fun k => impl_numbersAfter.l2 k (unitsP R C cs) g cols R C cs out n kk row M nn cs2 (bitsU ((unitsP R C cs).take j) cs2 ++ List.replicate m 0) ((unitsP R C cs).length : Int) j) r := by
 have u := unitsP_UI R C cs
 intro m
 induction m with
 | zero =>
  intro j hj
  refine Ev.succ ?_
  simp only [impl_numbersAfter.l2]
  rw [List.take_of_length_le (by omega),List.replicate_zero,List.append_nil]
  refine Ev.neg (by omega) (Ev.bind (numberOf_ev _ (by rw [bitsU_len]; exact hu) (bitsU_01 u h2 s2)) e)
 | succ m ih =>
  intro j hj
  obtain ⟨h1,_,h3⟩ := u.head (show j < (unitsP R C cs).length by omega)
  obtain ⟨g0,g1,_⟩ := u.turns (show j < (unitsP R C cs).length by omega) _ h3
  have hbl : (bitsU ((unitsP R C cs).take j) cs2).length = j := by rw [bitsU_len,List.length_take]; omega
  refine Ev.succ ?_
  simp only [impl_numbersAfter.l2]
  rw [w64 (x := (j : Int) + 1) (by omega) (by omega)]
  refine Ev.pos (by omega) (Ev.pos (by omega) (Ev.pos (by omega) (Ev.pos (by omega) (Ev.pos g0 (Ev.pos (by rw [← s2.1]; exact g1) (Ev.pos (by simp [hbl]; omega) ?_))))))
  rw [Int.toNat_natCast,List.replicate_succ,set_at _ _ _ _ _ hbl]
  have := ih (j + 1) (by omega)
  have e2 : bitsU ((unitsP R C cs).take (j + 1)) cs2 = bitsU ((unitsP R C cs).take j) cs2 ++ [(rd_T27 cs2 (rd (rd_L3 (unitsP R C cs) j) 0)).f1] := by
   unfold bitsU
   rw [List.take_succ_eq_append_getElem (by omega),List.map_append,rdU_at _ j (by omega)]
   rfl
  rw [e2,List.append_assoc] at this
  exact this
theorem numbersAfter_l1 {R C : Int} {cs : List S27} (h : GoodB R C cs) (hu : (unitsP R C cs).length ≤ 10) {col : Int} (c0 : 0 ≤ col) (c1 : col < C) (M : Nat) (hM : M ≤ 2048) {r : List (List Int)}
  (e : Ev (fun k => impl_numbersAfter.l0 k (unitsP R C cs) (groupsOf R C cs) [col] R C cs [nextL R C cs col M] 1 1) r) : ∀ (m j : Nat),j + m = M →
  Ev (fun k => impl_numbersAfter.l1 k (unitsP R C cs) (groupsOf R C cs) [col] R C cs [[]] 1 0 (nextL R C cs col j ++ List.replicate m 0) (M : Int) j) r := by
 have l90 := h.len90
 have hg := groupsOf_len R C cs
 intro m
 induction m with
 | zero =>
  intro j hj
  obtain rfl : j = M := by omega
  refine Ev.succ ?_
  simp only [impl_numbersAfter.l1]
  rw [List.replicate_zero,List.append_nil,show wrap64 (0 + 1) = 1 from w64 (by omega) (by omega)]
  exact Ev.neg (by omega) e
 | succ m ih =>
  intro j hj
  obtain ⟨h1,s1⟩ := inSt_good h (j : Int)
  obtain ⟨h2,s2⟩ := fallR_keep h1 c0 c1
  refine Ev.succ ?_
  simp only [impl_numbersAfter.l1]
  refine Ev.pos (by omega) (Ev.pos (by omega) (Ev.pos (by simp [nextL_len]; omega) ?_))
  refine Ev.bind (Ev.val (copyBoard_ok R C cs (by omega))) (Ev.bind (bitList_ev (j : Int) _ (by omega)) (Ev.bind (setBits_ev h (blist_len _ _)) ?_))
  have hd := drop_ev (g := groupsOf R C cs) h1 (by rw [hg]; exact s1.1) c0 c1
  have e3 : fallGo R C (groupsOf R C cs) R.toNat 0 col 0 (inSt R C cs (j : Int)) [] = fallR R C (inSt R C cs (j : Int)) col := by unfold fallR; rw [groupsOf_sameK s1]
  rw [e3] at hd
  refine Ev.bind (a := fallR R C (inSt R C cs (j : Int)) col) hd ?_
  refine Ev.pos (by omega) ?_
  have := ih (j + 1) (by omega)
  rw [nextL_succ,List.append_assoc] at this
  have hl2 := numbersAfter_l2 (r := r) h h2 (s1.tr s2) hu (groupsOf R C cs) [col] [[]] 1 0 (nextL R C cs col j ++ List.replicate (m + 1) 0) (M : Int) (j : Int) (by
   rw [Int.toNat_natCast,List.replicate_succ,set_at _ _ _ _ _ (nextL_len R C cs col j),w64 (x := (j : Int) + 1) (by omega) (by omega)]
   exact this) (unitsP R C cs).length 0 (Nat.zero_add _)
  exact hl2
theorem numbersAfter_ev {R C : Int} {cs : List S27} (h : GoodB R C cs) (hu : (unitsP R C cs).length ≤ 10) {col : Int} (c0 : 0 ≤ col) (c1 : col < C) : Ev (fun k => impl_numbersAfter.f k R C cs [col]) [nextL R C cs col (2 ^ (unitsP R C cs).length)] := by
 have hp := pow10 (show (unitsP R C cs).length ≤ 11 by omega)
 have hpn := pow_nat (unitsP R C cs).length
 unfold impl_numbersAfter.f
 refine Ev.bind (unitsOf_ev h) (Ev.bind (groupNumbers_ev h) (Ev.pos (by simp) ?_))
 refine Ev.succ ?_
 simp only [impl_numbersAfter.l0]
 have hs : shl .i64 1 ((unitsP R C cs).length : Int) = 2 ^ (unitsP R C cs).length := by rw [shl_ok hu (by omega) (by omega),Int.one_mul]
 rw [hs,← hpn]
 simp only [Int.toNat_natCast,List.length_replicate]
 refine Ev.pos (by simp) (Ev.pos (by omega) (Ev.pos (by simp) (Ev.pos (by simp) (Ev.pos (by omega) (Ev.pos (by omega) (Ev.pos (by omega) ?_))))))
 refine numbersAfter_l1 h hu c0 c1 _ (by omega) ?_ _ 0 (Nat.zero_add _)
 refine Ev.succ ?_
 simp only [impl_numbersAfter.l0]
 exact Ev.neg (by omega) (Ev.now _)
def backs (R C : Int) (cs : List S27) (col : Int) : Bool := validE R C cs col && decide ((unitsP R C cs).length ≤ 10)
theorem backs_of {R C : Int} {cs : List S27} {col : Int} (h : backs R C cs col = true) : GoodB R C cs ∧ 0 ≤ col ∧ col < C ∧ (unitsP R C cs).length ≤ 10 := by
 unfold backs at h
 rw [Bool.and_eq_true,decide_eq_true_eq] at h
 obtain ⟨hb,h0,h1⟩ := validE_of h.1
 exact ⟨hb,h0,h1,h.2⟩
theorem rvHas_ev (R C : Int) (cs : List S27) (col : Int) (hl : cs.length ≤ 1048576) : Ev (fun k => spec_rvHas.f k R C cs col) (backs R C cs col) := by
 unfold spec_rvHas.f backs
 refine Ev.bind (flHas_ev R C cs col hl) ?_
 by_cases g : validE R C cs col = true
 ·obtain ⟨hb,_,_⟩ := validE_of g
  rw [g,Bool.true_and]
  exact Ev.pos rfl (Ev.bind (saUnits_ev hb) (Ev.ret (decide_eq_decide.2 ⟨fun _ => by omega,fun _ => by omega⟩)))
 ·exact Ev.neg g (Ev.ret (by rw [Bool.eq_false_iff.mpr g,Bool.false_and]))
theorem goesBack_ev (R C : Int) (cs : List S27) (col : Int) : Ev (fun k => impl_goesBack.f k R C cs col) (backs R C cs col) := by
 unfold impl_goesBack.f backs
 refine Ev.bind (validEntry_ev R C cs col) ?_
 by_cases g : validE R C cs col = true
 ·obtain ⟨hb,_,_⟩ := validE_of g
  rw [g,Bool.true_and]
  exact Ev.pos rfl (Ev.bind (unitsOf_ev hb) (Ev.ret (decide_eq_decide.2 ⟨fun _ => by omega,fun _ => by omega⟩)))
 ·exact Ev.neg g (Ev.ret (by rw [Bool.eq_false_iff.mpr g,Bool.false_and]))
def nextS (R C : Int) (cs : List S27) (col : Int) : List Int := nextL R C cs col (2 ^ (unitsP R C cs).length)
theorem nextS_len {R C : Int} {cs : List S27} {col : Int} : (nextS R C cs col).length = 2 ^ (unitsP R C cs).length := nextL_len _ _ _ _ _
theorem nextS_small {R C : Int} {cs : List S27} {col : Int} (hu : (unitsP R C cs).length ≤ 10) : (nextS R C cs col).length ≤ 2048 := by
 have := pow10 (show (unitsP R C cs).length ≤ 11 by omega)
 have := pow_nat (unitsP R C cs).length
 rw [nextS_len]; omega
theorem nextS_in {R C : Int} {cs : List S27} (h : GoodB R C cs) {col : Int} (c0 : 0 ≤ col) (c1 : col < C) : ∀ x ∈ nextS R C cs col,0 ≤ x ∧ x < ((nextS R C cs col).length : Int) := by
 intro x hx
 rw [nextS_len,pow_nat]
 unfold nextS nextL at hx
 obtain ⟨n,_,rfl⟩ := List.mem_map.1 hx
 exact nextN_rng h c0 c1 _
def cnt (l : List Int) (n : Int) : Nat := l.countP fun x => x == n
def bef (l : List Int) (n : Int) : Nat → Nat → List Int → List Int
 | 0,_,acc => acc
 | m + 1,i,acc => bef l n m (i + 1) (if rd l i = n then acc ++ [(i : Int)] else acc)
theorem bef_len (l : List Int) (n : Int) : ∀ (m i : Nat) (acc : List Int),i + m = l.length → (bef l n m i acc).length = acc.length + (l.drop i).countP (fun x => x == n)
 | 0,i,acc,h => by rw [bef,List.drop_eq_nil_of_le (by omega)]; rfl
 | m + 1,i,acc,h => by
  rw [bef,bef_len l n m (i + 1) _ (by omega),List.drop_eq_getElem_cons (show i < l.length by omega),List.countP_cons,rd_at l i (by omega)]
  by_cases e : l[i] = n
  ·rw [if_pos e,if_pos (by simp [e]),List.length_append]
   simp
   omega
  ·rw [if_neg e,if_neg (by simp [e])]
   omega
theorem rvBefore_ev (l : List Int) (hl : l.length ≤ 2048) (n : Int) : Ev (fun k => spec_rvBefore.f k l n) (bef l n l.length 0 []) := by
 have key : ∀ (m i : Nat) (acc : List Int),i + m = l.length → acc.length ≤ i → Ev (fun k => spec_rvBefore.l0 k n acc l (l.length : Int) i) (bef l n m i acc) := by
  intro m
  induction m with
  | zero =>
   intro i acc hi ha
   refine Ev.succ ?_
   simp only [spec_rvBefore.l0]
   exact Ev.neg (by omega) (Ev.now _)
  | succ m ih =>
   intro i acc hi ha
   refine Ev.succ ?_
   simp only [spec_rvBefore.l0,bef]
   rw [w64 (x := (i : Int) + 1) (by omega) (by omega)]
   refine Ev.pos (by omega) (Ev.pos (by omega) (Ev.pos (by omega) ?_))
   by_cases e : rd l i = n
   ·rw [if_pos e]
    exact Ev.pos e (Ev.pos (by omega) (ih (i + 1) _ (by omega) (by simp; omega)))
   ·rw [if_neg e]
    exact Ev.neg e (ih (i + 1) _ (by omega) (by omega))
 unfold spec_rvBefore.f
 exact key l.length 0 [] (by omega) (by simp)
theorem bef_cnt (l : List Int) (n : Int) : (bef l n l.length 0 []).length = cnt l n := by
 rw [bef_len l n _ _ _ (by omega),List.drop_zero]
 show 0 + _ = _
 rw [Nat.zero_add]; rfl
def tm (p : List Int) (N : Nat) : List Int := (List.range N).map fun (n : Nat) => ((cnt p (n : Int) : Nat) : Int)
theorem tm_len (p : List Int) (N : Nat) : (tm p N).length = N := by unfold tm; simp
theorem tm_get (p : List Int) (N j : Nat) (h : j < (tm p N).length) : (tm p N)[j] = (cnt p (j : Int) : Int) := by simp [tm]
theorem tm_rd (p : List Int) (N n : Nat) (h : n < N) : rd (tm p N) (n : Int) = (cnt p n : Int) := by
 rw [rd_at _ n (by rw [tm_len]; exact h)]
 unfold tm
 simp
theorem tm_step (l : List Int) (i : Nat) (hi : i < l.length) (N : Nat) (h0 : 0 ≤ l[i]) (h1 : l[i] < (N : Int)) : (tm (l.take i) N).set (l[i]).toNat (rd (tm (l.take i) N) l[i] + 1) = tm (l.take (i + 1)) N := by
 obtain ⟨v,hv⟩ : ∃ v : Nat,l[i] = (v : Int) := ⟨l[i].toNat,by omega⟩
 rw [hv,tm_rd _ _ v (by omega),Int.toNat_natCast]
 apply List.ext_getElem
 ·simp [tm_len]
 intro j hj1 hj2
 rw [List.getElem_set]
 have hc : ∀ n : Int,cnt (l.take (i + 1)) n = cnt (l.take i) n + (if l[i] = n then 1 else 0) := by
  intro n
  unfold cnt
  rw [List.take_succ_eq_append_getElem hi,List.countP_append]
  simp [List.countP_cons]
 rw [tm_get,tm_get,hc]
 by_cases e : v = j
 ·subst e
  rw [if_pos rfl,if_pos hv]
  omega
 ·rw [if_neg e,if_neg (by omega)]
  omega
theorem timesReached_ev (l : List Int) (hl : l.length ≤ 2048) (hin : ∀ x ∈ l,0 ≤ x ∧ x < (l.length : Int)) : Ev (fun k => impl_timesReached.f k l) (tm l l.length) := by
 have key : ∀ (m i : Nat),i + m = l.length → Ev (fun k => impl_timesReached.l0 k (tm (l.take i) l.length) l (l.length : Int) i) (tm l l.length) := by
  intro m
  induction m with
  | zero =>
   intro i hi
   refine Ev.succ ?_
   simp only [impl_timesReached.l0]
   rw [List.take_of_length_le (by omega)]
   exact Ev.neg (by omega) (Ev.now _)
  | succ m ih =>
   intro i hi
   obtain ⟨h0,h1⟩ := hin (l[i]'(by omega)) (List.getElem_mem _)
   refine Ev.succ ?_
   simp only [impl_timesReached.l0]
   rw [rd_at l i (by omega),w64 (x := (i : Int) + 1) (by omega) (by omega)]
   refine Ev.pos (by omega) (Ev.pos (by omega) (Ev.pos (by omega) (Ev.pos h0 (Ev.pos (by rw [tm_len]; exact h1) ?_))))
   have hw : wrap64 (rd (tm (l.take i) l.length) l[i] + 1) = rd (tm (l.take i) l.length) l[i] + 1 := by
    obtain ⟨v,hv⟩ : ∃ v : Nat,l[i] = (v : Int) := ⟨l[i].toNat,by omega⟩
    rw [hv,tm_rd _ _ v (by omega)]
    have : cnt (l.take i) v ≤ (l.take i).length := List.countP_le_length
    rw [List.length_take] at this
    exact w64 (by omega) (by omega)
   rw [hw,tm_step l i (by omega) _ h0 h1]
   exact ih (i + 1) (by omega)
 unfold impl_timesReached.f
 refine Ev.pos (by omega) (Ev.pos (by omega) ?_)
 have e : List.replicate (l.length : Int).toNat (0 : Int) = tm (l.take 0) l.length := by
  rw [Int.toNat_natCast]
  apply List.ext_getElem
  ·simp [tm_len]
  intro j hj1 hj2
  simp [tm,cnt]
 rw [e]
 exact key l.length 0 (by omega)
/-! runs backward -/
def firsts (l : List Int) : Nat → Nat → List Int → List Int
 | 0,_,acc => acc
 | m + 1,i,acc => firsts l m (i + 1) (if (cnt l i : Int) = 0 then acc ++ [(i : Int)] else acc)
theorem firsts_len (l : List Int) : ∀ (m i : Nat) (acc : List Int),(firsts l m i acc).length ≤ acc.length + m
 | 0,i,acc => by rw [firsts]; omega
 | m + 1,i,acc => by
  rw [firsts]
  have := firsts_len l m (i + 1) (if (cnt l i : Int) = 0 then acc ++ [(i : Int)] else acc)
  split at this
  ·rename_i h
   rw [if_pos h]
   rw [List.length_append] at this
   simp at this
   omega
  ·rename_i h
   rw [if_neg h]
   omega
def firstR (R C : Int) (cs : List S27) (col : Int) : List Int × Bool := if backs R C cs col = true then (firsts (nextS R C cs col) (nextS R C cs col).length 0 [],true) else ([],false)
theorem specFirst_ev (R C : Int) (cs : List S27) (col : Int) (hl : cs.length ≤ 1048576) : Ev (fun k => spec_FirstStates.f k R C cs col) (firstR R C cs col) := by
 unfold spec_FirstStates.f firstR
 refine Ev.bind (rvHas_ev R C cs col hl) (Ev.ite (fun g => ?_) (fun _ => Ev.now _))
 obtain ⟨hb,c0,c1,hu⟩ := backs_of g
 refine Ev.bind (rvNext_ev hb hu c0 c1) ?_
 have hs := nextS_small (col := col) hu
 show Ev (fun k => spec_FirstStates.l0 k (nextS R C cs col) [] ((nextS R C cs col).length : Int) 0) _
 generalize nextS R C cs col = l at hs ⊢
 have key : ∀ (m i : Nat) (acc : List Int),i + m = l.length → acc.length ≤ i → Ev (fun k => spec_FirstStates.l0 k l acc (l.length : Int) i) (firsts l m i acc,true) := by
  intro m
  induction m with
  | zero =>
   intro i acc hi ha
   refine Ev.succ ?_
   simp only [spec_FirstStates.l0]
   exact Ev.neg (by omega) (Ev.now _)
  | succ m ih =>
   intro i acc hi ha
   refine Ev.succ ?_
   simp only [spec_FirstStates.l0,firsts]
   rw [w64 (x := (i : Int) + 1) (by omega) (by omega)]
   refine Ev.pos (by omega) (Ev.bind (rvBefore_ev l hs i) ?_)
   rw [bef_cnt]
   by_cases e : (cnt l i : Int) = 0
   ·rw [if_pos e]
    exact Ev.pos e (Ev.pos (by omega) (ih (i + 1) _ (by omega) (by simp; omega)))
   ·rw [if_neg e]
    exact Ev.neg e (ih (i + 1) _ (by omega) (by omega))
 exact key l.length 0 [] (by omega) (by simp)
theorem implFirst_ev (R C : Int) (cs : List S27) (col : Int) : Ev (fun k => impl_FirstStates.f k R C cs col) (firstR R C cs col) := by
 unfold impl_FirstStates.f firstR
 refine Ev.bind (goesBack_ev R C cs col) (Ev.ite (fun g => ?_) (fun _ => Ev.now _))
 obtain ⟨hb,c0,c1,hu⟩ := backs_of g
 refine Ev.bind (numbersAfter_ev hb hu c0 c1) (Ev.pos (by simp) ?_)
 have hs := nextS_small (col := col) hu
 have hin := nextS_in hb c0 c1
 refine Ev.bind (timesReached_ev (nextS R C cs col) hs hin) ?_
 generalize nextS R C cs col = l at hs hin ⊢
 have key : ∀ (m i : Nat) (acc : List Int),i + m = l.length → acc.length ≤ i → Ev (fun k => impl_FirstStates.l0 k acc (tm l l.length) ((tm l l.length).length : Int) i) (firsts l m i acc,true) := by
  intro m
  induction m with
  | zero =>
   intro i acc hi ha
   refine Ev.succ ?_
   simp only [impl_FirstStates.l0]
   exact Ev.neg (by rw [tm_len]; omega) (Ev.now _)
  | succ m ih =>
   intro i acc hi ha
   refine Ev.succ ?_
   simp only [impl_FirstStates.l0,firsts]
   rw [w64 (x := (i : Int) + 1) (by omega) (by omega),tm_rd l _ i (by omega)]
   refine Ev.pos (by rw [tm_len]; omega) (Ev.pos (by omega) (Ev.pos (by rw [tm_len]; omega) ?_))
   by_cases e : (cnt l i : Int) = 0
   ·rw [if_pos e]
    exact Ev.pos e (Ev.pos (by omega) (ih (i + 1) _ (by omega) (by simp; omega)))
   ·rw [if_neg e]
    exact Ev.neg e (ih (i + 1) _ (by omega) (by omega))
 exact key l.length 0 [] (by omega) (by simp)
/-! the cycle -/
theorem firstR_len (R C : Int) (cs : List S27) (col : Int) : (firstR R C cs col).1.length ≤ 2048 := by
 unfold firstR
 split
 ·rename_i g
  have := nextS_small (col := col) (backs_of g).2.2.2
  have := firsts_len (nextS R C cs col) (nextS R C cs col).length 0 []
  simp at this
  simp only []
  omega
 ·simp
def mkI : Nat → Int → List Int
 | 0,_ => []
 | n + 1,k => k :: mkI n (k + 1)
def mkC : Nat → Int → List S27
 | 0,_ => []
 | n + 1,k => ⟨k,k + 1⟩ :: mkC n (k + 2)
theorem mkI_len : ∀ (n : Nat) (k : Int),(mkI n k).length = n
 | 0,_ => rfl
 | n + 1,k => by rw [mkI,List.length_cons,mkI_len n]
theorem markIL_ev : ∀ (m : Nat) (pre l : List Int) (k : Int),l.length = m → pre.length + m ≤ 4294967296 → 0 ≤ k → k + m ≤ 4294967296 → Ev (fun r => laws_markIntS.l0 r (pre ++ l) k (pre.length : Int)) (k + m,pre ++ mkI m k) := by
 intro m
 induction m with
 | zero =>
  intro pre l k hl h1 h2 h3
  obtain rfl := List.eq_nil_of_length_eq_zero hl
  refine Ev.succ ?_
  simp only [laws_markIntS.l0]
  rw [List.append_nil]
  exact Ev.neg (by omega) (Ev.ret (by simp [mkI]))
 | succ m ih =>
  intro pre l k hl h1 h2 h3
  cases l with
  | nil => simp at hl
  | cons x l =>
   simp only [List.length_cons] at hl
   refine Ev.succ ?_
   simp only [laws_markIntS.l0]
   refine Ev.pos (by simp; omega) (Ev.pos (by omega) ?_)
   rw [Int.toNat_natCast,set_at _ _ _ _ _ rfl,w64 (x := k + 1) (by omega) (by omega),w64 (x := (pre.length : Int) + 1) (by omega) (by omega)]
   have e := ih (pre ++ [k]) l (k + 1) (by omega) (by simp; omega) (by omega) (by omega)
   rw [List.append_assoc,List.length_append] at e
   have e2 : (((pre.length + [k].length : Nat)) : Int) = (pre.length : Int) + 1 := by simp
   rw [e2] at e
   refine Ev.cast e ?_
   rw [mkI,List.append_assoc]
   refine Prod.ext ?_ rfl
   simp
   omega
theorem markIntS_ev (l : List Int) (k : Int) (h1 : l.length ≤ 2147483648) (h2 : 0 ≤ k) (h3 : k ≤ 2147483648) : Ev (fun r => laws_markIntS.f r l k) (k + l.length,mkI l.length k) := by
 have := markIL_ev l.length [] l k rfl (by simp; omega) h2 (by omega)
 exact this
theorem heldIL_ev : ∀ (m : Nat) (pre : List Int) (k : Int),pre.length + m ≤ 4294967296 → 0 ≤ k → k + m ≤ 4294967296 → Ev (fun r => laws_heldIntS.l0 r (pre ++ mkI m k) k (pre.length : Int)) (k + m) := by
 intro m
 induction m with
 | zero =>
  intro pre k h1 h2 h3
  refine Ev.succ ?_
  simp only [laws_heldIntS.l0,mkI]
  exact Ev.neg (by simp) (Ev.ret (by simp))
 | succ m ih =>
  intro pre k h1 h2 h3
  refine Ev.succ ?_
  simp only [laws_heldIntS.l0]
  have hr : rd (pre ++ mkI (m + 1) k) (pre.length : Int) = k := by
   rw [rd_at _ _ (by rw [List.length_append,mkI_len]; omega),List.getElem_append_right (Nat.le_refl _)]
   simp [mkI]
  rw [hr,w64 (x := k + 1) (by omega) (by omega),w64 (x := (pre.length : Int) + 1) (by omega) (by omega)]
  refine Ev.pos (by rw [List.length_append,mkI_len]; omega) (Ev.pos (by omega) (Ev.pos rfl ?_))
  have e := ih (pre ++ [k]) (k + 1) (by simp; omega) (by omega) (by omega)
  rw [List.append_assoc,List.length_append] at e
  have e2 : (((pre.length + [k].length : Nat)) : Int) = (pre.length : Int) + 1 := by simp
  rw [e2] at e
  exact Ev.cast e (by omega)
theorem heldIntS_ev (n : Nat) (k : Int) (h1 : n ≤ 2147483648) (h2 : 0 ≤ k) (h3 : k ≤ 2147483648) : Ev (fun r => laws_heldIntS.f r (mkI n k) k) (k + n) := by
 have := heldIL_ev n [] k (by simp; omega) h2 (by omega)
 exact this
theorem markCL_ev : ∀ (m : Nat) (pre l : List S27) (k : Int),l.length = m → pre.length + m ≤ 4294967296 → 0 ≤ k → k + 2 * m ≤ 4294967296 → Ev (fun r => laws_markCellS.l0 r (pre ++ l) k (pre.length : Int)) (k + 2 * m,pre ++ mkC m k) := by
 intro m
 induction m with
 | zero =>
  intro pre l k hl h1 h2 h3
  obtain rfl := List.eq_nil_of_length_eq_zero hl
  refine Ev.succ ?_
  simp only [laws_markCellS.l0]
  rw [List.append_nil]
  exact Ev.neg (by omega) (Ev.ret (by simp [mkC]))
 | succ m ih =>
  intro pre l k hl h1 h2 h3
  cases l with
  | nil => simp at hl
  | cons x l =>
   simp only [List.length_cons] at hl
   refine Ev.succ ?_
   simp only [laws_markCellS.l0]
   refine Ev.pos (by simp; omega) (Ev.pos (by omega) (Ev.bind (Ev.now _) ?_))
   rw [Int.toNat_natCast,set_at _ _ _ _ _ rfl,set_at _ _ _ _ _ rfl,w64 (x := k + 1) (by omega) (by omega),w64 (x := k + 1 + 1) (by omega) (by omega),w64 (x := (pre.length : Int) + 1) (by omega) (by omega)]
   have hr : (rd_T27 (pre ++ (⟨k,(rd_T27 (pre ++ x :: l) (pre.length : Int)).f1⟩ : S27) :: l) (pre.length : Int)).f0 = k := by
    rw [rdC_at _ _ (by simp),List.getElem_append_right (Nat.le_refl _)]
    simp
   rw [hr]
   have e := ih (pre ++ [⟨k,k + 1⟩]) l (k + 2) (by omega) (by simp; omega) (by omega) (by omega)
   rw [List.append_assoc,List.length_append] at e
   have e2 : (((pre.length + [(⟨k,k + 1⟩ : S27)].length : Nat)) : Int) = (pre.length : Int) + 1 := by simp
   rw [e2] at e
   have e3 : k + 1 + 1 = k + 2 := by omega
   rw [e3]
   refine Ev.cast e ?_
   rw [mkC,List.append_assoc]
   refine Prod.ext ?_ rfl
   simp
   omega
theorem markCellS_ev (l : List S27) (k : Int) (h1 : l.length ≤ 1073741824) (h2 : 0 ≤ k) (h3 : k ≤ 2147483648) : Ev (fun r => laws_markCellS.f r l k) (k + 2 * l.length,mkC l.length k) := by
 have := markCL_ev l.length [] l k rfl (by simp; omega) h2 (by omega)
 exact this
theorem markBoard_ev (R C : Int) (p : List S27) (hp : p.length ≤ 1048576) : Ev (fun k => laws_markBoard.f k R C p 1) (1 + 2 * p.length,mkC p.length 1) := by
 unfold laws_markBoard.f
 exact Ev.bind (markCellS_ev p 1 (by omega) (by omega) (by omega)) (Ev.now _)
theorem FnExactFirstStates : StmtFnExactFirstStates.Stmt := by
 intro R C p col _ _ hp _
 suffices h_ : Ev (fun k => laws_FnExactFirstStates.f k R C p col) true by
  obtain ⟨K,hK⟩ := h_
  exact ⟨K,hK K (Nat.le_refl _)⟩
 unfold laws_FnExactFirstStates.f
 rcases szBoard_ok R C p hp.2 with ⟨t,h,ht⟩ | ⟨hp,t,h,ht⟩
 ·exact Ev.bind (Ev.val h) (Ev.pos ht (Ev.now _))
 have hpm : (p.map cv).length ≤ 1048576 := by simp; omega
 have hto := toBoard_ev R C p hp
 have hS := specFirst_ev R C (p.map cv) col hpm
 have hI := implFirst_ev R C (p.map cv) col
 have hAl := firstR_len R C (p.map cv) col
 generalize firstR R C (p.map cv) col = A at hS hI hAl
 have heq : Ev (fun k => laws_eqIntS.f k A.1 A.1) true := Ev.cast (eqIntS_ev A.1 A.1 (by omega)) (by simp)
 have hh := heldIntS_ev A.1.length 1 (by omega) (by omega) (by omega)
 refine Ev.bind (Ev.val h) (Ev.neg ht (Ev.bind hto (Ev.bind hS (Ev.bind hto (Ev.bind hI (Ev.bind heq (Ev.pos rfl ?_)))))))
 refine Ev.succ ?_
 simp only [laws_FnExactFirstStates.j0]
 refine Ev.neg (by simp) (Ev.bind hto (Ev.bind (eqBoard_ev _ _ _ _ _ _ hpm) (Ev.pos (by simp) ?_)))
 refine Ev.bind (markBoard_ev _ _ _ hpm) (Ev.neg (by omega) (Ev.bind heq (Ev.pos rfl (Ev.succ ?_))))
 simp only [laws_FnExactFirstStates.j1]
 refine Ev.neg (by simp) (Ev.bind (markIntS_ev A.1 1 (by omega) (by omega) (by omega)) (Ev.bind hh (Ev.neg (by omega) (Ev.pos rfl ?_))))
 refine Ev.bind hto (Ev.bind hI (Ev.bind heq (Ev.pos rfl (Ev.succ ?_))))
 simp only [laws_FnExactFirstStates.j2]
 exact Ev.neg (by simp) (Ev.bind hh (Ev.neg (by omega) (Ev.pos rfl (Ev.now _))))
end Go.Proofs.Ytimeepcpgjnajaa.Pure
