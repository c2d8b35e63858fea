/- Proved: the pure statement of FnBoardParts, over numbers and lists; the lemmas on the printed functions that it takes. No further conditions. -/
import Derived.Test.YtbbhacpahnnlcaaStmtFnBoardParts
import Derived.Test.YtbbhacpahnnlcaaF2
import Derived.Test.YtbbhacpahnnlcaaF3
import Derived.Test.YtbbhacpahnnlcaaF4
import Derived.Test.YtbbhacpahnnlcaaF5
namespace Go.Proofs.Ytbbhacpahnnlcaa.Pure
open Go.RowKit Go.Proofs.Ytbbhacpahnnlcaa.F Go.Proofs.YtbbhacpahnnlcaaV.PrintWords Go.Proofs.YtbbhacpahnnlcaaV.PrintLast Go.Proofs.Ytbbhacpahnnlcaa
set_option linter.unusedVariables false
set_option maxHeartbeats 2000000

theorem Ev.succ {α : Type} {g : Nat → Option α} {r : α} (h : Ev (fun k => g (k + 1)) r) : Ev g r := Ev.step (fun _ => rfl) h
theorem Ev.pos {α : Type} {c : Prop} [Decidable c] {f g : Nat → Option α} {r : α} (hc : c) (h : Ev f r) : Ev (fun k => if c then f k else g k) r := Ev.congr (fun _ => if_pos hc) h
theorem Ev.neg {α : Type} {c : Prop} [Decidable c] {f g : Nat → Option α} {r : α} (hc : ¬ c) (h : Ev g r) : Ev (fun k => if c then f k else g k) r := Ev.congr (fun _ => if_neg hc) h
theorem Ev.ite {α : Type} {c : Prop} [Decidable c] {f g : Nat → Option α} {r s : α} (h : c → Ev f r) (h' : ¬ c → Ev g s) : Ev (fun k => if c then f k else g k) (if c then r else s) := by
 by_cases hc : c
 ·rw [if_pos hc]; exact Ev.pos hc (h hc)
 ·rw [if_neg hc]; exact Ev.neg hc (h' hc)
theorem Ev.ret {α : Type} {r s : α} (h : s = r) : Ev (fun _ => some s) r := by subst h; exact Ev.now _
theorem Ev.val {α : Type} {o : Option α} {r : α} (h : o = some r) : Ev (fun _ => o) r := ⟨0,fun _ _ => h⟩
theorem Ev.cast {α : Type} {g : Nat → Option α} {r s : α} (h : Ev g s) (e : s = r) : Ev g r := e ▸ h
theorem w64 {x : Int} (h : -9223372036854775808 ≤ x) (h' : x ≤ 9223372036854775807) : wrap64 x = x := by unfold wrap64; omega
theorem rd_at (l : List Int) (i : Nat) (h : i < l.length) : rd l (i : Int) = l[i] := by
 unfold rd
 rw [Int.toNat_natCast,List.getD_eq_getElem?_getD,List.getElem?_eq_getElem h]; rfl
theorem rdC_at (l : List S27) (i : Nat) (h : i < l.length) : rd_T27 l (i : Int) = l[i] := by
 unfold rd_T27
 rw [Int.toNat_natCast,List.getD_eq_getElem?_getD,List.getElem?_eq_getElem h]; rfl
def inR (x lo hi : Int) : Bool := decide (lo ≤ x) && decide (x ≤ hi)
theorem inR_iff {x lo hi : Int} : inR x lo hi = true ↔ lo ≤ x ∧ x ≤ hi := by unfold inR; simp
theorem inR_lo {x lo hi : Int} (h : x < lo) : inR x lo hi = false := Bool.eq_false_iff.mpr (fun g => absurd (inR_iff.1 g).1 (by omega))
theorem inR_hi {x lo hi : Int} (h : x > hi) : inR x lo hi = false := Bool.eq_false_iff.mpr (fun g => absurd (inR_iff.1 g).2 (by omega))
theorem l1In_ok (x lo hi : Int) : spec_l1In.f x lo hi = some (inR x lo hi) := by
 unfold spec_l1In.f inR
 by_cases h : lo ≤ x
 ·rw [if_pos (by omega)]; simp [h]
 ·rw [if_neg (by omega)]; simp [h]
def turning (c : S27) : Bool := decide (c.f0 = 3) || decide (c.f0 = 6)
def goodCell (c : S27) : Bool := inR c.f0 0 7 && (decide (c.f1 = 0) || (decide (c.f1 = 1) && turning c))
theorem turning_ok (c : S27) : spec_paTurning.f c.f0 c.f1 = some (turning c) := by
 unfold spec_paTurning.f turning
 by_cases h : c.f0 = 3
 ·rw [if_pos h]; simp [h]
 ·rw [if_neg h,decide_eq_false h,Bool.false_or]; rfl
theorem paGood_ok (c : S27) : spec_paGood.f c.f0 c.f1 = some (goodCell c) := by
 unfold spec_paGood.f goodCell
 rw [l1In_ok,Option.bind_some]
 by_cases h : inR c.f0 0 7 = true
 ·rw [if_pos h,h,Bool.true_and]
  by_cases h1 : c.f1 = 0
  ·rw [if_pos h1,decide_eq_true h1]; rfl
  ·rw [if_neg h1,decide_eq_false h1,Bool.false_or]
   by_cases h2 : c.f1 = 1
   ·rw [if_pos h2,turning_ok,Option.bind_some,decide_eq_true h2,Bool.true_and]
   ·rw [if_neg h2,decide_eq_false h2,Bool.false_and]
 ·rw [if_neg h,Bool.eq_false_iff.mpr h,Bool.false_and]
theorem IsCell_ok (c : S27) : impl_IsCell.f c.f0 c.f1 = some (goodCell c) := by
 unfold impl_IsCell.f goodCell turning inR
 by_cases h1 : c.f0 < 0
 ·rw [if_pos h1,decide_eq_false (show ¬ 0 ≤ c.f0 by omega)]; rfl
 rw [if_neg h1,decide_eq_true (show 0 ≤ c.f0 by omega)]
 by_cases h2 : c.f0 > 7
 ·rw [if_pos h2,decide_eq_false (show ¬ c.f0 ≤ 7 by omega)]; rfl
 rw [if_neg h2,decide_eq_true (show c.f0 ≤ 7 by omega)]
 by_cases h3 : c.f1 = 0
 ·rw [if_neg (by omega),if_neg (by omega),if_pos h3,decide_eq_true h3]; rfl
 rw [decide_eq_false h3]
 by_cases h4 : c.f1 = 1
 ·rw [if_neg (by omega),if_neg (by omega),if_neg h3,decide_eq_true h4]
  by_cases h5 : c.f0 = 3
  ·rw [if_pos h5,decide_eq_true h5]; rfl
  ·rw [if_neg h5,decide_eq_false h5]; rfl
 rw [decide_eq_false h4]
 by_cases h6 : c.f1 < 0
 ·rw [if_pos h6]; rfl
 ·rw [if_neg h6,if_pos (by omega)]; rfl
theorem cell_eq_iff (a b : S27) : (a.f0 == b.f0 && (a.f1 == b.f1)) = true ↔ a = b := by
 cases a; cases b; simp
instance : DecidableEq S27 := fun a b => if h : (a.f0 == b.f0 && (a.f1 == b.f1)) = true then isTrue ((cell_eq_iff a b).1 h) else isFalse fun e => h ((cell_eq_iff a b).2 e)
def diffGo : List S27 → List S27 → Int → List Int
 | x :: a,y :: b,i => if x = y then diffGo a b (i + 1) else i :: diffGo a b (i + 1)
 | [],_,_ => []
 | _ :: _,[],_ => []
theorem diffGo_mem : ∀ (a b : List S27) (i j : Int),a.length = b.length → (j ∈ diffGo a b i ↔ ∃ n : Nat,j = i + n ∧ n < a.length ∧ a[n]? ≠ b[n]?) := by
 intro a
 induction a with
 | nil => intro b i j _; simp [diffGo]
 | cons x a ih =>
  intro b i j h
  cases b with
  | nil => simp at h
  | cons y b =>
   have h2 := ih b (i + 1) j (by simpa using h)
   rw [diffGo]
   constructor
   ·intro hj
    by_cases e : x = y
    ·rw [if_pos e] at hj
     obtain ⟨n,e1,e2,e3⟩ := h2.1 hj
     exact ⟨n + 1,by omega,by simp; omega,by simpa using e3⟩
    ·rw [if_neg e] at hj
     rcases List.mem_cons.1 hj with rfl | hj
     ·exact ⟨0,by omega,by simp,by simpa using e⟩
     ·obtain ⟨n,e1,e2,e3⟩ := h2.1 hj
      exact ⟨n + 1,by omega,by simp; omega,by simpa using e3⟩
   ·rintro ⟨n,e1,e2,e3⟩
    cases n with
    | zero =>
     have e : ¬ x = y := by simpa using e3
     rw [if_neg e]
     exact List.mem_cons.2 (Or.inl (by omega))
    | succ n =>
     have hm := h2.2 ⟨n,by omega,by simp at e2; omega,by simpa using e3⟩
     split
     ·exact hm
     ·exact List.mem_cons.2 (Or.inr hm)
theorem diffGo_self : ∀ (a : List S27) (i : Int),diffGo a a i = []
 | [],_ => rfl
 | x :: a,i => by rw [diffGo,if_pos rfl]; exact diffGo_self a (i + 1)
theorem diffGo_set : ∀ (a : List S27) (n : Nat) (x : S27) (i : Int),diffGo a (a.set n x) i = [] ∨ diffGo a (a.set n x) i = [i + n]
 | [],_,_,_ => Or.inl rfl
 | y :: a,0,x,i => by
  rw [List.set_cons_zero,diffGo,diffGo_self]
  split
  ·exact Or.inl rfl
  ·exact Or.inr (by simp)
 | y :: a,n + 1,x,i => by
  rw [List.set_cons_succ,diffGo,if_pos rfl]
  rcases diffGo_set a n x (i + 1) with h | h
  ·exact Or.inl h
  ·right; rw [h]; congr 1; omega
theorem diffGo_len : ∀ (a b : List S27) (i : Int),(diffGo a b i).length ≤ a.length
 | [],_,_ => Nat.le_refl _
 | x :: a,[],i => by simp [diffGo]
 | x :: a,y :: b,i => by
  have := diffGo_len a b (i + 1)
  rw [diffGo]
  split <;> simp <;> omega
def seg (a : List S27) (i c : Nat) : List S27 := (a.take ((i + 1) * c)).drop (i * c)
theorem seg_len {a : List S27} {i c : Nat} (h : (i + 1) * c ≤ a.length) : (seg a i c).length = c := by
 unfold seg
 rw [List.length_drop,List.length_take,Nat.min_eq_left h,Nat.succ_mul]; omega
theorem seg_at {a : List S27} {i c n : Nat} (hn : n < c) : (seg a i c)[n]? = a[i * c + n]? := by
 unfold seg
 rw [List.getElem?_drop,List.getElem?_take,if_pos (by rw [Nat.succ_mul]; omega)]
def wide (a b : List S27) (ca cb : Nat) : Nat → List S27
 | 0 => []
 | m + 1 => wide a b ca cb m ++ (seg a m ca ++ seg b m cb)
theorem wide_len {a b : List S27} {ca cb : Nat} : ∀ (m : Nat),m * ca ≤ a.length → m * cb ≤ b.length → (wide a b ca cb m).length = m * (ca + cb)
 | 0,_,_ => by simp [wide]
 | m + 1,h1,h2 => by
  have h3 : (m + 1) * ca = m * ca + ca := Nat.succ_mul m ca
  have h4 : (m + 1) * cb = m * cb + cb := Nat.succ_mul m cb
  rw [wide,List.length_append,List.length_append,wide_len m (by omega) (by omega),seg_len h1,seg_len h2,Nat.succ_mul]
theorem wide_at {a b : List S27} {ca cb : Nat} : ∀ (m : Nat),m * ca ≤ a.length → m * cb ≤ b.length → ∀ (r c : Nat),r < m → c < ca + cb → (wide a b ca cb m)[r * (ca + cb) + c]? = if c < ca then a[r * ca + c]? else b[r * cb + (c - ca)]?
 | 0,_,_,r,c,hr,_ => by omega
 | m + 1,h1,h2,r,c,hr,hc => by
  have h3 : (m + 1) * ca = m * ca + ca := Nat.succ_mul m ca
  have h4 : (m + 1) * cb = m * cb + cb := Nat.succ_mul m cb
  have hl := wide_len (a := a) (b := b) (ca := ca) (cb := cb) m (by omega) (by omega)
  rw [wide]
  by_cases e : r = m
  ·subst e
   rw [List.getElem?_append_right (by omega),hl,show r * (ca + cb) + c - r * (ca + cb) = c by omega]
   by_cases k : c < ca
   ·rw [if_pos k,List.getElem?_append_left (by rw [seg_len h1]; exact k),seg_at k]
   ·rw [if_neg k,List.getElem?_append_right (by rw [seg_len h1]; omega),seg_len h1,seg_at (by omega)]
  ·have h5 : (r + 1) * (ca + cb) ≤ m * (ca + cb) := Nat.mul_le_mul_right _ (by omega)
   rw [Nat.succ_mul] at h5
   rw [List.getElem?_append_left (by omega)]
   exact wide_at m (by omega) (by omega) r c (by omega) hc
theorem mulc {C q R : Int} (hC : 1 ≤ C) (h : q + 1 ≤ R) : C * q + C ≤ C * R := by
 have := Int.mul_le_mul_of_nonneg_left h (show 0 ≤ C by omega)
 rw [Int.mul_add,Int.mul_one] at this
 exact this
theorem mulb {x y m n : Int} (h0 : 0 ≤ x) (h1 : x ≤ m) (g0 : 0 ≤ y) (g1 : y ≤ n) : 0 ≤ x * y ∧ x * y ≤ m * n :=
 ⟨Int.mul_nonneg h0 g0,Int.mul_le_mul h1 g1 g0 (Int.le_trans h0 h1)⟩
structure GoodB (R C : Int) (cs : List S27) : Prop where
 r1 : 1 ≤ R
 r2 : R ≤ 10
 c1 : 1 ≤ C
 c2 : C ≤ 9
 len : (cs.length : Int) = R * C
 good : ∀ c ∈ cs,goodCell c = true
theorem GoodB.le {R C : Int} {cs : List S27} (h : GoodB R C cs) : 1 ≤ R * C ∧ R * C ≤ 90 := by
 have b := mulb (show 0 ≤ R by have := h.r1; omega) h.r2 (show 0 ≤ C by have := h.c1; omega) h.c2
 have b2 : 1 * 1 ≤ R * C := Int.mul_le_mul h.r1 h.c1 (by omega) (by have := h.r1; omega)
 omega
theorem GoodB.len90 {R C : Int} {cs : List S27} (h : GoodB R C cs) : cs.length ≤ 90 := by have := h.le; have := h.len; omega
theorem GoodB.idx {R C : Int} {cs : List S27} (h : GoodB R C cs) {r c : Int} (h0 : 0 ≤ r) (h1 : r < R) (h2 : 0 ≤ c) (h3 : c < C) : 0 ≤ r * C ∧ r * C ≤ 90 ∧ 0 ≤ r * C + c ∧ r * C + c < (cs.length : Int) := by
 have a := mulc h.c1 (show r + 1 ≤ R by omega)
 have b : 0 ≤ r * C := Int.mul_nonneg h0 (by have := h.c1; omega)
 have e := h.le
 rw [h.len]
 rw [Int.mul_comm C r,Int.mul_comm C R] at a
 have := h.c1
 omega
def boardGood (R C : Int) (cs : List S27) : Bool := inR R 1 10 && (inR C 1 9 && (decide ((cs.length : Int) = R * C) && cs.all goodCell))
theorem GoodB.of {R C : Int} {cs : List S27} (h : boardGood R C cs = true) : GoodB R C cs := by
 unfold boardGood at h
 simp only [Bool.and_eq_true,decide_eq_true_eq,inR_iff,List.all_eq_true] at h
 exact ⟨h.1.1,h.1.2,h.2.1.1,h.2.1.2,h.2.2.1,h.2.2.2⟩
theorem GoodB.to {R C : Int} {cs : List S27} (h : GoodB R C cs) : boardGood R C cs = true := by
 unfold boardGood
 simp only [Bool.and_eq_true,decide_eq_true_eq,inR_iff,List.all_eq_true]
 exact ⟨⟨h.r1,h.r2⟩,⟨h.c1,h.c2⟩,h.len,h.good⟩
theorem boGood_ev (R C : Int) (cs : List S27) (hl : cs.length ≤ 1048576) : Ev (fun k => spec_boGood.f k R C cs) (boardGood R C cs) := by
 have key : ∀ (m i : Nat),i + m = cs.length → Ev (fun k => spec_boGood.l0 k cs (cs.length : Int) i) ((cs.drop i).all goodCell) := by
  intro m
  induction m with
  | zero =>
   intro i hi
   refine Ev.succ ?_
   simp only [spec_boGood.l0]
   rw [List.drop_eq_nil_of_le (by omega)]
   exact Ev.neg (by omega) (Ev.now _)
  | succ m ih =>
   intro i hi
   refine Ev.succ ?_
   simp only [spec_boGood.l0]
   refine Ev.pos (by omega) (Ev.pos (by omega) (Ev.pos (by omega) ?_))
   rw [rdC_at cs i (by omega),w64 (by omega) (by omega),List.drop_eq_getElem_cons (show i < cs.length by omega),List.all_cons]
   refine Ev.bind (Ev.val (paGood_ok _)) ?_
   by_cases h : goodCell cs[i] = true
   ·rw [h,Bool.true_and]
    exact Ev.pos (by trivial) (ih (i + 1) (by omega))
   ·exact Ev.neg h (Ev.ret (by rw [Bool.eq_false_iff.mpr h,Bool.false_and]))
 have jt : Ev (fun k => spec_boGood.j0 k true R C cs) false := by
  refine Ev.succ ?_
  simp only [spec_boGood.j0]
  exact Ev.pos (by trivial) (Ev.now _)
 unfold spec_boGood.f boardGood
 refine Ev.bind (Ev.val (l1In_ok _ _ _)) ?_
 by_cases h1 : inR R 1 10 = true
 case neg => exact Ev.neg h1 (Ev.cast jt (by rw [Bool.eq_false_iff.mpr h1,Bool.false_and]))
 refine Ev.pos h1 (Ev.bind (Ev.val (l1In_ok _ _ _)) ?_)
 rw [h1,Bool.true_and]
 by_cases h2 : inR C 1 9 = true
 case neg => exact Ev.neg h2 (Ev.cast jt (by rw [Bool.eq_false_iff.mpr h2,Bool.false_and]))
 refine Ev.pos h2 ?_
 rw [h2,Bool.true_and]
 have b := mulb (show 0 ≤ R by have := inR_iff.1 h1; omega) (inR_iff.1 h1).2 (show 0 ≤ C by have := inR_iff.1 h2; omega) (inR_iff.1 h2).2
 rw [w64 (x := R * C) (by omega) (by omega)]
 by_cases h3 : (cs.length : Int) = R * C
 case neg =>
  rw [bne_iff_ne.mpr h3,decide_eq_false h3,Bool.false_and]
  exact jt
 rw [bne_eq_false_iff_eq.mpr h3,decide_eq_true h3,Bool.true_and]
 refine Ev.succ ?_
 simp only [spec_boGood.j0]
 exact Ev.neg (by simp) (key cs.length 0 (by omega))
theorem validCells_ev (cs : List S27) : Ev (fun k => impl_validCells.f k cs) (decide (cs.length ≤ 90) && cs.all goodCell) := by
 unfold impl_validCells.f
 by_cases h : (cs.length : Int) > 90
 ·exact Ev.pos h (Ev.ret (by rw [decide_eq_false (by omega)]; rfl))
 refine Ev.neg h ?_
 rw [decide_eq_true (show cs.length ≤ 90 by omega),Bool.true_and]
 have key : ∀ (m i : Nat),i + m = cs.length → Ev (fun k => impl_validCells.l0 k cs (cs.length : Int) i) ((cs.drop i).all goodCell) := by
  intro m
  induction m with
  | zero =>
   intro i hi
   refine Ev.succ ?_
   simp only [impl_validCells.l0]
   rw [List.drop_eq_nil_of_le (by omega)]
   exact Ev.neg (by omega) (Ev.now _)
  | succ m ih =>
   intro i hi
   refine Ev.succ ?_
   simp only [impl_validCells.l0]
   refine Ev.pos (by omega) (Ev.pos (by omega) (Ev.pos (by omega) ?_))
   rw [rdC_at cs i (by omega),w64 (by omega) (by omega),List.drop_eq_getElem_cons (show i < cs.length by omega),List.all_cons]
   refine Ev.bind (Ev.val (IsCell_ok _)) ?_
   by_cases h : goodCell cs[i] = true
   ·rw [h,Bool.true_and]
    exact Ev.pos (by trivial) (ih (i + 1) (by omega))
   ·exact Ev.neg h (Ev.ret (by rw [Bool.eq_false_iff.mpr h,Bool.false_and]))
 exact key cs.length 0 (by omega)
theorem IsBoard_ev (R C : Int) (cs : List S27) : Ev (fun k => impl_IsBoard.f k R C cs) (boardGood R C cs) := by
 unfold impl_IsBoard.f boardGood
 by_cases a1 : R ≥ 1
 case neg => exact Ev.neg a1 (Ev.ret (by rw [inR_lo (by omega)]; rfl))
 refine Ev.pos a1 ?_
 by_cases a2 : R ≤ 10
 case neg => exact Ev.neg a2 (Ev.ret (by rw [inR_hi (by omega)]; rfl))
 refine Ev.pos a2 ?_
 rw [inR_iff.2 ⟨a1,a2⟩,Bool.true_and]
 by_cases a3 : C ≥ 1
 case neg => exact Ev.neg a3 (Ev.ret (by rw [inR_lo (by omega)]; rfl))
 refine Ev.pos a3 ?_
 by_cases a4 : C ≤ 9
 case neg => exact Ev.neg a4 (Ev.ret (by rw [inR_hi (by omega)]; rfl))
 refine Ev.pos a4 ?_
 rw [inR_iff.2 ⟨a3,a4⟩,Bool.true_and]
 have b := mulb (show 0 ≤ R by omega) a2 (show 0 ≤ C by omega) a4
 rw [w64 (x := R * C) (by omega) (by omega)]
 by_cases h3 : (cs.length : Int) = R * C
 case neg => exact Ev.neg h3 (Ev.ret (by rw [decide_eq_false h3,Bool.false_and]))
 refine Ev.pos h3 (Ev.bind (validCells_ev cs) (Ev.ret ?_))
 rw [decide_eq_true h3,decide_eq_true (show cs.length ≤ 90 by omega),Bool.true_and]
theorem boOwn_ok (R C : Int) (cs : List S27) (hl : cs.length ≤ 1048576) : spec_boOwn.f R C cs = some (R,C,cs) := by
 unfold spec_boOwn.f
 simp only [Option.bind_some]
 rw [if_pos (by simp; omega)]; rfl
theorem copyBoard_ok (R C : Int) (cs : List S27) (hl : cs.length ≤ 1048576) : impl_copyBoard.f R C cs = some (R,C,cs) := by
 unfold impl_copyBoard.f
 simp only [Option.bind_some]
 rw [if_pos (by simp; omega)]; rfl
theorem boAt_ok {R C : Int} {cs : List S27} (h : GoodB R C cs) {r c : Int} (h0 : 0 ≤ r) (h1 : r < R) (h2 : 0 ≤ c) (h3 : c < C) : spec_boAt.f R C cs r c = some ((rd_T27 cs (r * C + c)).f0,(rd_T27 cs (r * C + c)).f1) := by
 have b := h.idx h0 h1 h2 h3
 have l := h.len90
 unfold spec_boAt.f
 rw [w64 (x := r * C) (by omega) (by omega),w64 (by omega) (by omega),if_pos b.2.2.1,if_pos b.2.2.2]
def onB (R C : Int) (cs : List S27) (r c : Int) : Bool := boardGood R C cs && (inR r 0 (R - 1) && inR c 0 (C - 1))
theorem onB_of {R C : Int} {cs : List S27} {r c : Int} (h : onB R C cs r c = true) : GoodB R C cs ∧ 0 ≤ r ∧ r < R ∧ 0 ≤ c ∧ c < C := by
 unfold onB at h
 simp only [Bool.and_eq_true,inR_iff] at h
 exact ⟨GoodB.of h.1,h.2.1.1,by omega,h.2.2.1,by omega⟩
theorem onB_to {R C : Int} {cs : List S27} {r c : Int} (h : GoodB R C cs) (h0 : 0 ≤ r) (h1 : r < R) (h2 : 0 ≤ c) (h3 : c < C) : onB R C cs r c = true := by
 unfold onB
 simp only [Bool.and_eq_true,inR_iff]
 exact ⟨h.to,⟨h0,by omega⟩,h2,by omega⟩
theorem onBoard_ev (R C : Int) (cs : List S27) (r c : Int) : Ev (fun k => impl_onBoard.f k R C cs r c) (onB R C cs r c) := by
 unfold impl_onBoard.f onB
 refine Ev.bind (IsBoard_ev R C cs) ?_
 by_cases g : boardGood R C cs = true
 case neg => exact Ev.neg g (Ev.ret (by rw [Bool.eq_false_iff.mpr g,Bool.false_and]))
 refine Ev.pos g ?_
 rw [g,Bool.true_and]
 by_cases a : r ≥ 0
 case neg => exact Ev.neg a (Ev.ret (by rw [inR_lo (by omega),Bool.false_and]))
 refine Ev.pos a ?_
 by_cases b : r < R
 case neg => exact Ev.neg b (Ev.ret (by rw [inR_hi (by omega),Bool.false_and]))
 refine Ev.pos b ?_
 rw [inR_iff.2 ⟨a,(by omega : r ≤ R - 1)⟩,Bool.true_and]
 by_cases d : c ≥ 0
 case neg => exact Ev.neg d (Ev.ret (by rw [inR_lo (by omega)]))
 refine Ev.pos d (Ev.ret ?_)
 by_cases e : c < C
 ·rw [decide_eq_true e,inR_iff.2 ⟨d,(by omega : c ≤ C - 1)⟩]
 ·rw [decide_eq_false e,inR_hi (by omega)]
theorem boHas_ev (R C : Int) (cs : List S27) (r c : Int) (hl : cs.length ≤ 1048576) : Ev (fun k => spec_boHas.f k R C cs r c) (onB R C cs r c) := by
 unfold spec_boHas.f onB
 refine Ev.bind (boGood_ev R C cs hl) ?_
 by_cases g : boardGood R C cs = true
 case neg => exact Ev.neg g (Ev.ret (by rw [Bool.eq_false_iff.mpr g,Bool.false_and]))
 have h := GoodB.of g
 have := h.r1; have := h.r2; have := h.c1; have := h.c2
 refine Ev.pos g ?_
 rw [g,Bool.true_and,w64 (x := R - 1) (by omega) (by omega),w64 (x := C - 1) (by omega) (by omega)]
 refine Ev.bind (Ev.val (l1In_ok _ _ _)) ?_
 by_cases a : inR r 0 (R - 1) = true
 ·exact Ev.pos a (Ev.bind (Ev.val (l1In_ok _ _ _)) (Ev.ret (by rw [a,Bool.true_and])))
 ·exact Ev.neg a (Ev.ret (by rw [Bool.eq_false_iff.mpr a,Bool.false_and]))
theorem wi_ {R C : Int} {cs : List S27} (h : GoodB R C cs) {r c : Int} (h0 : 0 ≤ r) (h1 : r < R) (h2 : 0 ≤ c) (h3 : c < C) : wrap64 ((wrap64 (r * C)) + c) = r * C + c := by
 have a := h.idx h0 h1 h2 h3
 have b := h.len90
 rw [w64 (x := r * C) (by omega) (by omega),w64 (by omega) (by omega)]
def putA (R C : Int) (cs : List S27) (r c x y : Int) : Int × Int × List S27 × Bool :=
 if onB R C cs r c = true then (if goodCell ⟨x,y⟩ = true then (R,C,cs.set (r * C + c).toNat ⟨x,y⟩,true) else (0,0,[],false)) else (0,0,[],false)
theorem implPut_ev (R C : Int) (cs : List S27) (r c x y : Int) : Ev (fun k => impl_PutCell.f k R C cs r c x y) (putA R C cs r c x y) := by
 unfold impl_PutCell.f putA
 refine Ev.bind (onBoard_ev R C cs r c) (Ev.ite (fun g => ?_) (fun _ => Ev.now _))
 obtain ⟨h,h0,h1,h2,h3⟩ := onB_of g
 have hi := h.idx h0 h1 h2 h3
 refine Ev.bind (Ev.val (IsCell_ok ⟨x,y⟩)) (Ev.ite (fun _ => ?_) (fun _ => Ev.now _))
 refine Ev.bind (Ev.val (copyBoard_ok R C cs (by have := h.len90; omega))) ?_
 dsimp only
 rw [wi_ h h0 h1 h2 h3]
 exact Ev.pos hi.2.2.1 (Ev.pos hi.2.2.2 (Ev.now _))
theorem specPut_ev (R C : Int) (cs : List S27) (r c x y : Int) (hl : cs.length ≤ 1048576) : Ev (fun k => spec_PutCell.f k R C cs r c x y) (putA R C cs r c x y) := by
 unfold spec_PutCell.f putA
 refine Ev.bind (boHas_ev R C cs r c hl) (Ev.ite (fun g => ?_) (fun _ => Ev.now _))
 obtain ⟨h,h0,h1,h2,h3⟩ := onB_of g
 have hi := h.idx h0 h1 h2 h3
 refine Ev.bind (Ev.val (paGood_ok ⟨x,y⟩)) (Ev.ite (fun _ => ?_) (fun _ => Ev.now _))
 have e : spec_boWith.f R C cs (wrap64 ((wrap64 (r * C)) + c)) x y = some (R,C,cs.set (r * C + c).toNat ⟨x,y⟩) := by
  unfold spec_boWith.f
  rw [wi_ h h0 h1 h2 h3,boOwn_ok R C cs hl,Option.bind_some]
  dsimp only
  rw [if_pos hi.2.2.1,if_pos hi.2.2.2]
 exact Ev.bind (Ev.val e) (Ev.now _)
def atA (R C : Int) (cs : List S27) (r c : Int) : Int × Int × Bool :=
 if onB R C cs r c = true then ((rd_T27 cs (r * C + c)).f0,(rd_T27 cs (r * C + c)).f1,true) else (0,0,false)
theorem implAt_ev (R C : Int) (cs : List S27) (r c : Int) : Ev (fun k => impl_CellAt.f k R C cs r c) (atA R C cs r c) := by
 unfold impl_CellAt.f atA
 refine Ev.bind (onBoard_ev R C cs r c) (Ev.ite (fun g => ?_) (fun _ => Ev.now _))
 obtain ⟨h,h0,h1,h2,h3⟩ := onB_of g
 have hi := h.idx h0 h1 h2 h3
 rw [wi_ h h0 h1 h2 h3]
 exact Ev.pos hi.2.2.1 (Ev.pos hi.2.2.2 (Ev.now _))
theorem specAt_ev (R C : Int) (cs : List S27) (r c : Int) (hl : cs.length ≤ 1048576) : Ev (fun k => spec_CellAt.f k R C cs r c) (atA R C cs r c) := by
 unfold spec_CellAt.f atA
 refine Ev.bind (boHas_ev R C cs r c hl) (Ev.ite (fun g => ?_) (fun _ => Ev.now _))
 obtain ⟨h,h0,h1,h2,h3⟩ := onB_of g
 exact Ev.bind (Ev.val (boAt_ok h h0 h1 h2 h3)) (Ev.now _)
theorem boIf_ev (R C : Int) (cs : List S27) (hl : cs.length ≤ 1048576) : Ev (fun k => spec_boIf.f k R C cs) (if boardGood R C cs = true then (R,C,cs,true) else (0,0,[],false)) := by
 unfold spec_boIf.f
 exact Ev.bind (boGood_ev R C cs hl) (Ev.ite (fun _ => Ev.now _) (fun _ => Ev.now _))
def stackA (R C : Int) (a : List S27) (Q D : Int) (b : List S27) : Int × Int × List S27 × Bool :=
 if boardGood R C a = true then (if boardGood Q D b = true then (if C = D then (if R + Q > 10 then (0,0,[],false) else (R + Q,C,a ++ b,true)) else (0,0,[],false)) else (0,0,[],false)) else (0,0,[],false)
theorem implStack_ev (R C : Int) (a : List S27) (Q D : Int) (b : List S27) : Ev (fun k => impl_StackBoards.f k R C a Q D b) (stackA R C a Q D b) := by
 unfold impl_StackBoards.f stackA
 refine Ev.bind (IsBoard_ev R C a) (Ev.ite (fun g => ?_) (fun _ => Ev.now _))
 refine Ev.bind (IsBoard_ev Q D b) (Ev.ite (fun g' => Ev.ite (fun e => ?_) (fun _ => Ev.now _)) (fun _ => Ev.now _))
 have h := GoodB.of g; have h' := GoodB.of g'
 have := h.r1; have := h.r2; have := h'.r1; have := h'.r2; have := h.len90; have := h'.len90
 rw [w64 (x := R + Q) (by omega) (by omega)]
 refine Ev.ite (fun _ => Ev.now _) (fun _ => Ev.bind (Ev.val (copyBoard_ok R C a (by omega))) ?_)
 dsimp only
 rw [w64 (x := R + Q) (by omega) (by omega)]
 exact Ev.pos (by omega) (Ev.now _)
theorem good_app {R C : Int} {a : List S27} {Q : Int} {b : List S27} (h : GoodB R C a) (h' : GoodB Q C b) (l : R + Q ≤ 10) : GoodB (R + Q) C (a ++ b) := by
 have := h.r1; have := h'.r1
 refine ⟨by omega,l,h.c1,h.c2,?_,fun c hc => ?_⟩
 ·rw [List.length_append,Int.add_mul,← h.len,← h'.len]; omega
 ·rcases List.mem_append.1 hc with hc | hc
  ·exact h.good c hc
  ·exact h'.good c hc
theorem specStack_ev (R C : Int) (a : List S27) (Q D : Int) (b : List S27) (ha : a.length ≤ 90) (hb : b.length ≤ 90) : Ev (fun k => spec_StackBoards.f k R C a Q D b) (stackA R C a Q D b) := by
 unfold spec_StackBoards.f stackA
 refine Ev.bind (boGood_ev R C a (by omega)) (Ev.ite (fun g => ?_) (fun _ => Ev.now _))
 refine Ev.bind (boGood_ev Q D b (by omega)) (Ev.ite (fun g' => Ev.ite (fun e => ?_) (fun _ => Ev.now _)) (fun _ => Ev.now _))
 subst e
 have h := GoodB.of g; have h' := GoodB.of g'
 have := h.r1; have := h.r2; have := h'.r1; have := h'.r2
 rw [w64 (x := R + Q) (by omega) (by omega)]
 refine Ev.bind (Ev.now _) (Ev.pos (by simp; omega) (Ev.bind (Ev.now _) (Ev.pos (by simp; omega) ?_)))
 rw [List.nil_append]
 refine Ev.bind (boIf_ev _ _ _ (by simp; omega)) (Ev.ret ?_)
 by_cases l : R + Q > 10
 ·rw [if_pos l,if_neg (fun e => by have := (GoodB.of e).r2; omega)]
 ·rw [if_neg l,if_pos (good_app h h' (by omega)).to]
theorem wm_ {i c : Nat} (h : i * c ≤ 1000) : wrap64 ((i : Int) * (c : Int)) = ((i * c : Nat) : Int) := by
 rw [← Int.natCast_mul]
 generalize i * c = n at h ⊢
 exact w64 (by omega) (by omega)
theorem seg_tn (a : List S27) (i c : Nat) : (a.take (((i + 1) * c : Nat) : Int).toNat).drop ((i * c : Nat) : Int).toNat = seg a i c := by
 rw [Int.toNat_natCast,Int.toNat_natCast]; rfl
theorem beside_ar {rn cn : Nat} {a : List S27} (ha : a.length = rn * cn) (hl : rn * cn ≤ 90) {i : Nat} (hi : i < rn) : i * cn ≤ (i + 1) * cn ∧ (i + 1) * cn ≤ a.length ∧ i * cn ≤ 1000 ∧ (i + 1) * cn ≤ 1000 ∧ (seg a i cn).length ≤ 90 ∧ i * cn ≤ 90 := by
 have h1 : i * cn ≤ (i + 1) * cn := Nat.mul_le_mul_right _ (by omega)
 have h2 : (i + 1) * cn ≤ rn * cn := Nat.mul_le_mul_right _ (by omega)
 have h3 : (seg a i cn).length = cn := seg_len (by omega)
 have h4 : 1 * cn ≤ rn * cn := Nat.mul_le_mul_right _ (by omega)
 refine ⟨h1,by omega,by omega,by omega,by omega,by omega⟩
theorem implBeside_l0 {rn cn dn : Nat} {a b : List S27} (ha : a.length = rn * cn) (hb : b.length = rn * dn) (hr : rn ≤ 10) (hc : rn * cn ≤ 90) (hd : rn * dn ≤ 90) : ∀ (m i : Nat),i + m = rn → Ev (fun k => impl_BesideBoards.l0 k (i : Int) (rn : Int) (cn : Int) a (rn : Int) (dn : Int) b (rn : Int) ((cn : Int) + dn) (wide a b cn dn i)) ((rn : Int),(cn : Int) + dn,wide a b cn dn rn,true) := by
 intro m
 induction m with
 | zero =>
  intro i hi
  obtain rfl : i = rn := by omega
  refine Ev.succ ?_
  simp only [impl_BesideBoards.l0]
  exact Ev.neg (by omega) (Ev.now _)
 | succ m ih =>
  intro i hi
  obtain ⟨p1,p2,p3,p4,p5,p6⟩ := beside_ar ha hc (show i < rn by omega)
  obtain ⟨q1,q2,q3,q4,q5,q6⟩ := beside_ar hb hd (show i < rn by omega)
  have hw := wide_len (a := a) (b := b) (ca := cn) (cb := dn) i (by omega) (by omega)
  rw [Nat.mul_add] at hw
  have e1 : wrap64 ((i : Int) + 1) = ((i + 1 : Nat) : Int) := by rw [w64 (by omega) (by omega)]; omega
  refine Ev.succ ?_
  simp only [impl_BesideBoards.l0]
  rw [e1,wm_ p3,wm_ p4,wm_ q3,wm_ q4]
  refine Ev.pos (by omega) (Ev.pos (Int.natCast_nonneg _) (Ev.pos (Int.ofNat_le.2 p1) (Ev.pos (Int.ofNat_le.2 p2) ?_)))
  rw [seg_tn,seg_tn]
  refine Ev.bind (Ev.now _) (Ev.pos (by omega) (Ev.bind (Ev.now _) (Ev.pos (Int.natCast_nonneg _) (Ev.pos (Int.ofNat_le.2 q1) (Ev.pos (Int.ofNat_le.2 q2) (Ev.bind (Ev.now _) (Ev.pos (by rw [List.length_append]; omega) ?_)))))))
  have := ih (i + 1) (by omega)
  rw [wide,← List.append_assoc] at this
  exact this
theorem boRow_ok {rn cn : Nat} {a : List S27} (ha : a.length = rn * cn) (hl : rn * cn ≤ 90) (hr : rn ≤ 10) {i : Nat} (hi : i < rn) (R : Int) : spec_boRow.f R (cn : Int) a (i : Int) = some (seg a i cn) := by
 obtain ⟨p1,p2,p3,p4,p5,p6⟩ := beside_ar ha hl hi
 have e1 : wrap64 ((i : Int) + 1) = ((i + 1 : Nat) : Int) := by rw [w64 (by omega) (by omega)]; omega
 unfold spec_boRow.f
 rw [e1,wm_ p3,wm_ p4,if_pos (Int.natCast_nonneg _),if_pos (Int.ofNat_le.2 p1),if_pos (Int.ofNat_le.2 p2),seg_tn,Option.bind_some,Option.bind_some,if_pos (by simp only [List.length_nil]; omega),List.nil_append]
theorem specBeside_l0 {rn cn dn : Nat} {a b : List S27} (ha : a.length = rn * cn) (hb : b.length = rn * dn) (hr : rn ≤ 10) (hc : rn * cn ≤ 90) (hd : rn * dn ≤ 90) : ∀ (m i : Nat),i + m = rn → Ev (fun k => spec_BesideBoards.l0 k (i : Int) (rn : Int) (cn : Int) a (rn : Int) (dn : Int) b (rn : Int) ((cn : Int) + dn) (wide a b cn dn i)) (if boardGood (rn : Int) ((cn : Int) + dn) (wide a b cn dn rn) = true then ((rn : Int),(cn : Int) + dn,wide a b cn dn rn,true) else (0,0,[],false)) := by
 intro m
 induction m with
 | zero =>
  intro i hi
  obtain rfl : i = rn := by omega
  refine Ev.succ ?_
  simp only [spec_BesideBoards.l0]
  have hw := wide_len (a := a) (b := b) (ca := cn) (cb := dn) i (by omega) (by omega)
  rw [Nat.mul_add] at hw
  refine Ev.neg (by omega) (Ev.bind (boIf_ev _ _ _ (by omega)) (Ev.now _))
 | succ m ih =>
  intro i hi
  obtain ⟨p1,p2,p3,p4,p5,p6⟩ := beside_ar ha hc (show i < rn by omega)
  obtain ⟨q1,q2,q3,q4,q5,q6⟩ := beside_ar hb hd (show i < rn by omega)
  have hw := wide_len (a := a) (b := b) (ca := cn) (cb := dn) i (by omega) (by omega)
  rw [Nat.mul_add] at hw
  have e1 : wrap64 ((i : Int) + 1) = ((i + 1 : Nat) : Int) := by rw [w64 (by omega) (by omega)]; omega
  refine Ev.succ ?_
  simp only [spec_BesideBoards.l0]
  rw [e1]
  refine Ev.pos (by omega) (Ev.bind (Ev.val (boRow_ok ha hc hr (by omega) _)) (Ev.pos (by omega) (Ev.bind (Ev.now _) (Ev.bind (Ev.val (boRow_ok hb hd hr (by omega) _)) (Ev.pos (by rw [List.length_append]; omega) ?_)))))
  have := ih (i + 1) (by omega)
  rw [wide,← List.append_assoc] at this
  exact this
theorem seg_mem {a : List S27} {i c : Nat} {x : S27} (h : x ∈ seg a i c) : x ∈ a := List.mem_of_mem_take (List.mem_of_mem_drop h)
theorem wide_mem {a b : List S27} {ca cb : Nat} {x : S27} : ∀ (m : Nat),x ∈ wide a b ca cb m → x ∈ a ∨ x ∈ b
 | 0,h => by simp [wide] at h
 | m + 1,h => by
  rw [wide] at h
  rcases List.mem_append.1 h with h | h
  ·exact wide_mem m h
  ·rcases List.mem_append.1 h with h | h
   ·exact Or.inl (seg_mem h)
   ·exact Or.inr (seg_mem h)
theorem GoodB.nats {R C : Int} {cs : List S27} (h : GoodB R C cs) : ∃ rn cn : Nat,R = rn ∧ C = cn ∧ cs.length = rn * cn ∧ 1 ≤ rn ∧ rn ≤ 10 ∧ 1 ≤ cn ∧ cn ≤ 9 ∧ rn * cn ≤ 90 := by
 obtain ⟨r1,r2,c1,c2,l,g⟩ := h
 obtain ⟨rn,rfl⟩ := Int.eq_ofNat_of_zero_le (show 0 ≤ R by omega)
 obtain ⟨cn,rfl⟩ := Int.eq_ofNat_of_zero_le (show 0 ≤ C by omega)
 have e : cs.length = rn * cn := by exact_mod_cast l
 have b : rn * cn ≤ 10 * 9 := Nat.mul_le_mul (by omega) (by omega)
 exact ⟨rn,cn,rfl,rfl,e,by omega,by omega,by omega,by omega,by omega⟩
theorem good_wide {rn cn dn : Nat} {a b : List S27} (h : GoodB (rn : Int) (cn : Int) a) (h' : GoodB (rn : Int) (dn : Int) b) (ha : a.length = rn * cn) (hb : b.length = rn * dn) (l : cn + dn ≤ 9) : GoodB (rn : Int) ((cn : Int) + dn) (wide a b cn dn rn) := by
 have := h.r1; have := h.r2; have := h.c1
 refine ⟨by omega,by omega,by omega,by omega,?_,fun c hc => ?_⟩
 ·rw [wide_len rn (by omega) (by omega)]; exact_mod_cast rfl
 ·rcases wide_mem rn hc with hc | hc
  ·exact h.good c hc
  ·exact h'.good c hc
def besideA (R C : Int) (a : List S27) (Q D : Int) (b : List S27) : Int × Int × List S27 × Bool :=
 if boardGood R C a = true then (if boardGood Q D b = true then (if R = Q then (if C + D > 9 then (0,0,[],false) else (R,C + D,wide a b C.toNat D.toNat R.toNat,true)) else (0,0,[],false)) else (0,0,[],false)) else (0,0,[],false)
theorem implBeside_ev (R C : Int) (a : List S27) (Q D : Int) (b : List S27) : Ev (fun k => impl_BesideBoards.f k R C a Q D b) (besideA R C a Q D b) := by
 have jt : Ev (fun k => impl_BesideBoards.j0 k true R C a Q D b) (0,0,[],false) := by
  refine Ev.succ ?_
  simp only [impl_BesideBoards.j0]
  exact Ev.pos trivial (Ev.now _)
 unfold impl_BesideBoards.f besideA
 refine Ev.bind (IsBoard_ev R C a) (Ev.ite (fun g => ?_) (fun _ => jt))
 refine Ev.bind (IsBoard_ev Q D b) (Ev.ite (fun g' => Ev.ite (fun e => ?_) (fun _ => jt)) (fun _ => jt))
 subst e
 have h := GoodB.of g; have h' := GoodB.of g'
 obtain ⟨rn,cn,rfl,rfl,ha,_,hr,_,hc,hx⟩ := h.nats
 obtain ⟨rn',dn,e',rfl,hb,_,_,_,hd,hy⟩ := h'.nats
 obtain rfl : rn = rn' := by omega
 rw [w64 (x := (cn : Int) + dn) (by omega) (by omega)]
 by_cases l : (cn : Int) + dn > 9
 ·rw [decide_eq_true l,if_pos l]; exact jt
 ·rw [decide_eq_false l,if_neg l]
  refine Ev.succ ?_
  simp only [impl_BesideBoards.j0]
  rw [w64 (x := (cn : Int) + dn) (by omega) (by omega)]
  exact Ev.neg (by simp) (implBeside_l0 ha hb hr hx hy rn 0 (by omega))
theorem specBeside_ev (R C : Int) (a : List S27) (Q D : Int) (b : List S27) (la : a.length ≤ 90) (lb : b.length ≤ 90) : Ev (fun k => spec_BesideBoards.f k R C a Q D b) (besideA R C a Q D b) := by
 have jt : Ev (fun k => spec_BesideBoards.j0 k true R C a Q D b) (0,0,[],false) := by
  refine Ev.succ ?_
  simp only [spec_BesideBoards.j0]
  exact Ev.pos trivial (Ev.now _)
 unfold spec_BesideBoards.f besideA
 refine Ev.bind (boGood_ev R C a (by omega)) (Ev.ite (fun g => ?_) (fun _ => jt))
 refine Ev.bind (boGood_ev Q D b (by omega)) (Ev.ite (fun g' => ?_) (fun _ => jt))
 by_cases e : R = Q
 case neg => rw [if_neg e,show (R != Q) = true by simpa using e]; exact jt
 subst e
 rw [if_pos rfl,show (R != R) = false by simp]
 have h := GoodB.of g; have h' := GoodB.of g'
 obtain ⟨rn,cn,rfl,rfl,ha,_,hr,_,hc,hx⟩ := h.nats
 obtain ⟨rn',dn,e',rfl,hb,_,_,_,hd,hy⟩ := h'.nats
 obtain rfl : rn = rn' := by omega
 refine Ev.succ ?_
 simp only [spec_BesideBoards.j0]
 rw [w64 (x := (cn : Int) + dn) (by omega) (by omega)]
 refine Ev.neg (by simp) (Ev.cast (specBeside_l0 ha hb hr hx hy rn 0 (by omega)) ?_)
 by_cases l : (cn : Int) + dn > 9
 ·rw [if_neg (fun e => by have := (GoodB.of e).c2; omega),if_pos l]
 ·rw [if_pos (good_wide h h' ha hb (by omega)).to,if_neg l]; rfl
theorem cellne {a b : S27} (h : a ≠ b) : (!(a.f0 == b.f0) || (!(a.f1 == b.f1))) = true := by
 rw [← Bool.not_and,Bool.not_eq_true']
 exact Bool.eq_false_iff.mpr (fun e => h ((cell_eq_iff a b).1 e))
theorem cellsame (a : S27) : (!(a.f0 == a.f0) || (!(a.f1 == a.f1))) = false := by simp
def diffA (R C : Int) (a : List S27) (Q D : Int) (b : List S27) : List Int × Bool :=
 if boardGood R C a = true then (if boardGood Q D b = true then (if R = Q then (if C = D then (diffGo a b 0,true) else ([],false)) else ([],false)) else ([],false)) else ([],false)
theorem implDiff_ev (R C : Int) (a : List S27) (Q D : Int) (b : List S27) : Ev (fun k => impl_DifferentCells.f k R C a Q D b) (diffA R C a Q D b) := by
 have jt : Ev (fun k => impl_DifferentCells.j0 k true R C a Q D b) ([],false) := by
  refine Ev.succ ?_
  simp only [impl_DifferentCells.j0]
  exact Ev.pos trivial (Ev.now _)
 unfold impl_DifferentCells.f diffA
 refine Ev.bind (IsBoard_ev R C a) (Ev.ite (fun g => ?_) (fun _ => jt))
 refine Ev.bind (IsBoard_ev Q D b) (Ev.ite (fun g' => Ev.ite (fun e => ?_) (fun _ => jt)) (fun _ => jt))
 by_cases e2 : C = D
 case neg => rw [if_neg e2,show (C != D) = true by simpa using e2]; exact jt
 subst e; subst e2
 rw [if_pos rfl,show (C != C) = false by simp]
 have h := GoodB.of g; have h' := GoodB.of g'
 have lab : a.length = b.length := by have := h.len; have := h'.len; omega
 have la := h.len90
 have key : ∀ (m i : Nat) (q : List Int),i + m = a.length → q.length ≤ i → Ev (fun k => impl_DifferentCells.l0 k q (a.length : Int) (i : Int) R C a R C b) (q ++ diffGo (a.drop i) (b.drop i) i,true) := by
  intro m
  induction m with
  | zero =>
   intro i q hi hq
   refine Ev.succ ?_
   simp only [impl_DifferentCells.l0]
   rw [List.drop_eq_nil_of_le (show a.length ≤ i by omega),diffGo,List.append_nil]
   exact Ev.neg (by omega) (Ev.now _)
  | succ m ih =>
   intro i q hi hq
   refine Ev.succ ?_
   simp only [impl_DifferentCells.l0]
   rw [rdC_at a i (by omega),rdC_at b i (by omega),w64 (x := (i : Int) + 1) (by omega) (by omega),List.drop_eq_getElem_cons (show i < a.length by omega),List.drop_eq_getElem_cons (show i < b.length by omega),diffGo]
   refine Ev.pos (by omega) (Ev.pos (by omega) (Ev.pos (by omega) (Ev.pos (by omega) ?_)))
   by_cases s : a[i] = b[i]
   ·rw [if_pos s,s]
    exact Ev.neg (by rw [cellsame]; simp) (ih (i + 1) q (by omega) (by omega))
   ·rw [if_neg s]
    refine Ev.pos (cellne s) (Ev.pos (by omega) ?_)
    have := ih (i + 1) (q ++ [(i : Int)]) (by omega) (by simp; omega)
    rw [List.append_assoc] at this
    exact this
 refine Ev.succ ?_
 simp only [impl_DifferentCells.j0]
 exact Ev.neg (by simp) (key a.length 0 [] (by omega) (by simp))
theorem boSize_ev (R C : Int) (a : List S27) (Q D : Int) (b : List S27) (la : a.length ≤ 90) (lb : b.length ≤ 90) : Ev (fun k => spec_boSize.f k R C a Q D b) (boardGood R C a && (boardGood Q D b && (decide (R = Q) && decide (C = D)))) := by
 unfold spec_boSize.f
 refine Ev.bind (boGood_ev R C a (by omega)) ?_
 by_cases g : boardGood R C a = true
 case neg => exact Ev.neg g (Ev.ret (by rw [Bool.eq_false_iff.mpr g,Bool.false_and]))
 refine Ev.pos g (Ev.bind (boGood_ev Q D b (by omega)) ?_)
 rw [g,Bool.true_and]
 by_cases g' : boardGood Q D b = true
 case neg => exact Ev.neg g' (Ev.ret (by rw [Bool.eq_false_iff.mpr g',Bool.false_and]))
 refine Ev.pos g' ?_
 rw [g',Bool.true_and]
 by_cases e : R = Q
 ·rw [decide_eq_true e,Bool.true_and]; exact Ev.pos e (Ev.ret (by rfl))
 ·rw [decide_eq_false e,Bool.false_and]; exact Ev.neg e (Ev.now _)
theorem specDiff_ev (R C : Int) (a : List S27) (Q D : Int) (b : List S27) (la : a.length ≤ 90) (lb : b.length ≤ 90) : Ev (fun k => spec_DifferentCells.f k R C a Q D b) (diffA R C a Q D b) := by
 unfold spec_DifferentCells.f diffA
 refine Ev.bind (boSize_ev R C a Q D b la lb) ?_
 by_cases g : boardGood R C a = true
 case neg => rw [if_neg g]; exact Ev.neg (by rw [Bool.eq_false_iff.mpr g,Bool.false_and]; simp) (Ev.now _)
 by_cases g' : boardGood Q D b = true
 case neg => rw [if_pos g,if_neg g']; exact Ev.neg (by rw [Bool.eq_false_iff.mpr g',Bool.false_and,Bool.and_false]; simp) (Ev.now _)
 by_cases e : R = Q
 case neg => rw [if_pos g,if_pos g',if_neg e]; exact Ev.neg (by rw [decide_eq_false e]; simp) (Ev.now _)
 by_cases e2 : C = D
 case neg => rw [if_pos g,if_pos g',if_pos e,if_neg e2]; exact Ev.neg (by rw [decide_eq_false e2]; simp) (Ev.now _)
 rw [if_pos g,if_pos g',if_pos e,if_pos e2]
 have h := GoodB.of g; have h' := GoodB.of g'
 have lab : a.length = b.length := by have := h.len; have := h'.len; subst e; subst e2; omega
 have key : ∀ (m i : Nat) (q : List Int),i + m = a.length → q.length ≤ i → Ev (fun k => spec_boDifferent.l0 k q a (a.length : Int) (i : Int) Q D b) (q ++ diffGo (a.drop i) (b.drop i) i) := by
  intro m
  induction m with
  | zero =>
   intro i q hi hq
   refine Ev.succ ?_
   simp only [spec_boDifferent.l0]
   rw [List.drop_eq_nil_of_le (show a.length ≤ i by omega),diffGo,List.append_nil]
   exact Ev.neg (by omega) (Ev.now _)
  | succ m ih =>
   intro i q hi hq
   refine Ev.succ ?_
   simp only [spec_boDifferent.l0]
   rw [rdC_at a i (by omega),rdC_at b i (by omega),w64 (x := (i : Int) + 1) (by omega) (by omega),List.drop_eq_getElem_cons (show i < a.length by omega),List.drop_eq_getElem_cons (show i < b.length by omega),diffGo]
   refine Ev.pos (by omega) (Ev.pos (by omega) (Ev.pos (by omega) (Ev.pos (by omega) ?_)))
   by_cases s : a[i] = b[i]
   ·rw [if_pos s,s]
    exact Ev.neg (by rw [cellsame]; simp) (ih (i + 1) q (by omega) (by omega))
   ·rw [if_neg s]
    refine Ev.pos (cellne s) (Ev.pos (by omega) ?_)
    have := ih (i + 1) (q ++ [(i : Int)]) (by omega) (by simp; omega)
    rw [List.append_assoc] at this
    exact this
 have hd : Ev (fun k => spec_boDifferent.f k R C a Q D b) (diffGo a b 0) := by
  unfold spec_boDifferent.f
  exact key a.length 0 [] (by omega) (by simp)
 exact Ev.pos (by rw [g,g',decide_eq_true e,decide_eq_true e2]; rfl) (Ev.bind hd (Ev.now _))
def cutA (R C : Int) (cs : List S27) (i j : Int) : Int × Int × List S27 × Bool :=
 if boardGood R C cs = true then (if 0 ≤ i ∧ i < j ∧ j ≤ R then (j - i,C,(cs.take (j * C).toNat).drop (i * C).toNat,true) else (0,0,[],false)) else (0,0,[],false)
theorem cut_ar {R C : Int} {cs : List S27} (h : GoodB R C cs) {i j : Int} (h0 : 0 ≤ i) (h1 : i < j) (h2 : j ≤ R) : wrap64 (i * C) = i * C ∧ wrap64 (j * C) = j * C ∧ 0 ≤ i * C ∧ i * C ≤ j * C ∧ j * C ≤ (cs.length : Int) := by
 have c1 := h.c1
 have l := h.len
 have l9 := h.len90
 have a1 : 0 ≤ i * C := Int.mul_nonneg h0 (by omega)
 have a2 : i * C ≤ j * C := Int.mul_le_mul_of_nonneg_right (by omega) (by omega)
 have a3 : j * C ≤ R * C := Int.mul_le_mul_of_nonneg_right h2 (by omega)
 exact ⟨w64 (by omega) (by omega),w64 (by omega) (by omega),a1,a2,by omega⟩
theorem implCut_ev (R C : Int) (cs : List S27) (i j : Int) : Ev (fun k => impl_CutRows.f k R C cs i j) (cutA R C cs i j) := by
 unfold impl_CutRows.f cutA
 refine Ev.bind (IsBoard_ev R C cs) (Ev.ite (fun g => ?_) (fun _ => Ev.now _))
 have h := GoodB.of g
 by_cases a : i < 0
 ·rw [if_neg (show ¬ (0 ≤ i ∧ i < j ∧ j ≤ R) by omega)]; exact Ev.pos a (Ev.now _)
 by_cases b : i ≥ j
 ·rw [if_neg (show ¬ (0 ≤ i ∧ i < j ∧ j ≤ R) by omega)]; exact Ev.neg a (Ev.pos b (Ev.now _))
 by_cases c : j > R
 ·rw [if_neg (show ¬ (0 ≤ i ∧ i < j ∧ j ≤ R) by omega)]; exact Ev.neg a (Ev.neg b (Ev.pos c (Ev.now _)))
 obtain ⟨e1,e2,e3,e4,e5⟩ := cut_ar h (show 0 ≤ i by omega) (show i < j by omega) (show j ≤ R by omega)
 have := h.r1; have := h.r2; have l9 := h.len90
 rw [if_pos (show 0 ≤ i ∧ i < j ∧ j ≤ R by omega),e1,e2,w64 (x := j - i) (by omega) (by omega)]
 refine Ev.neg a (Ev.neg b (Ev.neg c (Ev.pos e3 (Ev.pos e4 (Ev.pos e5 (Ev.bind (Ev.now _) (Ev.pos ?_ (Ev.now _))))))))
 rw [List.length_drop,List.length_take,List.length_nil]; omega
theorem specCut_ev (R C : Int) (cs : List S27) (i j : Int) (hl : cs.length ≤ 90) : Ev (fun k => spec_CutRows.f k R C cs i j) (cutA R C cs i j) := by
 unfold spec_CutRows.f cutA
 refine Ev.bind (boGood_ev R C cs (by omega)) (Ev.ite (fun g => ?_) (fun _ => Ev.now _))
 have h := GoodB.of g
 have := h.r1; have := h.r2; have l9 := h.len90
 rw [w64 (x := R - 1) (by omega) (by omega)]
 refine Ev.bind (Ev.val (l1In_ok _ _ _)) ?_
 by_cases a : inR i 0 (R - 1) = true
 case neg =>
  rw [if_neg (show ¬ (0 ≤ i ∧ i < j ∧ j ≤ R) from fun e => a (inR_iff.2 ⟨e.1,by omega⟩))]
  exact Ev.neg a (Ev.now _)
 have a' := inR_iff.1 a
 rw [w64 (x := i + 1) (by omega) (by omega)]
 refine Ev.pos a (Ev.bind (Ev.val (l1In_ok _ _ _)) ?_)
 by_cases b : inR j (i + 1) R = true
 case neg =>
  rw [if_neg (show ¬ (0 ≤ i ∧ i < j ∧ j ≤ R) from fun e => b (inR_iff.2 ⟨by omega,e.2.2⟩))]
  exact Ev.neg b (Ev.now _)
 have b' := inR_iff.1 b
 obtain ⟨e1,e2,e3,e4,e5⟩ := cut_ar h (show 0 ≤ i by omega) (show i < j by omega) (show j ≤ R by omega)
 rw [if_pos (show 0 ≤ i ∧ i < j ∧ j ≤ R by omega),e1,e2,w64 (x := j - i) (by omega) (by omega)]
 refine Ev.pos b (Ev.bind (Ev.now _) (Ev.pos e3 (Ev.pos e4 (Ev.pos e5 (Ev.bind (Ev.now _) (Ev.pos ?_ (Ev.ret (by rw [List.nil_append]))))))))
 rw [List.length_drop,List.length_take,List.length_nil]; omega
theorem qBoard_ev (r c : Int) (cs : List S27) (h : cs.length ≤ 1048576) : Ev (fun k => laws_qBoard.f k r c cs r c cs) true := by
 have key : ∀ (m i : Nat),i + m = cs.length → Ev (fun k => laws_qBoard.l0 k (cs.length : Int) i r c cs r c cs) true := by
  intro m
  induction m with
  | zero =>
   intro i hi
   refine Ev.succ ?_
   simp only [laws_qBoard.l0]
   exact Ev.neg (by omega) (Ev.now _)
  | succ m ih =>
   intro i hi
   refine Ev.succ ?_
   simp only [laws_qBoard.l0]
   rw [w64 (x := (i : Int) + 1) (by omega) (by omega)]
   exact Ev.pos (by omega) (Ev.pos (by omega) (Ev.pos (by omega) (Ev.pos (by omega) (Ev.neg (by simp) (ih (i + 1) (by omega))))))
 unfold laws_qBoard.f
 refine Ev.pos rfl (Ev.pos rfl (Ev.succ ?_))
 simp only [laws_qBoard.j0]
 exact Ev.neg (by simp) (key cs.length 0 (by omega))
theorem qInts_ev (l : List Int) (h : l.length ≤ 1048576) : Ev (fun k => laws_qInts.f k l l) true := by
 have key : ∀ (m i : Nat),i + m = l.length → Ev (fun k => laws_qInts.l0 k l l (l.length : Int) i) true := by
  intro m
  induction m with
  | zero =>
   intro i hi
   refine Ev.succ ?_
   simp only [laws_qInts.l0]
   exact Ev.neg (by omega) (Ev.now _)
  | succ m ih =>
   intro i hi
   refine Ev.succ ?_
   simp only [laws_qInts.l0]
   rw [w64 (x := (i : Int) + 1) (by omega) (by omega)]
   exact Ev.pos (by omega) (Ev.pos (by omega) (Ev.pos (by omega) (Ev.pos (by omega) (Ev.pos trivial (ih (i + 1) (by omega))))))
 unfold laws_qInts.f
 exact Ev.pos rfl (key l.length 0 (by omega))
theorem qHas_ev (l : List Int) (x : Int) (h : l.length ≤ 1048576) : Ev (fun k => laws_qHas.f k l x) (decide (x ∈ l)) := by
 have key : ∀ (m i : Nat),i + m = l.length → Ev (fun k => laws_qHas.l0 k x l (l.length : Int) i) (decide (x ∈ l.drop i)) := by
  intro m
  induction m with
  | zero =>
   intro i hi
   refine Ev.succ ?_
   simp only [laws_qHas.l0]
   rw [List.drop_eq_nil_of_le (show l.length ≤ i by omega)]
   exact Ev.neg (by omega) (Ev.ret (by simp))
  | succ m ih =>
   intro i hi
   refine Ev.succ ?_
   simp only [laws_qHas.l0]
   rw [w64 (x := (i : Int) + 1) (by omega) (by omega),rd_at l i (by omega),List.drop_eq_getElem_cons (show i < l.length by omega)]
   refine Ev.pos (by omega) (Ev.pos (by omega) (Ev.pos (by omega) ?_))
   by_cases e : l[i] = x
   ·exact Ev.pos e (Ev.ret (by rw [e]; simp))
   ·refine Ev.neg e (Ev.cast (ih (i + 1) (by omega)) ?_)
    rw [decide_eq_decide,List.mem_cons]
    exact ⟨Or.inr,fun h => h.resolve_left (fun h => e h.symm)⟩
 unfold laws_qHas.f
 exact key l.length 0 (by omega)
theorem u8_wf {l : List Int} (h : ∀ y ∈ l,(Lit.int .u8 y).wf = true) : ∀ y ∈ l,0 ≤ y ∧ y ≤ 255 := by
 intro y hy
 have e := h y hy
 have e2 : (Lit.int .u8 y).wf = (decide ((0 : Int) ≤ y) && decide (y ≤ 255)) := rfl
 rw [e2] at e
 simp only [Bool.and_eq_true,decide_eq_true_eq] at e
 exact e
theorem and255 (y : Int) : 0 ≤ wrap64 (Go.bits .and .u64 y 255) ∧ wrap64 (Go.bits .and .u64 y 255) ≤ 255 := by
 have hd : Go.bits .and .u64 y 255 = IntKind.u64.wrap (((BitVec.ofInt 64 y &&& BitVec.ofInt 64 255 : BitVec 64).toNat : Nat) : Int) := rfl
 have hw : ∀ x : Int,IntKind.u64.wrap x = x % 18446744073709551616 := fun x => rfl
 rw [hd,BitVec.toNat_and]
 have e : (BitVec.ofInt 64 255).toNat = 255 := by decide
 rw [e,hw]
 have b := Nat.and_le_right (n := (BitVec.ofInt 64 y).toNat) (m := 255)
 rw [Int.emod_eq_of_lt (by omega) (by omega),w64 (by omega) (by omega)]
 omega
theorem next_ok {l : List Int} (hl : ∀ y ∈ l,0 ≤ y ∧ y ≤ 255) {a : Int} (s : Int) (h0 : 0 ≤ a) (h1 : a ≤ 1000000) : ∃ b s',spec_l1Cur_next.f l a s = some (b,a + 1,s') ∧ 0 ≤ b ∧ b ≤ 255 := by
 unfold spec_l1Cur_next.f
 rw [w64 (x := a + 1) (by omega) (by omega)]
 by_cases c : a < (l.length : Int)
 ·rw [if_pos c,if_pos h0,if_pos (by omega)]
  have hm : rd l a ∈ l := by
   unfold rd
   rw [List.getD_eq_getElem?_getD,List.getElem?_eq_getElem (show a.toNat < l.length by omega)]
   exact List.getElem_mem _
  have hb := hl _ hm
  refine ⟨_,_,rfl,?_⟩
  rw [w64 (by omega) (by omega)]
  exact hb
 ·rw [if_neg c,if_neg (by omega)]
  exact ⟨_,_,rfl,and255 _⟩
theorem pick_ok {l : List Int} (hl : ∀ y ∈ l,0 ≤ y ∧ y ≤ 255) {a : Int} (s : Int) (h0 : 0 ≤ a) (h1 : a ≤ 900000) (n : Int) : ∃ v a' s',spec_l1Cur_pick.f l a s n = some (v,a',s') ∧ 0 ≤ v ∧ (v < n ∨ n ≤ 1 ∧ v = 0) ∧ a ≤ a' ∧ a' ≤ a + 2 := by
 unfold spec_l1Cur_pick.f
 by_cases c : n ≤ 1
 ·rw [if_pos c]
  exact ⟨_,_,_,rfl,by omega,by omega,by omega,by omega⟩
 rw [if_neg c]
 obtain ⟨b,s1,e1,b0,b1⟩ := next_ok hl s h0 (by omega)
 rw [e1,Option.bind_some]
 dsimp only
 by_cases c2 : n > 200
 ·rw [if_pos c2]
  obtain ⟨d,s2,e2,d0,d1⟩ := next_ok hl s1 (show 0 ≤ a + 1 by omega) (by omega)
  rw [e2,Option.bind_some,if_neg (by omega)]
  dsimp only
  rw [w64 (x := b * 256) (by omega) (by omega),w64 (x := b * 256 + d) (by omega) (by omega)]
  exact ⟨_,_,_,rfl,Int.tmod_nonneg _ (by omega),Or.inl (Int.tmod_lt_of_pos _ (by omega)),by omega,by omega⟩
 ·rw [if_neg c2,if_neg (by omega)]
  exact ⟨_,_,_,rfl,Int.tmod_nonneg _ (by omega),Or.inl (Int.tmod_lt_of_pos _ (by omega)),by omega,by omega⟩
theorem one_ok {l : List Int} (hl : ∀ y ∈ l,0 ≤ y ∧ y ≤ 255) {a : Int} (s : Int) (h0 : 0 ≤ a) (h1 : a ≤ 900000) (n : Int) : ∃ v a' s',spec_l1Cur_one.f l a s n = some (v,a',s') ∧ a ≤ a' ∧ a' ≤ a + 2 := by
 unfold spec_l1Cur_one.f
 obtain ⟨v,a',s',e,_,_,h2,h3⟩ := pick_ok hl s h0 h1 n
 rw [e,Option.bind_some]
 exact ⟨_,_,_,rfl,h2,h3⟩
theorem among_ok {l : List Int} (hl : ∀ y ∈ l,0 ≤ y ∧ y ≤ 255) {a : Int} (s : Int) (h0 : 0 ≤ a) (h1 : a ≤ 900000) (q : List Int) (hq : 0 < q.length) : ∃ v a' s',spec_l1Cur_among.f l a s q = some (v,a',s') ∧ a ≤ a' ∧ a' ≤ a + 2 ∧ v ∈ q := by
 unfold spec_l1Cur_among.f
 obtain ⟨v,a',s',e,v0,v1,h2,h3⟩ := pick_ok hl s h0 h1 (q.length : Int)
 rw [e,Option.bind_some]
 dsimp only
 rw [if_pos v0,if_pos (by omega)]
 refine ⟨_,_,_,rfl,h2,h3,?_⟩
 unfold rd
 rw [List.getD_eq_getElem?_getD,List.getElem?_eq_getElem (show v.toNat < q.length by omega)]
 exact List.getElem_mem _
theorem l1Least_ok (x y : Int) : ∃ z,spec_l1Least.f x y = some z ∧ z ≤ x ∧ z ≤ y ∧ (z = x ∨ z = y) := by
 unfold spec_l1Least.f
 by_cases h : x < y
 ·rw [if_pos h]; exact ⟨_,rfl,by omega,by omega,Or.inl rfl⟩
 ·rw [if_neg h]; exact ⟨_,rfl,by omega,by omega,Or.inr rfl⟩
def allC : List S27 := [⟨0,0⟩,⟨1,0⟩,⟨2,0⟩,⟨3,0⟩,⟨3,1⟩,⟨4,0⟩,⟨5,0⟩,⟨6,0⟩,⟨6,1⟩,⟨7,0⟩]
theorem paAll_ev : Ev (fun k => spec_paAll.f k) allC := by
 refine ⟨12,fun k hk => ?_⟩
 obtain ⟨k,rfl⟩ : ∃ j,k = j + 9 := ⟨k - 9,by omega⟩
 simp [spec_paAll.f,spec_paAll.l0,spec_paTurning.f,wrap64,allC]
theorem cell_ok {l : List Int} (hl : ∀ y ∈ l,0 ≤ y ∧ y ≤ 255) {a : Int} (s : Int) (h0 : 0 ≤ a) (h1 : a ≤ 900000) : ∃ x y a' s',Ev (fun k => spec_l1Cur_cell.f k l a s) (x,y,a',s') ∧ a ≤ a' ∧ a' ≤ a + 2 := by
 obtain ⟨v,a',s',e,v0,v1,h2,h3⟩ := pick_ok hl s h0 h1 (allC.length : Int)
 have hc : allC.length = 10 := rfl
 exact ⟨_,_,a',s',Ev.bind paAll_ev (Ev.bind (Ev.val e) (Ev.pos v0 (Ev.pos (by omega) (Ev.now _)))),h2,h3⟩
theorem anyCell_ok {l : List Int} (hl : ∀ y ∈ l,0 ≤ y ∧ y ≤ 255) {a : Int} (s : Int) (h0 : 0 ≤ a) (h1 : a ≤ 800000) : ∃ x y a' s',Ev (fun k => spec_l1Cur_anyCell.f k l a s) (x,y,a',s') ∧ a ≤ a' ∧ a' ≤ a + 6 := by
 obtain ⟨x,y,a1,s1,e1,p1,q1⟩ := cell_ok hl s h0 (by omega)
 obtain ⟨v,a2,s2,e2,v0,v1,p2,q2⟩ := pick_ok hl s1 (show (0 : Int) ≤ a1 by omega) (by omega) 20
 unfold spec_l1Cur_anyCell.f
 by_cases c0 : v = 0
 ·obtain ⟨w,a3,s3,e3,p3,q3,_⟩ := among_ok hl s2 (show (0 : Int) ≤ a2 by omega) (by omega) [-1,8] (by decide)
  exact ⟨_,_,_,_,Ev.bind e1 (Ev.bind (Ev.val e2) (Ev.pos c0 (Ev.bind (Ev.val e3) (Ev.now _)))),by dsimp only; omega,by dsimp only; omega⟩
 by_cases c1 : v = 1
 ·obtain ⟨w,a3,s3,e3,p3,q3,_⟩ := among_ok hl s2 (show (0 : Int) ≤ a2 by omega) (by omega) [-1,1,2] (by decide)
  exact ⟨_,_,_,_,Ev.bind e1 (Ev.bind (Ev.val e2) (Ev.neg c0 (Ev.pos c1 (Ev.bind (Ev.val e3) (Ev.now _))))),by dsimp only; omega,by dsimp only; omega⟩
 exact ⟨_,_,_,_,Ev.bind e1 (Ev.bind (Ev.val e2) (Ev.neg c0 (Ev.neg c1 (Ev.now _)))),by dsimp only; omega,by dsimp only; omega⟩
theorem boardOf_l0 {l : List Int} (hl : ∀ y ∈ l,0 ≤ y ∧ y ≤ 255) {r c : Int} (h1 : 1 ≤ r * c) (h9 : r * c ≤ 90) (t : Int) : ∀ (m : Nat) (a s : Int) (cs : List S27),(cs.length : Int) + m = r * c → 0 ≤ a → a + 10 * m ≤ 5000 → ∃ cs' a' s',Ev (fun k => spec_l1Cur_boardOf.l0 k r c t l a s r c cs) (r,c,cs',a',s') ∧ (cs'.length : Int) = r * c ∧ a ≤ a' ∧ a' ≤ a + 10 * m := by
 intro m
 induction m with
 | zero =>
  intro a s cs hm h0 h5
  refine ⟨cs,a,s,Ev.succ ?_,by omega,by omega,by omega⟩
  simp only [spec_l1Cur_boardOf.l0]
  rw [w64 (x := r * c) (by omega) (by omega)]
  exact Ev.neg (by omega) (Ev.now _)
 | succ m ih =>
  intro a s cs hm h0 h5
  have hlen : cs.length < 8796093022208 := by omega
  have step : ∀ (a1 s1 : Int) (z : S27),a ≤ a1 → a1 ≤ a + 10 → ∃ cs' a' s',Ev (fun k => spec_l1Cur_boardOf.l0 k r c t l a1 s1 r c (cs ++ [z])) (r,c,cs',a',s') ∧ (cs'.length : Int) = r * c ∧ a ≤ a' ∧ a' ≤ a + 10 * ((m + 1 : Nat) : Int) := by
   intro a1 s1 z p q
   obtain ⟨cs',a',s',e,e1,e2,e3⟩ := ih a1 s1 (cs ++ [z]) (by simp; omega) (by omega) (by omega)
   exact ⟨cs',a',s',e,e1,by omega,by omega⟩
  have j2 : ∀ (a1 s1 x y : Int),a ≤ a1 → a1 ≤ a + 6 → ∃ cs' a' s',Ev (fun k => spec_l1Cur_boardOf.j2 k r c t l a1 s1 r c cs x y) (r,c,cs',a',s') ∧ (cs'.length : Int) = r * c ∧ a ≤ a' ∧ a' ≤ a + 10 * ((m + 1 : Nat) : Int) := by
   intro a1 s1 x y p q
   by_cases c5 : x = 5
   ·obtain ⟨v,a2,s2,e2,p2,q2⟩ := one_ok hl s1 (show (0 : Int) ≤ a1 by omega) (by omega) 3
    cases v with
    | true =>
     obtain ⟨cs',a',s',e,g⟩ := step a2 s2 ⟨x,y⟩ (by omega) (by omega)
     refine ⟨cs',a',s',Ev.succ ?_,g⟩
     simp only [spec_l1Cur_boardOf.j2]
     exact Ev.pos c5 (Ev.bind (Ev.val e2) (Ev.pos rfl (Ev.pos hlen e)))
    | false =>
     obtain ⟨w,a3,s3,e3,_,_,p3,q3⟩ := pick_ok hl s2 (show (0 : Int) ≤ a2 by omega) (by omega) 2
     obtain ⟨cs',a',s',e,g⟩ := step a3 s3 ⟨3,w⟩ (by omega) (by omega)
     refine ⟨cs',a',s',Ev.succ ?_,g⟩
     simp only [spec_l1Cur_boardOf.j2]
     exact Ev.pos c5 (Ev.bind (Ev.val e2) (Ev.neg (by simp) (Ev.bind (Ev.val e3) (Ev.pos hlen e))))
   ·obtain ⟨cs',a',s',e,g⟩ := step a1 s1 ⟨x,y⟩ (by omega) (by omega)
    refine ⟨cs',a',s',Ev.succ ?_,g⟩
    simp only [spec_l1Cur_boardOf.j2]
    exact Ev.neg c5 (Ev.pos hlen e)
  have j1 : ∀ (b : Bool) (a1 s1 : Int),a ≤ a1 → a1 ≤ a + 4 → ∃ cs' a' s',Ev (fun k => spec_l1Cur_boardOf.j1 k r c t b l a1 s1 r c cs 0 0) (r,c,cs',a',s') ∧ (cs'.length : Int) = r * c ∧ a ≤ a' ∧ a' ≤ a + 10 * ((m + 1 : Nat) : Int) := by
   intro b a1 s1 p q
   cases b with
   | true =>
    obtain ⟨x,y,a2,s2,e2,p2,q2⟩ := cell_ok hl s1 (show (0 : Int) ≤ a1 by omega) (by omega)
    obtain ⟨cs',a',s',e,g⟩ := j2 a2 s2 x y (by omega) (by omega)
    refine ⟨cs',a',s',Ev.succ ?_,g⟩
    simp only [spec_l1Cur_boardOf.j1]
    exact Ev.pos (by trivial) (Ev.bind e2 e)
   | false =>
    obtain ⟨cs',a',s',e,g⟩ := j2 a1 s1 0 0 (by omega) (by omega)
    refine ⟨cs',a',s',Ev.succ ?_,g⟩
    simp only [spec_l1Cur_boardOf.j1]
    exact Ev.neg (by simp) e
  obtain ⟨v,a1,s1,e1,p1,q1⟩ := one_ok hl s h0 (by omega) t
  cases v with
  | true =>
   obtain ⟨cs',a',s',e,g⟩ := j1 true a1 s1 (by omega) (by omega)
   refine ⟨cs',a',s',Ev.succ ?_,g⟩
   simp only [spec_l1Cur_boardOf.l0]
   rw [w64 (x := r * c) (by omega) (by omega)]
   exact Ev.pos (by omega) (Ev.bind (Ev.val e1) (Ev.pos rfl e))
  | false =>
   obtain ⟨v2,a2,s2,e2,p2,q2⟩ := one_ok hl s1 (show (0 : Int) ≤ a1 by omega) (by omega) 3
   obtain ⟨cs',a',s',e,g⟩ := j1 v2 a2 s2 (by omega) (by omega)
   refine ⟨cs',a',s',Ev.succ ?_,g⟩
   simp only [spec_l1Cur_boardOf.l0]
   rw [w64 (x := r * c) (by omega) (by omega)]
   exact Ev.pos (by omega) (Ev.bind (Ev.val e1) (Ev.neg (by simp) (Ev.bind (Ev.val e2) e)))
theorem boardOf_ok {l : List Int} (hl : ∀ y ∈ l,0 ≤ y ∧ y ≤ 255) {r c : Int} (h1 : 1 ≤ r * c) (h9 : r * c ≤ 90) {a : Int} (s : Int) (h0 : 0 ≤ a) (h5 : a ≤ 3000) : ∃ cs' a' s',Ev (fun k => spec_l1Cur_boardOf.f k l a s r c) (r,c,cs',a',s') ∧ (cs'.length : Int) = r * c ∧ a ≤ a' ∧ a' ≤ a + 1000 := by
 obtain ⟨t,a1,s1,e1,p1,q1,_⟩ := among_ok hl s h0 (by omega) [1,2,2] (by decide)
 obtain ⟨cs',a',s',e,g1,g2,g3⟩ := boardOf_l0 hl h1 h9 t (r * c).toNat a1 s1 [] (by simp; omega) (by omega) (by omega)
 exact ⟨cs',a',s',Ev.bind (Ev.val e1) e,g1,by omega,by omega⟩
theorem board_ok {l : List Int} (hl : ∀ y ∈ l,0 ≤ y ∧ y ≤ 255) {a : Int} (s : Int) (h0 : 0 ≤ a) (h5 : a ≤ 2500) : ∃ r c cs' a' s',Ev (fun k => spec_l1Cur_board.f k l a s) (r,c,cs',a',s') ∧ 1 ≤ cs'.length ∧ cs'.length ≤ 90 ∧ a ≤ a' ∧ a' ≤ a + 1010 := by
 obtain ⟨v,a1,s1,e1,p1,q1⟩ := one_ok hl s h0 (by omega) 20
 unfold spec_l1Cur_board.f
 cases v with
 | true =>
  obtain ⟨r,a2,s2,e2,p2,q2,m2⟩ := among_ok hl s1 (show (0 : Int) ≤ a1 by omega) (by omega) [1,10] (by decide)
  obtain ⟨c,a3,s3,e3,p3,q3,m3⟩ := among_ok hl s2 (show (0 : Int) ≤ a2 by omega) (by omega) [1,9] (by decide)
  have hrc : 1 ≤ r * c ∧ r * c ≤ 90 := by
   simp only [List.mem_cons,List.not_mem_nil,or_false] at m2 m3
   rcases m2 with rfl | rfl <;> rcases m3 with rfl | rfl <;> decide
  obtain ⟨cs',a',s',e,g1,g2,g3⟩ := boardOf_ok hl hrc.1 hrc.2 s3 (show (0 : Int) ≤ a3 by omega) (by omega)
  exact ⟨r,c,cs',a',s',Ev.bind (Ev.val e1) (Ev.pos rfl (Ev.bind (Ev.val e2) (Ev.bind (Ev.val e3) (Ev.bind e (Ev.now _))))),by omega,by omega,by omega,by omega⟩
 | false =>
  obtain ⟨r,a2,s2,e2,r0,r1,p2,q2⟩ := pick_ok hl s1 (show (0 : Int) ≤ a1 by omega) (by omega) 5
  obtain ⟨c,a3,s3,e3,c0,c1,p3,q3⟩ := pick_ok hl s2 (show (0 : Int) ≤ a2 by omega) (by omega) 5
  have b := mulb (show 0 ≤ 1 + r by omega) (show 1 + r ≤ 5 by omega) (show 0 ≤ 1 + c by omega) (show 1 + c ≤ 5 by omega)
  have b2 : 1 * 1 ≤ (1 + r) * (1 + c) := Int.mul_le_mul (by omega) (by omega) (by omega) (by omega)
  obtain ⟨cs',a',s',e,g1,g2,g3⟩ := boardOf_ok hl (r := 1 + r) (c := 1 + c) (by omega) (by omega) s3 (show (0 : Int) ≤ a3 by omega) (by omega)
  refine ⟨1 + r,1 + c,cs',a',s',Ev.bind (Ev.val e1) (Ev.neg (by simp) (Ev.bind (Ev.val e2) (Ev.bind (Ev.val e3) ?_))),by omega,by omega,by omega,by omega⟩
  dsimp only
  rw [w64 (x := 1 + r) (by omega) (by omega),w64 (x := 1 + c) (by omega) (by omega)]
  exact Ev.bind e (Ev.now _)
theorem anyBoard_ok {l : List Int} (hl : ∀ y ∈ l,0 ≤ y ∧ y ≤ 255) {a : Int} (s : Int) (h0 : 0 ≤ a) (h5 : a ≤ 2500) : ∃ r c cs' a' s',Ev (fun k => spec_l1Cur_anyBoard.f k l a s) (r,c,cs',a',s') ∧ cs'.length ≤ 90 ∧ a ≤ a' ∧ a' ≤ a + 1100 := by
 obtain ⟨r,c,cs,a1,s1,e1,n1,n2,p1,q1⟩ := board_ok hl s h0 h5
 obtain ⟨v,a2,s2,e2,v0,v1,p2,q2⟩ := pick_ok hl s1 (show (0 : Int) ≤ a1 by omega) (by omega) 36
 unfold spec_l1Cur_anyBoard.f
 have amg : ∀ q : List Int,0 < q.length → ∃ v a' s',spec_l1Cur_among.f l a2 s2 q = some (v,a',s') ∧ a2 ≤ a' ∧ a' ≤ a2 + 2 ∧ v ∈ q := fun q hq => among_ok hl s2 (by omega) (by omega) q hq
 by_cases c0 : v = 0
 ·obtain ⟨w,a3,s3,e3,p3,q3,_⟩ := amg [0,wrap64 (r + 1),10,11] (by simp)
  exact ⟨_,_,_,_,_,Ev.bind e1 (Ev.bind (Ev.val e2) (Ev.pos c0 (Ev.bind (Ev.val e3) (Ev.now _)))),by dsimp only; omega,by dsimp only; omega,by dsimp only; omega⟩
 by_cases c1 : v = 1
 ·obtain ⟨w,a3,s3,e3,p3,q3,_⟩ := amg [0,wrap64 (c + 1),9,10] (by simp)
  exact ⟨_,_,_,_,_,Ev.bind e1 (Ev.bind (Ev.val e2) (Ev.neg c0 (Ev.pos c1 (Ev.bind (Ev.val e3) (Ev.now _))))),by dsimp only; omega,by dsimp only; omega,by dsimp only; omega⟩
 by_cases c2 : v = 2
 ·obtain ⟨w,a3,s3,e3,w0,w1,p3,q3⟩ := pick_ok hl s2 (show (0 : Int) ≤ a2 by omega) (by omega) (cs.length : Int)
  obtain ⟨x,y,a4,s4,e4,p4,q4⟩ := anyCell_ok hl s3 (show (0 : Int) ≤ a3 by omega) (by omega)
  exact ⟨_,_,_,_,_,Ev.bind e1 (Ev.bind (Ev.val e2) (Ev.neg c0 (Ev.neg c1 (Ev.pos c2 (Ev.bind (Ev.val e3) (Ev.bind e4 (Ev.pos w0 (Ev.pos (by dsimp only; omega) (Ev.now _))))))))),by simp only [List.length_set]; omega,by dsimp only; omega,by dsimp only; omega⟩
 by_cases c3 : v = 3
 ·exact ⟨_,_,_,_,_,Ev.bind e1 (Ev.bind (Ev.val e2) (Ev.neg c0 (Ev.neg c1 (Ev.neg c2 (Ev.pos c3 (Ev.pos (by dsimp only; omega) (Ev.now _))))))),by simp only [List.length_drop]; omega,by dsimp only; omega,by dsimp only; omega⟩
 by_cases c4 : v = 4
 ·exact ⟨_,_,_,_,_,Ev.bind e1 (Ev.bind (Ev.val e2) (Ev.neg c0 (Ev.neg c1 (Ev.neg c2 (Ev.neg c3 (Ev.pos c4 (Ev.pos (by omega) (Ev.now _)))))))),by simp,by dsimp only; omega,by dsimp only; omega⟩
 by_cases c5 : v = 5
 ·exact ⟨_,_,_,_,_,Ev.bind e1 (Ev.bind (Ev.val e2) (Ev.neg c0 (Ev.neg c1 (Ev.neg c2 (Ev.neg c3 (Ev.neg c4 (Ev.pos c5 (Ev.pos (by omega) (Ev.now _))))))))),by simp,by dsimp only; omega,by dsimp only; omega⟩
 exact ⟨_,_,_,_,_,Ev.bind e1 (Ev.bind (Ev.val e2) (Ev.neg c0 (Ev.neg c1 (Ev.neg c2 (Ev.neg c3 (Ev.neg c4 (Ev.neg c5 (Ev.now _)))))))),by dsimp only; omega,by dsimp only; omega,by dsimp only; omega⟩
theorem columnOf_ok {l : List Int} (hl : ∀ y ∈ l,0 ≤ y ∧ y ≤ 255) {a : Int} (s : Int) (h0 : 0 ≤ a) (h5 : a ≤ 9000) (r c : Int) (cs : List S27) : ∃ v a' s',spec_l1Cur_columnOf.f l a s r c cs = some (v,a',s') ∧ a ≤ a' ∧ a' ≤ a + 6 := by
 obtain ⟨m,em⟩ : ∃ m,spec_l1Most.f 1 c = some m := by unfold spec_l1Most.f; split <;> exact ⟨_,rfl⟩
 obtain ⟨v,a1,s1,e1,_,_,p1,q1⟩ := pick_ok hl s h0 (by omega) 16
 obtain ⟨w,a2,s2,e2,_,_,p2,q2⟩ := pick_ok hl s1 (show (0 : Int) ≤ a1 by omega) (by omega) (wrap64 (m + (wrap64 (Int.tdiv v 15))))
 obtain ⟨x,a3,s3,e3,_,_,p3,q3⟩ := pick_ok hl s2 (show (0 : Int) ≤ a2 by omega) (by omega) 24
 unfold spec_l1Cur_columnOf.f
 rw [em,Option.bind_some,e1,Option.bind_some]
 dsimp only
 rw [e2,Option.bind_some]
 dsimp only
 rw [e3,Option.bind_some]
 exact ⟨_,_,_,rfl,by dsimp only; omega,by dsimp only; omega⟩
theorem rowOf_ok {l : List Int} (hl : ∀ y ∈ l,0 ≤ y ∧ y ≤ 255) {a : Int} (s : Int) (h0 : 0 ≤ a) (h5 : a ≤ 9000) (r c : Int) (cs : List S27) : ∃ v a' s',spec_l1Cur_rowOf.f l a s r c cs = some (v,a',s') ∧ a ≤ a' ∧ a' ≤ a + 6 := by
 obtain ⟨m,em⟩ : ∃ m,spec_l1Most.f 1 r = some m := by unfold spec_l1Most.f; split <;> exact ⟨_,rfl⟩
 obtain ⟨v,a1,s1,e1,_,_,p1,q1⟩ := pick_ok hl s h0 (by omega) 16
 obtain ⟨w,a2,s2,e2,_,_,p2,q2⟩ := pick_ok hl s1 (show (0 : Int) ≤ a1 by omega) (by omega) (wrap64 (m + (wrap64 (Int.tdiv v 15))))
 obtain ⟨x,a3,s3,e3,_,_,p3,q3⟩ := pick_ok hl s2 (show (0 : Int) ≤ a2 by omega) (by omega) 24
 unfold spec_l1Cur_rowOf.f
 rw [em,Option.bind_some,e1,Option.bind_some]
 dsimp only
 rw [e2,Option.bind_some]
 dsimp only
 rw [e3,Option.bind_some]
 exact ⟨_,_,_,rfl,by dsimp only; omega,by dsimp only; omega⟩
theorem drawPut_ok {l : List Int} (hl : ∀ y ∈ l,(Lit.int .u8 y).wf = true) : ∃ R C cs row col x y,Ev (fun k => spec_DrawPutCell.f k l) (R,C,cs,row,col,x,y) ∧ cs.length ≤ 90 := by
 obtain ⟨R,C,cs,a,s,e,n,p,q⟩ := anyBoard_ok (u8_wf hl) 0 (show (0 : Int) ≤ 0 by omega) (by omega)
 obtain ⟨v,a1,s1,e1,p1,q1⟩ := rowOf_ok (u8_wf hl) s (show (0 : Int) ≤ a by omega) (by omega) R C cs
 obtain ⟨w,a2,s2,e2,p2,q2⟩ := columnOf_ok (u8_wf hl) s1 (show (0 : Int) ≤ a1 by omega) (by omega) R C cs
 obtain ⟨x,y,a3,s3,e3,_,_⟩ := anyCell_ok (u8_wf hl) s2 (show (0 : Int) ≤ a2 by omega) (by omega)
 exact ⟨R,C,cs,v,w,x,y,Ev.bind e (Ev.bind (Ev.val e1) (Ev.bind (Ev.val e2) (Ev.bind e3 (Ev.now _)))),n⟩
theorem drawAt_ok {l : List Int} (hl : ∀ y ∈ l,(Lit.int .u8 y).wf = true) : ∃ R C cs row col,Ev (fun k => spec_DrawCellAt.f k l) (R,C,cs,row,col) ∧ cs.length ≤ 90 := by
 obtain ⟨R,C,cs,a,s,e,n,p,q⟩ := anyBoard_ok (u8_wf hl) 0 (show (0 : Int) ≤ 0 by omega) (by omega)
 obtain ⟨v,a1,s1,e1,p1,q1⟩ := rowOf_ok (u8_wf hl) s (show (0 : Int) ≤ a by omega) (by omega) R C cs
 obtain ⟨w,a2,s2,e2,p2,q2⟩ := columnOf_ok (u8_wf hl) s1 (show (0 : Int) ≤ a1 by omega) (by omega) R C cs
 exact ⟨R,C,cs,v,w,Ev.bind e (Ev.bind (Ev.val e1) (Ev.bind (Ev.val e2) (Ev.now _))),n⟩
theorem drawCut_ok {l : List Int} (hl : ∀ y ∈ l,(Lit.int .u8 y).wf = true) : ∃ R C cs i j,Ev (fun k => spec_DrawCutRows.f k l) (R,C,cs,i,j) ∧ cs.length ≤ 90 := by
 obtain ⟨R,C,cs,a,s,e,n,p,q⟩ := anyBoard_ok (u8_wf hl) 0 (show (0 : Int) ≤ 0 by omega) (by omega)
 obtain ⟨v,a1,s1,e1,p1,q1⟩ := rowOf_ok (u8_wf hl) s (show (0 : Int) ≤ a by omega) (by omega) R C cs
 obtain ⟨w,a2,s2,e2,p2,q2,_⟩ := among_ok (u8_wf hl) s1 (show (0 : Int) ≤ a1 by omega) (by omega) [v,wrap64 (v + 1),wrap64 (v + 2),R,R,wrap64 (R + 1)] (by simp)
 exact ⟨R,C,cs,v,w,Ev.bind e (Ev.bind (Ev.val e1) (Ev.bind (Ev.val e2) (Ev.now _))),n⟩
theorem most1 (x : Int) : ∃ z,spec_l1Most.f 1 x = some z ∧ 1 ≤ z ∧ (z = 1 ∨ z = x) := by
 unfold spec_l1Most.f
 by_cases h : 1 > x
 ·rw [if_pos h]; exact ⟨_,rfl,by omega,Or.inl rfl⟩
 ·rw [if_neg h]; exact ⟨_,rfl,by omega,Or.inr rfl⟩
theorem mul90 {r c : Int} (r1 : 1 ≤ r) (r2 : r ≤ 10) (c1 : 1 ≤ c) (c2 : c ≤ 9) : 1 ≤ r * c ∧ r * c ≤ 90 := by
 have b := mulb (show 0 ≤ r by omega) r2 (show 0 ≤ c by omega) c2
 have b2 : 1 * 1 ≤ r * c := Int.mul_le_mul r1 c1 (by omega) (by omega)
 omega
theorem stack_j0 {l : List Int} (hl : ∀ y ∈ l,0 ≤ y ∧ y ≤ 255) {x : Int} (hx : 1 ≤ x) {a : Int} (s : Int) (h0 : 0 ≤ a) (h5 : a ≤ 2000) (R C : Int) (cs : List S27) : ∃ R2 C2 cs2,Ev (fun k => spec_DrawStackBoards.j0 k x l a s R C cs) (R,C,cs,R2,C2,cs2) ∧ cs2.length ≤ 90 := by
 obtain ⟨z,ez,z1,z2,z3⟩ := l1Least_ok 9 C
 obtain ⟨m,em,m1,m2⟩ := most1 z
 obtain ⟨v,a1,s1,e1,p1,q1⟩ := one_ok hl s h0 (by omega) 12
 obtain ⟨t,et,t1,t2,t3⟩ := l1Least_ok x 10
 cases v with
 | true =>
  obtain ⟨w,a2,s2,e2,w0,w1,p2,q2⟩ := pick_ok hl s1 (show (0 : Int) ≤ a1 by omega) (by omega) 5
  have b := mul90 (r := t) (c := 1 + w) (by omega) (by omega) (by omega) (by omega)
  obtain ⟨cs2,a3,s3,e3,n3,_,_⟩ := boardOf_ok hl b.1 b.2 s2 (show (0 : Int) ≤ a2 by omega) (by omega)
  refine ⟨t,1 + w,cs2,Ev.succ ?_,by omega⟩
  simp only [spec_DrawStackBoards.j0]
  refine Ev.bind (Ev.val ez) (Ev.bind (Ev.val em) (Ev.bind (Ev.val e1) (Ev.pos rfl (Ev.bind (Ev.val e2) (Ev.bind (Ev.val et) ?_)))))
  dsimp only
  rw [w64 (x := 1 + w) (by omega) (by omega)]
  exact Ev.bind e3 (Ev.now _)
 | false =>
  have b := mul90 (r := t) (c := m) (by omega) (by omega) (by omega) (by omega)
  obtain ⟨cs2,a3,s3,e3,n3,_,_⟩ := boardOf_ok hl b.1 b.2 s1 (show (0 : Int) ≤ a1 by omega) (by omega)
  refine ⟨t,m,cs2,Ev.succ ?_,by omega⟩
  simp only [spec_DrawStackBoards.j0]
  exact Ev.bind (Ev.val ez) (Ev.bind (Ev.val em) (Ev.bind (Ev.val e1) (Ev.neg (by simp) (Ev.bind (Ev.val et) (Ev.bind e3 (Ev.now _))))))
theorem drawStack_ok {l : List Int} (hl : ∀ y ∈ l,(Lit.int .u8 y).wf = true) : ∃ R C cs R2 C2 cs2,Ev (fun k => spec_DrawStackBoards.f k l) (R,C,cs,R2,C2,cs2) ∧ cs.length ≤ 90 ∧ cs2.length ≤ 90 := by
 have hb := u8_wf hl
 obtain ⟨R,C,cs,a,s,e,n,p,q⟩ := anyBoard_ok hb 0 (show (0 : Int) ≤ 0 by omega) (by omega)
 obtain ⟨v,a1,s1,e1,v0,v1,p1,q1⟩ := pick_ok hb s (show (0 : Int) ≤ a by omega) (by omega) 5
 obtain ⟨w,a2,s2,e2,p2,q2⟩ := one_ok hb s1 (show (0 : Int) ≤ a1 by omega) (by omega) 6
 cases w with
 | true =>
  obtain ⟨x,a3,s3,e3,x0,x1,p3,q3⟩ := pick_ok hb s2 (show (0 : Int) ≤ a2 by omega) (by omega) 2
  obtain ⟨m,em,m1,_⟩ := most1 (wrap64 ((wrap64 (10 - R)) + x))
  obtain ⟨R2,C2,cs2,e4,n4⟩ := stack_j0 hb m1 s3 (show (0 : Int) ≤ a3 by omega) (by omega) R C cs
  exact ⟨R,C,cs,R2,C2,cs2,Ev.bind e (Ev.bind (Ev.val e1) (Ev.bind (Ev.val e2) (Ev.pos rfl (Ev.bind (Ev.val e3) (Ev.bind (Ev.val em) e4))))),n,n4⟩
 | false =>
  obtain ⟨R2,C2,cs2,e4,n4⟩ := stack_j0 hb (show 1 ≤ 1 + v by omega) s2 (show (0 : Int) ≤ a2 by omega) (by omega) R C cs
  refine ⟨R,C,cs,R2,C2,cs2,Ev.bind e (Ev.bind (Ev.val e1) (Ev.bind (Ev.val e2) (Ev.neg (by simp) ?_))),n,n4⟩
  dsimp only
  rw [w64 (x := 1 + v) (by omega) (by omega)]; exact e4
theorem beside_j0 {l : List Int} (hl : ∀ y ∈ l,0 ≤ y ∧ y ≤ 255) {x : Int} (hx : 1 ≤ x) {a : Int} (s : Int) (h0 : 0 ≤ a) (h5 : a ≤ 2000) (R C : Int) (cs : List S27) : ∃ R2 C2 cs2,Ev (fun k => spec_DrawBesideBoards.j0 k x l a s R C cs) (R,C,cs,R2,C2,cs2) ∧ cs2.length ≤ 90 := by
 obtain ⟨z,ez,z1,z2,z3⟩ := l1Least_ok 10 R
 obtain ⟨m,em,m1,m2⟩ := most1 z
 obtain ⟨v,a1,s1,e1,p1,q1⟩ := one_ok hl s h0 (by omega) 12
 obtain ⟨t,et,t1,t2,t3⟩ := l1Least_ok x 9
 cases v with
 | true =>
  obtain ⟨w,a2,s2,e2,w0,w1,p2,q2⟩ := pick_ok hl s1 (show (0 : Int) ≤ a1 by omega) (by omega) 5
  have b := mul90 (r := 1 + w) (c := t) (by omega) (by omega) (by omega) (by omega)
  obtain ⟨cs2,a3,s3,e3,n3,_,_⟩ := boardOf_ok hl b.1 b.2 s2 (show (0 : Int) ≤ a2 by omega) (by omega)
  refine ⟨1 + w,t,cs2,Ev.succ ?_,by omega⟩
  simp only [spec_DrawBesideBoards.j0]
  refine Ev.bind (Ev.val ez) (Ev.bind (Ev.val em) (Ev.bind (Ev.val e1) (Ev.pos rfl (Ev.bind (Ev.val e2) (Ev.bind (Ev.val et) ?_)))))
  dsimp only
  rw [w64 (x := 1 + w) (by omega) (by omega)]
  exact Ev.bind e3 (Ev.now _)
 | false =>
  have b := mul90 (r := m) (c := t) (by omega) (by omega) (by omega) (by omega)
  obtain ⟨cs2,a3,s3,e3,n3,_,_⟩ := boardOf_ok hl b.1 b.2 s1 (show (0 : Int) ≤ a1 by omega) (by omega)
  refine ⟨m,t,cs2,Ev.succ ?_,by omega⟩
  simp only [spec_DrawBesideBoards.j0]
  exact Ev.bind (Ev.val ez) (Ev.bind (Ev.val em) (Ev.bind (Ev.val e1) (Ev.neg (by simp) (Ev.bind (Ev.val et) (Ev.bind e3 (Ev.now _))))))
theorem drawBeside_ok {l : List Int} (hl : ∀ y ∈ l,(Lit.int .u8 y).wf = true) : ∃ R C cs R2 C2 cs2,Ev (fun k => spec_DrawBesideBoards.f k l) (R,C,cs,R2,C2,cs2) ∧ cs.length ≤ 90 ∧ cs2.length ≤ 90 := by
 have hb := u8_wf hl
 obtain ⟨R,C,cs,a,s,e,n,p,q⟩ := anyBoard_ok hb 0 (show (0 : Int) ≤ 0 by omega) (by omega)
 obtain ⟨v,a1,s1,e1,v0,v1,p1,q1⟩ := pick_ok hb s (show (0 : Int) ≤ a by omega) (by omega) 5
 obtain ⟨w,a2,s2,e2,p2,q2⟩ := one_ok hb s1 (show (0 : Int) ≤ a1 by omega) (by omega) 6
 cases w with
 | true =>
  obtain ⟨x,a3,s3,e3,x0,x1,p3,q3⟩ := pick_ok hb s2 (show (0 : Int) ≤ a2 by omega) (by omega) 2
  obtain ⟨m,em,m1,_⟩ := most1 (wrap64 ((wrap64 (9 - C)) + x))
  obtain ⟨R2,C2,cs2,e4,n4⟩ := beside_j0 hb m1 s3 (show (0 : Int) ≤ a3 by omega) (by omega) R C cs
  exact ⟨R,C,cs,R2,C2,cs2,Ev.bind e (Ev.bind (Ev.val e1) (Ev.bind (Ev.val e2) (Ev.pos rfl (Ev.bind (Ev.val e3) (Ev.bind (Ev.val em) e4))))),n,n4⟩
 | false =>
  obtain ⟨R2,C2,cs2,e4,n4⟩ := beside_j0 hb (show 1 ≤ 1 + v by omega) s2 (show (0 : Int) ≤ a2 by omega) (by omega) R C cs
  refine ⟨R,C,cs,R2,C2,cs2,Ev.bind e (Ev.bind (Ev.val e1) (Ev.bind (Ev.val e2) (Ev.neg (by simp) ?_))),n,n4⟩
  dsimp only
  rw [w64 (x := 1 + v) (by omega) (by omega)]; exact e4
theorem diff_l0 {l : List Int} (hl : ∀ y ∈ l,0 ≤ y ∧ y ≤ 255) (R C : Int) (cs : List S27) (R2 C2 : Int) : ∀ (m : Nat) (a s : Int) (q : List S27),q.length ≤ 90 → 0 ≤ a → a + 10 * m ≤ 9000 → ∃ cs2,Ev (fun k => spec_DrawDifferentCells.l0 k m l a s R C cs R2 C2 q) (R,C,cs,R2,C2,cs2) ∧ cs2.length ≤ 90 := by
 intro m
 induction m with
 | zero =>
  intro a s q hq h0 h5
  refine ⟨q,Ev.succ ?_,hq⟩
  simp only [spec_DrawDifferentCells.l0]
  refine Ev.neg (by omega) (Ev.succ ?_)
  simp only [spec_DrawDifferentCells.j1]
  exact Ev.neg (by simp) (Ev.now _)
 | succ m ih =>
  intro a s q hq h0 h5
  by_cases z : (q.length : Int) > 0
  ·obtain ⟨v,a1,s1,e1,v0,v1,p1,q1⟩ := pick_ok hl s h0 (by omega) (q.length : Int)
   obtain ⟨x,y,a2,s2,e2,p2,q2⟩ := anyCell_ok hl s1 (show (0 : Int) ≤ a1 by omega) (by omega)
   obtain ⟨cs2,e3,n3⟩ := ih a2 s2 (q.set v.toNat ⟨x,y⟩) (by simpa using hq) (by omega) (by omega)
   refine ⟨cs2,Ev.succ ?_,n3⟩
   simp only [spec_DrawDifferentCells.l0]
   refine Ev.pos (by omega) (Ev.succ ?_)
   simp only [spec_DrawDifferentCells.j1]
   rw [w64 (x := ((m + 1 : Nat) : Int) - 1) (by omega) (by omega),show ((m + 1 : Nat) : Int) - 1 = (m : Int) by omega]
   exact Ev.pos (by simpa using z) (Ev.bind (Ev.val e1) (Ev.bind e2 (Ev.pos v0 (Ev.pos (by dsimp only; omega) e3))))
  ·refine ⟨q,Ev.succ ?_,hq⟩
   simp only [spec_DrawDifferentCells.l0]
   refine Ev.pos (by omega) (Ev.succ ?_)
   simp only [spec_DrawDifferentCells.j1]
   exact Ev.neg (by simpa using z) (Ev.now _)
theorem drawDiff_ok {l : List Int} (hl : ∀ y ∈ l,(Lit.int .u8 y).wf = true) : ∃ R C cs R2 C2 cs2,Ev (fun k => spec_DrawDifferentCells.f k l) (R,C,cs,R2,C2,cs2) ∧ cs.length ≤ 90 ∧ cs2.length ≤ 90 := by
 have hb := u8_wf hl
 obtain ⟨R,C,cs,a,s,e,n,p,q⟩ := anyBoard_ok hb 0 (show (0 : Int) ≤ 0 by omega) (by omega)
 obtain ⟨w,a1,s1,e1,p1,q1⟩ := one_ok hb s (show (0 : Int) ≤ a by omega) (by omega) 6
 cases w with
 | true =>
  obtain ⟨R2,C2,cs2,a2,s2,e2,n2,_,_⟩ := anyBoard_ok hb s1 (show (0 : Int) ≤ a1 by omega) (by omega)
  exact ⟨R,C,cs,R2,C2,cs2,Ev.bind e (Ev.bind (Ev.val e1) (Ev.pos rfl (Ev.bind e2 (Ev.now _)))),n,n2⟩
 | false =>
  obtain ⟨v,a2,s2,e2,v0,v1,p2,q2⟩ := pick_ok hb s1 (show (0 : Int) ≤ a1 by omega) (by omega) 4
  obtain ⟨cs2,e3,n3⟩ := diff_l0 hb R C cs R C v.toNat a2 s2 cs n (by omega) (by omega)
  have ho : spec_boOwn.f R C cs = some (R,C,cs) := by
   unfold spec_boOwn.f
   rw [Option.bind_some,if_pos (by simp; omega),List.nil_append]
  refine ⟨R,C,cs,R,C,cs2,Ev.bind e (Ev.bind (Ev.val e1) (Ev.neg (by simp) (Ev.bind (Ev.val ho) (Ev.bind (Ev.val e2) ?_)))),n,n3⟩
  rw [show ((v.toNat : Nat) : Int) = v by omega] at e3
  exact e3
theorem set_good {R C : Int} {cs : List S27} {n : Nat} {x y : Int} (h : GoodB R C cs) (g : goodCell ⟨x,y⟩ = true) : GoodB R C (cs.set n ⟨x,y⟩) := by
 refine ⟨h.r1,h.r2,h.c1,h.c2,by rw [List.length_set]; exact h.len,fun c hc => ?_⟩
 rcases List.mem_or_eq_of_mem_set hc with hc | rfl
 ·exact h.good c hc
 ·exact g
theorem bp_j7 (R C : Int) (cs : List S27) (r c x y : Int) : Ev (fun k => laws_FnBoardParts.j7 k r c (putA R C cs r c x y).2.2.2 false R C cs x y (putA R C cs r c x y).1 (putA R C cs r c x y).2.1 (putA R C cs r c x y).2.2.1 (putA R C cs r c x y).1 (putA R C cs r c x y).2.1 (putA R C cs r c x y).2.2.1) true := by
 refine Ev.succ ?_
 simp only [laws_FnBoardParts.j7]
 refine Ev.neg (by simp) ?_
 by_cases g : onB R C cs r c = true
 case neg =>
  have e : putA R C cs r c x y = (0,0,[],false) := if_neg g
  rw [e]; exact Ev.neg (by simp) (Ev.now _)
 by_cases z : goodCell ⟨x,y⟩ = true
 case neg =>
  have e : putA R C cs r c x y = (0,0,[],false) := by unfold putA; rw [if_pos g,if_neg z]
  rw [e]; exact Ev.neg (by simp) (Ev.now _)
 have e : putA R C cs r c x y = (R,C,cs.set (r * C + c).toNat ⟨x,y⟩,true) := by unfold putA; rw [if_pos g,if_pos z]
 obtain ⟨h,h0,h1,h2,h3⟩ := onB_of g
 have hw := wi_ h h0 h1 h2 h3
 have hi := h.idx h0 h1 h2 h3
 have l9 := h.len90
 obtain ⟨n,hn⟩ := Int.eq_ofNat_of_zero_le hi.2.2.1
 rw [e]
 dsimp only
 rw [hw,hn,Int.toNat_natCast]
 have h' : GoodB R C (cs.set n ⟨x,y⟩) := set_good h z
 have ea : atA R C (cs.set n ⟨x,y⟩) r c = (x,y,true) := by
  unfold atA
  rw [if_pos (onB_to h' h0 h1 h2 h3),hn,rdC_at _ n (by rw [List.length_set]; omega),List.getElem_set_self]
 have ed : diffA R C cs R C (cs.set n ⟨x,y⟩) = (diffGo cs (cs.set n ⟨x,y⟩) 0,true) := by
  unfold diffA
  rw [if_pos h.to,if_pos h'.to,if_pos rfl,if_pos rfl]
 have ia := implAt_ev R C (cs.set n ⟨x,y⟩) r c
 have id_ := implDiff_ev R C cs R C (cs.set n ⟨x,y⟩)
 have sd := specDiff_ev R C cs R C (cs.set n ⟨x,y⟩) l9 (by rw [List.length_set]; exact l9)
 rw [ea] at ia
 rw [ed] at id_ sd
 refine Ev.pos rfl (Ev.bind ia (Ev.bind id_ (Ev.bind sd (Ev.pos rfl (Ev.neg (by simp) (Ev.pos rfl (Ev.pos rfl (Ev.bind (qInts_ev _ (by have := diffGo_len cs (cs.set n ⟨x,y⟩) 0; dsimp only; omega)) (Ev.pos rfl ?_)))))))))
 dsimp only
 rcases diffGo_set cs n ⟨x,y⟩ 0 with q | q
 ·rw [q]; exact Ev.neg (by simp) (Ev.pos (by simp) (Ev.now _))
 ·rw [q]
  refine Ev.neg (by simp) (Ev.neg (by simp) (Ev.pos (by simp) (Ev.ret ?_)))
  rw [show rd [0 + (n : Int)] 0 = (n : Int) by rw [Int.zero_add]; rfl]; simp
theorem bp_j6 {x6 x7 : Int} {x10 : Bool} {p1 p2 q1 q2 s1 s2 t1 t2 : Int} {p3 s3 t3 : List S27} (H7 : Ev (fun k => laws_FnBoardParts.j7 k x6 x7 x10 false p1 p2 p3 q1 q2 s1 s2 s3 t1 t2 t3) true) (Q D : Int) (qs : List S27) (i j : Int) : Ev (fun k => laws_FnBoardParts.j6 k x6 x7 x10 i j (cutA Q D qs i j).2.2.2 p1 p2 p3 q1 q2 s1 s2 s3 t1 t2 t3 Q D qs (cutA Q D qs i j).1 (cutA Q D qs i j).2.1 (cutA Q D qs i j).2.2.1) true := by
 refine Ev.succ ?_
 simp only [laws_FnBoardParts.j6]
 by_cases g : boardGood Q D qs = true
 case neg =>
  have e : cutA Q D qs i j = (0,0,[],false) := if_neg g
  rw [e]; exact Ev.neg (by simp) H7
 by_cases z : 0 ≤ i ∧ i < j ∧ j ≤ Q
 case neg =>
  have e : cutA Q D qs i j = (0,0,[],false) := by unfold cutA; rw [if_pos g,if_neg z]
  rw [e]; exact Ev.neg (by simp) H7
 have e : cutA Q D qs i j = (j - i,D,(qs.take (j * D).toNat).drop (i * D).toNat,true) := by unfold cutA; rw [if_pos g,if_pos z]
 have h := GoodB.of g
 have := h.r2
 rw [e]
 dsimp only
 rw [w64 (x := j - i) (by omega) (by omega),show (D != D) = false by simp]
 exact Ev.pos rfl (Ev.pos rfl H7)
theorem bp_l2 {x6 x7 : Int} {x10 : Bool} {x32 x33 : Int} {x35 : Bool} {p1 p2 q1 q2 s1 s2 t1 t2 h1 h2 k1 k2 : Int} {p3 s3 t3 h3 k3 : List S27} {rn cn dn : Nat} {a b : List S27} (ha : a.length = rn * cn) (hb : b.length = rn * dn) (hr : rn ≤ 10) (hc : rn * cn ≤ 90) (hd : rn * dn ≤ 90) (row : Nat) (hrow : row < rn) (H1 : Ev (fun k => laws_FnBoardParts.l1 k x6 x7 x10 x32 x33 x35 ((row : Int) + 1) p1 p2 p3 q1 q2 s1 s2 s3 t1 t2 t3 (rn : Int) (cn : Int) a (rn : Int) (dn : Int) b (rn : Int) ((cn : Int) + dn) (wide a b cn dn rn) h1 h2 h3 k1 k2 k3) true) : ∀ (m col : Nat),col + m = cn + dn → Ev (fun k => laws_FnBoardParts.l2 k x6 x7 x10 x32 x33 x35 (row : Int) (col : Int) p1 p2 p3 q1 q2 s1 s2 s3 t1 t2 t3 (rn : Int) (cn : Int) a (rn : Int) (dn : Int) b (rn : Int) ((cn : Int) + dn) (wide a b cn dn rn) h1 h2 h3 k1 k2 k3) true := by
 have hw := wide_len (a := a) (b := b) (ca := cn) (cb := dn) rn (by omega) (by omega)
 obtain ⟨p1,p2,p3,p4,p5,p6⟩ := beside_ar ha hc hrow
 obtain ⟨r1,r2,r3,r4,r5,r6⟩ := beside_ar hb hd hrow
 have hv : (row + 1) * (cn + dn) ≤ rn * (cn + dn) := Nat.mul_le_mul_right _ (by omega)
 have hv2 : (row + 1) * (cn + dn) = row * (cn + dn) + (cn + dn) := Nat.succ_mul row (cn + dn)
 have hu := Nat.mul_add row cn dn
 have hu2 := Nat.mul_add rn cn dn
 have hs1 : (row + 1) * cn = row * cn + cn := Nat.succ_mul row cn
 have hs2 : (row + 1) * dn = row * dn + dn := Nat.succ_mul row dn
 have e0 : Unit → wrap64 ((cn : Int) + dn) = (cn : Int) + dn := fun _ => w64 (by omega) (by omega)
 have e1 : Unit → wrap64 ((row : Int) * ((cn : Int) + dn)) = ((row * (cn + dn) : Nat) : Int) := by
  intro _; rw [← Int.natCast_add]; exact wm_ (by omega)
 intro m
 induction m with
 | zero =>
  intro col hcol
  refine Ev.succ ?_
  simp only [laws_FnBoardParts.l2]
  rw [e0 (),w64 (x := (row : Int) + 1) (by omega) (by omega)]
  exact Ev.neg (by omega) H1
 | succ m ih =>
  intro col hcol
  have hW := wide_at (a := a) (b := b) (ca := cn) (cb := dn) rn (by omega) (by omega) row col hrow (by omega)
  have e2 : Unit → wrap64 (((row * (cn + dn) : Nat) : Int) + (col : Int)) = ((row * (cn + dn) + col : Nat) : Int) := by intro _; rw [w64 (by omega) (by omega)]; omega
  have e3 : Unit → wrap64 ((col : Int) + 1) = ((col + 1 : Nat) : Int) := by intro _; rw [w64 (by omega) (by omega)]; omega
  have I := ih (col + 1) (by omega)
  refine Ev.succ ?_
  simp only [laws_FnBoardParts.l2]
  rw [e0 (),e1 (),e2 (),e3 (),wm_ p3,wm_ r3,rdC_at _ (row * (cn + dn) + col) (by omega)]
  rw [List.getElem?_eq_getElem (by omega)] at hW
  refine Ev.pos (by omega) (Ev.pos (Int.natCast_nonneg _) (Ev.pos (by omega) ?_))
  by_cases z : col < cn
  ·have e4 : Unit → wrap64 (((row * cn : Nat) : Int) + (col : Int)) = ((row * cn + col : Nat) : Int) := by intro _; rw [w64 (by omega) (by omega)]; omega
   rw [if_pos z,List.getElem?_eq_getElem (by omega),Option.some.injEq] at hW
   rw [e4 (),rdC_at a (row * cn + col) (by omega),hW]
   exact Ev.pos (by omega) (Ev.pos (Int.natCast_nonneg _) (Ev.pos (by omega) (Ev.neg (by rw [cellsame]; simp) (Ev.neg (by omega) I))))
  ·have e5 : Unit → wrap64 (((row * dn : Nat) : Int) + (col : Int)) = ((row * dn + col : Nat) : Int) := by intro _; rw [w64 (by omega) (by omega)]; omega
   have e6 : Unit → wrap64 (((row * dn + col : Nat) : Int) - (cn : Int)) = ((row * dn + (col - cn) : Nat) : Int) := by intro _; rw [w64 (by omega) (by omega)]; omega
   rw [if_neg z,List.getElem?_eq_getElem (by omega),Option.some.injEq] at hW
   rw [e5 (),e6 (),rdC_at b (row * dn + (col - cn)) (by omega),hW]
   exact Ev.neg (by omega) (Ev.pos (by omega) (Ev.pos (Int.natCast_nonneg _) (Ev.pos (by omega) (Ev.neg (by rw [cellsame]; simp) I))))
theorem bp_l1 {x6 x7 : Int} {x10 : Bool} {x32 x33 : Int} {x35 : Bool} {p1 p2 q1 q2 s1 s2 t1 t2 h1 h2 k1 k2 : Int} {p3 s3 t3 h3 k3 : List S27} (H6 : Ev (fun k => laws_FnBoardParts.j6 k x6 x7 x10 x32 x33 x35 p1 p2 p3 q1 q2 s1 s2 s3 t1 t2 t3 h1 h2 h3 k1 k2 k3) true) {rn cn dn : Nat} {a b : List S27} (ha : a.length = rn * cn) (hb : b.length = rn * dn) (hr : rn ≤ 10) (hc : rn * cn ≤ 90) (hd : rn * dn ≤ 90) : ∀ (m row : Nat),row + m = rn → Ev (fun k => laws_FnBoardParts.l1 k x6 x7 x10 x32 x33 x35 (row : Int) p1 p2 p3 q1 q2 s1 s2 s3 t1 t2 t3 (rn : Int) (cn : Int) a (rn : Int) (dn : Int) b (rn : Int) ((cn : Int) + dn) (wide a b cn dn rn) h1 h2 h3 k1 k2 k3) true := by
 intro m
 induction m with
 | zero =>
  intro row hrow
  refine Ev.succ ?_
  simp only [laws_FnBoardParts.l1]
  exact Ev.neg (by omega) H6
 | succ m ih =>
  intro row hrow
  refine Ev.succ ?_
  simp only [laws_FnBoardParts.l1]
  exact Ev.pos (by omega) (bp_l2 ha hb hr hc hd row (by omega) (ih (row + 1) (by omega)) (cn + dn) 0 (by omega))
theorem bp_j3 {x6 x7 : Int} {x10 : Bool} {x32 x33 : Int} {x35 : Bool} {p1 p2 q1 q2 s1 s2 t1 t2 h1 h2 k1 k2 : Int} {p3 s3 t3 h3 k3 : List S27} (H6 : Ev (fun k => laws_FnBoardParts.j6 k x6 x7 x10 x32 x33 x35 p1 p2 p3 q1 q2 s1 s2 s3 t1 t2 t3 h1 h2 h3 k1 k2 k3) true) (R C : Int) (a : List S27) (Q D : Int) (b : List S27) : Ev (fun k => laws_FnBoardParts.j3 k x6 x7 x10 (besideA R C a Q D b).2.2.2 x32 x33 x35 p1 p2 p3 q1 q2 s1 s2 s3 t1 t2 t3 R C a Q D b (besideA R C a Q D b).1 (besideA R C a Q D b).2.1 (besideA R C a Q D b).2.2.1 h1 h2 h3 k1 k2 k3) true := by
 refine Ev.succ ?_
 simp only [laws_FnBoardParts.j3]
 by_cases g : boardGood R C a = true
 case neg =>
  have e : besideA R C a Q D b = (0,0,[],false) := if_neg g
  rw [e]; exact Ev.neg (by simp) H6
 by_cases g' : boardGood Q D b = true
 case neg =>
  have e : besideA R C a Q D b = (0,0,[],false) := by unfold besideA; rw [if_pos g,if_neg g']
  rw [e]; exact Ev.neg (by simp) H6
 by_cases z : R = Q
 case neg =>
  have e : besideA R C a Q D b = (0,0,[],false) := by unfold besideA; rw [if_pos g,if_pos g',if_neg z]
  rw [e]; exact Ev.neg (by simp) H6
 by_cases l : C + D > 9
 ·have e : besideA R C a Q D b = (0,0,[],false) := by unfold besideA; rw [if_pos g,if_pos g',if_pos z,if_pos l]
  rw [e]; exact Ev.neg (by simp) H6
 have e : besideA R C a Q D b = (R,C + D,wide a b C.toNat D.toNat R.toNat,true) := by unfold besideA; rw [if_pos g,if_pos g',if_pos z,if_neg l]
 rw [e]
 subst z
 have h := GoodB.of g; have h' := GoodB.of g'
 obtain ⟨rn,cn,rfl,rfl,ha,_,hr,_,hc,hx⟩ := h.nats
 obtain ⟨rn',dn,e',rfl,hb,_,_,_,hd,hy⟩ := h'.nats
 obtain rfl : rn = rn' := by omega
 exact Ev.pos rfl (bp_l1 H6 ha hb hr hx hy rn 0 (by omega))
theorem bp_j2 {x6 x7 : Int} {x10 x22 : Bool} {x32 x33 : Int} {x35 : Bool} {p1 p2 q1 q2 s1 s2 t1 t2 d1 d2 e1 e2 w1 w2 h1 h2 k1 k2 : Int} {p3 s3 t3 d3 e3 w3 h3 k3 : List S27} (H3 : Ev (fun k => laws_FnBoardParts.j3 k x6 x7 x10 x22 x32 x33 x35 p1 p2 p3 q1 q2 s1 s2 s3 t1 t2 t3 d1 d2 d3 e1 e2 e3 w1 w2 w3 h1 h2 h3 k1 k2 k3) true) (R C : Int) (a : List S27) (Q D : Int) (b : List S27) : Ev (fun k => laws_FnBoardParts.j2 k x6 x7 x10 (stackA R C a Q D b).2.2.2 x22 x32 x33 x35 p1 p2 p3 q1 q2 s1 s2 s3 t1 t2 t3 R C a Q D b (stackA R C a Q D b).1 (stackA R C a Q D b).2.1 (stackA R C a Q D b).2.2.1 d1 d2 d3 e1 e2 e3 w1 w2 w3 h1 h2 h3 k1 k2 k3) true := by
 refine Ev.succ ?_
 simp only [laws_FnBoardParts.j2]
 by_cases g : boardGood R C a = true
 case neg =>
  have e : stackA R C a Q D b = (0,0,[],false) := if_neg g
  rw [e]; exact Ev.neg (by simp) H3
 by_cases g' : boardGood Q D b = true
 case neg =>
  have e : stackA R C a Q D b = (0,0,[],false) := by unfold stackA; rw [if_pos g,if_neg g']
  rw [e]; exact Ev.neg (by simp) H3
 by_cases z : C = D
 case neg =>
  have e : stackA R C a Q D b = (0,0,[],false) := by unfold stackA; rw [if_pos g,if_pos g',if_neg z]
  rw [e]; exact Ev.neg (by simp) H3
 by_cases l : R + Q > 10
 ·have e : stackA R C a Q D b = (0,0,[],false) := by unfold stackA; rw [if_pos g,if_pos g',if_pos z,if_pos l]
  rw [e]; exact Ev.neg (by simp) H3
 have e : stackA R C a Q D b = (R + Q,C,a ++ b,true) := by unfold stackA; rw [if_pos g,if_pos g',if_pos z,if_neg l]
 subst z
 have h := GoodB.of g; have h' := GoodB.of g'
 have hs := good_app h h' (by omega)
 have := h.r1; have := h'.r1; have := h.c1; have := h.len; have := h'.len; have := h.len90; have := h'.len90
 have hm := Int.add_mul R Q C
 rw [e]
 dsimp only
 have i1 := implCut_ev (R + Q) C (a ++ b) 0 R
 have i2 := implCut_ev (R + Q) C (a ++ b) R (R + Q)
 have c1 : cutA (R + Q) C (a ++ b) 0 R = (R,C,a,true) := by
  unfold cutA
  rw [if_pos hs.to,if_pos (show 0 ≤ (0 : Int) ∧ 0 < R ∧ R ≤ R + Q by omega),Int.sub_zero,Int.zero_mul,List.take_append_of_le_length (by omega),List.take_of_length_le (by omega)]
  rfl
 have c2 : cutA (R + Q) C (a ++ b) R (R + Q) = (Q,C,b,true) := by
  unfold cutA
  rw [if_pos hs.to,if_pos (show 0 ≤ R ∧ R < R + Q ∧ R + Q ≤ R + Q by omega),List.take_of_length_le (by rw [List.length_append]; omega),show R + Q - R = Q by omega,show (R * C).toNat = a.length by omega,List.drop_left]
 rw [c1] at i1; rw [c2] at i2
 rw [w64 (x := R + Q) (by omega) (by omega)]
 have ib := IsBoard_ev (R + Q) C (a ++ b)
 rw [hs.to] at ib
 exact Ev.pos rfl (Ev.bind i1 (Ev.bind i2 (Ev.pos rfl (Ev.bind (qBoard_ev R C a (by omega)) (Ev.pos rfl (Ev.pos rfl (Ev.bind (qBoard_ev Q C b (by omega)) (Ev.pos rfl (Ev.bind ib (Ev.pos rfl H3))))))))))
theorem bp_j0 {x6 x7 : Int} {x10 x16 x22 : Bool} {x32 x33 : Int} {x35 : Bool} {p1 p2 q1 q2 s1 s2 t1 t2 a1 a2 c1 c2 v1 v2 d1 d2 e1 e2 w1 w2 h1 h2 k1 k2 : Int} {p3 s3 t3 a3 c3 v3 d3 e3 w3 h3 k3 : List S27} (H2 : Ev (fun k => laws_FnBoardParts.j2 k x6 x7 x10 x16 x22 x32 x33 x35 p1 p2 p3 q1 q2 s1 s2 s3 t1 t2 t3 a1 a2 a3 c1 c2 c3 v1 v2 v3 d1 d2 d3 e1 e2 e3 w1 w2 w3 h1 h2 h3 k1 k2 k3) true) {x241 : Bool} (hx : x241 = false) (R C : Int) (a : List S27) (Q D : Int) (b : List S27) : Ev (fun k => laws_FnBoardParts.j0 k x6 x7 x10 x16 x22 (diffA R C a Q D b).2 (diffA R C a Q D b).1 x32 x33 x35 x241 p1 p2 p3 q1 q2 s1 s2 s3 t1 t2 t3 a1 a2 a3 c1 c2 c3 v1 v2 v3 d1 d2 d3 e1 e2 e3 w1 w2 w3 R C a Q D b h1 h2 h3 k1 k2 k3) true := by
 refine Ev.succ ?_
 simp only [laws_FnBoardParts.j0]
 refine Ev.neg (by rw [hx]; simp) ?_
 by_cases g : boardGood R C a = true
 case neg =>
  have e : diffA R C a Q D b = ([],false) := if_neg g
  rw [e]; exact Ev.neg (by simp) H2
 by_cases g' : boardGood Q D b = true
 case neg =>
  have e : diffA R C a Q D b = ([],false) := by unfold diffA; rw [if_pos g,if_neg g']
  rw [e]; exact Ev.neg (by simp) H2
 by_cases z : R = Q
 case neg =>
  have e : diffA R C a Q D b = ([],false) := by unfold diffA; rw [if_pos g,if_pos g',if_neg z]
  rw [e]; exact Ev.neg (by simp) H2
 by_cases y : C = D
 case neg =>
  have e : diffA R C a Q D b = ([],false) := by unfold diffA; rw [if_pos g,if_pos g',if_pos z,if_neg y]
  rw [e]; exact Ev.neg (by simp) H2
 have e : diffA R C a Q D b = (diffGo a b 0,true) := by unfold diffA; rw [if_pos g,if_pos g',if_pos z,if_pos y]
 subst z; subst y
 have h := GoodB.of g; have h' := GoodB.of g'
 have la := h.len90
 have lab : a.length = b.length := by have := h.len; have := h'.len; omega
 have ll := diffGo_len a b 0
 rw [e]
 dsimp only
 refine Ev.pos rfl ?_
 have key : ∀ (m i : Nat),i + m = a.length → Ev (fun k => laws_FnBoardParts.l0 k x6 x7 x10 x16 x22 (diffGo a b 0) x32 x33 x35 (a.length : Int) (i : Int) p1 p2 p3 q1 q2 s1 s2 s3 t1 t2 t3 a1 a2 a3 c1 c2 c3 v1 v2 v3 d1 d2 d3 e1 e2 e3 w1 w2 w3 R C a R C b h1 h2 h3 k1 k2 k3) true := by
  intro m
  induction m with
  | zero =>
   intro i hi
   refine Ev.succ ?_
   simp only [laws_FnBoardParts.l0]
   exact Ev.neg (by omega) H2
  | succ m ih =>
   intro i hi
   have hm := diffGo_mem a b 0 (i : Int) lab
   refine Ev.succ ?_
   simp only [laws_FnBoardParts.l0]
   rw [rdC_at a i (by omega),rdC_at b i (by omega),w64 (x := (i : Int) + 1) (by omega) (by omega)]
   refine Ev.pos (by omega) (Ev.bind (qHas_ev _ _ (by omega)) (Ev.pos (by omega) (Ev.pos (by omega) (Ev.pos (by omega) (Ev.neg ?_ (ih (i + 1) (by omega)))))))
   by_cases s : a[i] = b[i]
   ·have ne : ¬ ((i : Int) ∈ diffGo a b 0) := fun hk => by
     obtain ⟨n,q1,q2,q3⟩ := hm.1 hk
     obtain rfl : n = i := by omega
     apply q3
     rw [List.getElem?_eq_getElem (by omega),List.getElem?_eq_getElem (by omega),s]
    rw [decide_eq_false ne,s,cellsame]; simp
   ·have ye : (i : Int) ∈ diffGo a b 0 := hm.2 ⟨i,by omega,by omega,fun q => s (by
     rw [List.getElem?_eq_getElem (by omega),List.getElem?_eq_getElem (by omega)] at q
     exact Option.some.inj q)⟩
    rw [decide_eq_true ye,cellne s]; simp
 exact key a.length 0 (by omega)
theorem put_len {R C : Int} {cs : List S27} {r c x y : Int} (h : cs.length ≤ 90) : (putA R C cs r c x y).2.2.1.length ≤ 1048576 := by
 unfold putA
 split
 ·split
  ·dsimp only; rw [List.length_set]; omega
  ·simp
 ·simp
theorem stack_len {R C : Int} {a : List S27} {Q D : Int} {b : List S27} (h : a.length ≤ 90) (h' : b.length ≤ 90) : (stackA R C a Q D b).2.2.1.length ≤ 1048576 := by
 unfold stackA
 split
 ·split
  ·split
   ·split
    ·simp
    ·dsimp only; rw [List.length_append]; omega
   ·simp
  ·simp
 ·simp
theorem beside_len (R C : Int) (a : List S27) (Q D : Int) (b : List S27) : (besideA R C a Q D b).2.2.1.length ≤ 1048576 := by
 unfold besideA
 by_cases g : boardGood R C a = true
 case neg => rw [if_neg g]; simp
 by_cases g' : boardGood Q D b = true
 case neg => rw [if_pos g,if_neg g']; simp
 by_cases z : R = Q
 case neg => rw [if_pos g,if_pos g',if_neg z]; simp
 by_cases l : C + D > 9
 ·rw [if_pos g,if_pos g',if_pos z,if_pos l]; simp
 rw [if_pos g,if_pos g',if_pos z,if_neg l]
 subst z
 have h := GoodB.of g; have h' := GoodB.of g'
 obtain ⟨rn,cn,rfl,rfl,ha,_,hr,_,hc,hx⟩ := h.nats
 obtain ⟨rn',dn,e',rfl,hb,_,_,_,hd,hy⟩ := h'.nats
 obtain rfl : rn = rn' := by omega
 dsimp only
 rw [Int.toNat_natCast,Int.toNat_natCast,Int.toNat_natCast,wide_len rn (by omega) (by omega),Nat.mul_add]; omega
theorem cut_len {R C : Int} {cs : List S27} {i j : Int} (h : cs.length ≤ 90) : (cutA R C cs i j).2.2.1.length ≤ 1048576 := by
 unfold cutA
 split
 ·split
  ·dsimp only; rw [List.length_drop,List.length_take]; omega
  ·simp
 ·simp
theorem diff_len {R C : Int} {a : List S27} {Q D : Int} {b : List S27} (h : a.length ≤ 90) : (diffA R C a Q D b).1.length ≤ 1048576 := by
 unfold diffA
 have := diffGo_len a b 0
 split
 ·split
  ·split
   ·split
    ·dsimp only; omega
    ·simp
   ·simp
  ·simp
 ·simp
theorem FnBoardParts : StmtFnBoardParts.Stmt := by
 intro l0 l1 h0 _ h1 _
 suffices hK : Ev (fun k => laws_FnBoardParts.f k l0 l1) true by
  obtain ⟨K,hK⟩ := hK
  exact ⟨K,hK K (Nat.le_refl _)⟩
 unfold laws_FnBoardParts.f
 by_cases big : (wrap64 ((l0.length : Int) + (l1.length : Int))) > 1048576
 ·exact Ev.pos big (Ev.now _)
 refine Ev.neg big ?_
 obtain ⟨R,C,cs,r,c,x,y,d1,n1⟩ := drawPut_ok h0.1
 obtain ⟨aR,aC,a,bR,bC,b,d2,n2,m2⟩ := drawStack_ok h1.1
 obtain ⟨dR,dC,d,eR,eC,e,d3,n3,m3⟩ := drawBeside_ok h1.1
 obtain ⟨fR,fC,f,gR,gC,g,d4,n4,m4⟩ := drawDiff_ok h1.1
 obtain ⟨hR,hC,hs,i,j,d5,n5⟩ := drawCut_ok h1.1
 obtain ⟨uR,uC,us,p,q,d6,n6⟩ := drawAt_ok h1.1
 refine Ev.bind d1 (Ev.bind (implPut_ev _ _ _ _ _ _ _) (Ev.bind (specPut_ev _ _ _ _ _ _ _ (by dsimp only; omega)) ?_))
 refine Ev.bind d2 (Ev.bind (implStack_ev _ _ _ _ _ _) (Ev.bind (specStack_ev _ _ _ _ _ _ n2 m2) ?_))
 refine Ev.bind d3 (Ev.bind (implBeside_ev _ _ _ _ _ _) (Ev.bind (specBeside_ev _ _ _ _ _ _ n3 m3) ?_))
 refine Ev.bind d4 (Ev.bind (implDiff_ev _ _ _ _ _ _) (Ev.bind (specDiff_ev _ _ _ _ _ _ n4 m4) ?_))
 refine Ev.bind d5 (Ev.bind (implCut_ev _ _ _ _ _) (Ev.bind (specCut_ev _ _ _ _ _ n5) ?_))
 refine Ev.bind d6 (Ev.bind (implAt_ev _ _ _ _ _) (Ev.bind (specAt_ev _ _ _ _ _ (by dsimp only; omega)) ?_))
 dsimp only
 refine Ev.neg (by simp) (Ev.bind (qBoard_ev _ _ _ (put_len n1)) (Ev.pos rfl ?_))
 refine Ev.neg (by simp) (Ev.bind (qBoard_ev _ _ _ (stack_len n2 m2)) (Ev.pos rfl ?_))
 refine Ev.neg (by simp) (Ev.bind (qBoard_ev _ _ _ (beside_len _ _ _ _ _ _)) (Ev.pos rfl ?_))
 refine Ev.neg (by simp) (Ev.bind (qInts_ev _ (diff_len n4)) (Ev.pos rfl ?_))
 refine Ev.neg (by simp) (Ev.bind (qBoard_ev _ _ _ (cut_len n5)) (Ev.pos rfl ?_))
 refine Ev.neg (by simp) ?_
 exact bp_j0 (bp_j2 (bp_j3 (bp_j6 (bp_j7 R C cs r c x y) hR hC hs i j) dR dC d eR eC e) aR aC a bR bC b) (by simp) fR fC f gR gC g
end Go.Proofs.Ytbbhacpahnnlcaa.Pure
