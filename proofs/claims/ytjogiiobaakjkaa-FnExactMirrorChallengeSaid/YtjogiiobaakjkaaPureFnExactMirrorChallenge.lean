/- Proved: the pure statement of FnExactMirrorChallenge, over numbers and lists; the lemmas on the printed functions that it takes. No further conditions. -/
import Derived.Test.YtjogiiobaakjkaaStmtFnExactMirrorChallenge
import Derived.Test.YtjogiiobaakjkaaF2
import Derived.Test.YtjogiiobaakjkaaF3
import Derived.Test.YtjogiiobaakjkaaF4
import Derived.Test.YtjogiiobaakjkaaF5
import Derived.Test.YtjogiiobaakjkaaF6
import Derived.Test.YtjogiiobaakjkaaF10
import Derived.Test.YtjogiiobaakjkaaF11
import Derived.Test.YtjogiiobaakjkaaF14
import Derived.Test.YtjogiiobaakjkaaF15
import Derived.Test.YtjogiiobaakjkaaF16
import Derived.Test.YtjogiiobaakjkaaF17
import Derived.Test.YtjogiiobaakjkaaF18
import Derived.Test.YtjogiiobaakjkaaF21
import Derived.Test.YtjogiiobaakjkaaF25
import Derived.Test.YtjogiiobaakjkaaF26
import Derived.Test.YtjogiiobaakjkaaF33
import Derived.Test.YtjogiiobaakjkaaF34
namespace Go.Proofs.Ytjogiiobaakjkaa.Pure
open Go.RowKit Go.Proofs.Ytjogiiobaakjkaa.F Go.Proofs.YtjogiiobaakjkaaV.PrintWords Go.Proofs.YtjogiiobaakjkaaV.PrintLast Go.Proofs.Ytjogiiobaakjkaa
set_option linter.unusedVariables false

theorem Ev.succ {α : Type} {g : Nat → Option α} {r : α} (h : Ev (fun k => g (k + 1)) r) : Ev g r := Ev.step (fun _ => rfl) h
theorem Ev.pos {α : Type} {c : Prop} [Decidable c] {f g : Nat → Option α} {r : α} (hc : c) (h : Ev f r) : Ev (fun k => if c then f k else g k) r := Ev.congr (fun _ => if_pos hc) h
theorem Ev.neg {α : Type} {c : Prop} [Decidable c] {f g : Nat → Option α} {r : α} (hc : ¬ c) (h : Ev g r) : Ev (fun k => if c then f k else g k) r := Ev.congr (fun _ => if_neg hc) h
theorem Ev.ite {α : Type} {c : Prop} [Decidable c] {f g : Nat → Option α} {r s : α} (h : c → Ev f r) (h' : ¬ c → Ev g s) : Ev (fun k => if c then f k else g k) (if c then r else s) := by
  by_cases hc : c
  · rw [if_pos hc]; exact Ev.pos hc (h hc)
  · rw [if_neg hc]; exact Ev.neg hc (h' hc)
theorem Ev.ret {α : Type} {r s : α} (h : s = r) : Ev (fun _ => some s) r := by subst h; exact Ev.now _
theorem Ev.val {α : Type} {o : Option α} {r : α} (h : o = some r) : Ev (fun _ => o) r := ⟨0, fun _ _ => h⟩
theorem Ev.cast {α : Type} {g : Nat → Option α} {r s : α} (h : Ev g s) (e : s = r) : Ev g r := e ▸ h
theorem w64 {x : Int} (h : -9223372036854775808 ≤ x) (h' : x ≤ 9223372036854775807) : wrap64 x = x := by unfold wrap64; omega
theorem rd_at (l : List Int) (i : Nat) (h : i < l.length) : rd l (i : Int) = l[i] := by
  unfold rd
  rw [Int.toNat_natCast, List.getD_eq_getElem?_getD, List.getElem?_eq_getElem h]; rfl
theorem rdC_at (l : List S78) (i : Nat) (h : i < l.length) : rd_T78 l (i : Int) = l[i] := by
  unfold rd_T78
  rw [Int.toNat_natCast, List.getD_eq_getElem?_getD, List.getElem?_eq_getElem h]; rfl
def inR (x lo hi : Int) : Bool := decide (lo ≤ x) && decide (x ≤ hi)
theorem inR_iff {x lo hi : Int} : inR x lo hi = true ↔ lo ≤ x ∧ x ≤ hi := by unfold inR; simp
theorem inR_lo {x lo hi : Int} (h : x < lo) : inR x lo hi = false := Bool.eq_false_iff.mpr (fun g => absurd (inR_iff.1 g).1 (by omega))
theorem inR_hi {x lo hi : Int} (h : x > hi) : inR x lo hi = false := Bool.eq_false_iff.mpr (fun g => absurd (inR_iff.1 g).2 (by omega))
theorem l1In_ok (x lo hi : Int) : spec_l1In.f x lo hi = some (inR x lo hi) := by
  unfold spec_l1In.f inR
  by_cases h : lo ≤ x
  · rw [if_pos (by omega)]; simp [h]
  · rw [if_neg (by omega)]; simp [h]
def turning (c : S78) : Bool := decide (c.f0 = 3) || decide (c.f0 = 6)
def goodCell (c : S78) : Bool := inR c.f0 0 7 && (decide (c.f1 = 0) || (decide (c.f1 = 1) && turning c))
theorem turning_ok (c : S78) : spec_paTurning.f c.f0 c.f1 = some (turning c) := by
  unfold spec_paTurning.f turning
  by_cases h : c.f0 = 3
  · rw [if_pos h]; simp [h]
  · rw [if_neg h, decide_eq_false h, Bool.false_or]; rfl
theorem paGood_ok (c : S78) : spec_paGood.f c.f0 c.f1 = some (goodCell c) := by
  unfold spec_paGood.f goodCell
  rw [l1In_ok, Option.bind_some]
  by_cases h : inR c.f0 0 7 = true
  · rw [if_pos h, h, Bool.true_and]
    by_cases h1 : c.f1 = 0
    · rw [if_pos h1, decide_eq_true h1]; rfl
    · rw [if_neg h1, decide_eq_false h1, Bool.false_or]
      by_cases h2 : c.f1 = 1
      · rw [if_pos h2, turning_ok, Option.bind_some, decide_eq_true h2, Bool.true_and]
      · rw [if_neg h2, decide_eq_false h2, Bool.false_and]
  · rw [if_neg h, Bool.eq_false_iff.mpr h, Bool.false_and]
theorem IsCell_ok (c : S78) : impl_IsCell.f c.f0 c.f1 = some (goodCell c) := by
  unfold impl_IsCell.f goodCell turning inR
  by_cases h1 : c.f0 < 0
  · rw [if_pos h1, decide_eq_false (show ¬ 0 ≤ c.f0 by omega)]; rfl
  rw [if_neg h1, decide_eq_true (show 0 ≤ c.f0 by omega)]
  by_cases h2 : c.f0 > 7
  · rw [if_pos h2, decide_eq_false (show ¬ c.f0 ≤ 7 by omega)]; rfl
  rw [if_neg h2, decide_eq_true (show c.f0 ≤ 7 by omega)]
  by_cases h3 : c.f1 = 0
  · rw [if_neg (by omega), if_neg (by omega), if_pos h3, decide_eq_true h3]; rfl
  rw [decide_eq_false h3]
  by_cases h4 : c.f1 = 1
  · rw [if_neg (by omega), if_neg (by omega), if_neg h3, decide_eq_true h4]
    by_cases h5 : c.f0 = 3
    · rw [if_pos h5, decide_eq_true h5]; rfl
    · rw [if_neg h5, decide_eq_false h5]; rfl
  rw [decide_eq_false h4]
  by_cases h6 : c.f1 < 0
  · rw [if_pos h6]; rfl
  · rw [if_neg h6, if_pos (by omega)]; rfl
theorem cell_eq_iff (a b : S78) : (a.f0 == b.f0 && (a.f1 == b.f1)) = true ↔ a = b := by
  cases a; cases b; simp
instance : DecidableEq S78 := fun a b => if h : (a.f0 == b.f0 && (a.f1 == b.f1)) = true then isTrue ((cell_eq_iff a b).1 h) else isFalse fun e => h ((cell_eq_iff a b).2 e)
theorem l1All_ev (l : List Int) (lo hi : Int) (hl : l.length ≤ 4611686018427387904) : Ev (fun k => spec_l1All.f k l lo hi) (l.all fun x => inR x lo hi) := by
  have key : ∀ (n i : Nat), i + n = l.length → Ev (fun k => spec_l1All.l0 k lo hi l (l.length : Int) i) ((l.drop i).all fun x => inR x lo hi) := by
    intro n
    induction n with
    | zero =>
      intro i hi
      refine Ev.succ ?_
      simp only [spec_l1All.l0]
      refine Ev.neg (by omega) (Ev.ret ?_)
      rw [List.drop_eq_nil_of_le (by omega)]; rfl
    | succ n ih =>
      intro i hi'
      refine Ev.succ ?_
      simp only [spec_l1All.l0]
      refine Ev.pos (by omega) (Ev.pos (by omega) (Ev.pos (by omega) ?_))
      rw [rd_at l i (by omega), w64 (by omega) (by omega), List.drop_eq_getElem_cons (show i < l.length by omega)]
      have e := ih (i + 1) (by omega)
      refine Ev.bind (Ev.val (l1In_ok _ _ _)) ?_
      by_cases h : inR l[i] lo hi = true
      · refine Ev.pos h (Ev.cast e ?_)
        rw [List.all_cons, h, Bool.true_and]
      · refine Ev.neg h (Ev.ret ?_)
        rw [List.all_cons, Bool.eq_false_iff.mpr h]; rfl
  exact key l.length 0 (by omega)
theorem eqIntS_ev (a b : List Int) (ha : a.length ≤ 4611686018427387904) : Ev (fun k => laws_eqIntS.f k a b) (decide (a = b)) := by
  have key : ∀ (n i : Nat), a.length = b.length → i + n = a.length → Ev (fun k => laws_eqIntS.l0 k a b i) (decide (a.drop i = b.drop i)) := by
    intro n
    induction n with
    | zero =>
      intro i hl hi
      refine Ev.succ ?_
      simp only [laws_eqIntS.l0]
      refine Ev.neg (by omega) (Ev.ret ?_)
      rw [List.drop_eq_nil_of_le (by omega), List.drop_eq_nil_of_le (by omega)]; simp
    | succ n ih =>
      intro i hl hi
      refine Ev.succ ?_
      simp only [laws_eqIntS.l0]
      refine Ev.pos (by omega) (Ev.pos (by omega) (Ev.pos (by omega) ?_))
      rw [rd_at a i (by omega), rd_at b i (by omega), w64 (by omega) (by omega)]
      have e := ih (i + 1) hl (by omega)
      rw [List.drop_eq_getElem_cons (show i < a.length by omega), List.drop_eq_getElem_cons (show i < b.length by omega)]
      by_cases hc : a[i] = b[i]
      · refine Ev.pos hc (Ev.cast e ?_)
        rw [hc]
        simp only [List.cons.injEq, true_and]
      · exact Ev.neg hc (Ev.ret (by simp only [List.cons.injEq, hc, false_and, decide_false]))
  show Ev (fun k => if (a.length : Int) = (b.length : Int) then laws_eqIntS.l0 k a b 0 else some false) _
  by_cases hl : a.length = b.length
  · exact Ev.pos (by omega) (key a.length 0 hl (by omega))
  · refine Ev.neg (by omega) (Ev.ret ?_)
    have : a ≠ b := fun h => hl (by rw [h])
    simp [this]
theorem set_at {α : Type} (p q : List α) (x y : α) (i : Nat) (hi : p.length = i) : (p ++ x :: q).set i y = p ++ y :: q := by
  subst hi; simp
theorem toIntS_ev (a : List Int) (ha : a.length ≤ 17592186044415) : Ev (fun k => laws_toIntS.f k a) a := by
  have key : ∀ (n i : Nat), i + n = a.length → Ev (fun k => laws_toIntS.l0 k a (a.take i ++ List.replicate n 0) i) a := by
    intro n
    induction n with
    | zero =>
      intro i hi
      refine Ev.succ ?_
      simp only [laws_toIntS.l0]
      refine Ev.neg (by omega) (Ev.ret ?_)
      rw [List.take_of_length_le (by omega)]; simp
    | succ n ih =>
      intro i hi
      refine Ev.succ ?_
      simp only [laws_toIntS.l0]
      have hl : (a.take i ++ List.replicate (n + 1) (0 : Int)).length = a.length := by simp; omega
      refine Ev.pos (by omega) (Ev.pos (by omega) (Ev.pos (by rw [hl]; omega) ?_))
      rw [rd_at a i (by omega), w64 (by omega) (by omega)]
      have e : (a.take i ++ List.replicate (n + 1) (0 : Int)).set (i : Int).toNat a[i] = a.take (i + 1) ++ List.replicate n 0 := by
        rw [List.replicate_succ, set_at _ _ _ _ _ (by simp; omega), List.take_succ_eq_append_getElem (by omega), List.append_assoc]; rfl
      rw [e]
      exact ih (i + 1) (by omega)
  show Ev (fun k => if 0 ≤ (a.length : Int) then (if ((a.length : Int) : Int).toNat ≤ 35184372088832 then (laws_toIntS.l0 k a (List.replicate ((a.length : Int) : Int).toNat 0) 0) else none) else none) a
  refine Ev.pos (by omega) (Ev.pos (by omega) ?_)
  have := key a.length 0 (by omega)
  simpa using this
def cv (c : S112) : S78 := ⟨c.f0, c.f1⟩
theorem rdL_at (l : List S112) (i : Nat) (h : i < l.length) : rd_T112 l (i : Int) = l[i] := by
  unfold rd_T112
  rw [Int.toNat_natCast, List.getD_eq_getElem?_getD, List.getElem?_eq_getElem h]; rfl
theorem toCellS_ev (a : List S112) (ha : a.length ≤ 17592186044415) : Ev (fun k => laws_toCellS.f k a) (a.map cv) := by
  have key : ∀ (n i : Nat), i + n = a.length → Ev (fun k => laws_toCellS.l0 k a ((a.map cv).take i ++ List.replicate n z78) i) (a.map cv) := by
    intro n
    induction n with
    | zero =>
      intro i hi
      refine Ev.succ ?_
      simp only [laws_toCellS.l0]
      refine Ev.neg (by omega) (Ev.ret ?_)
      rw [List.take_of_length_le (by simp; omega)]; simp
    | succ n ih =>
      intro i hi
      refine Ev.succ ?_
      simp only [laws_toCellS.l0, laws_toCell.f, Option.bind_some]
      have hl : ((a.map cv).take i ++ List.replicate (n + 1) z78).length = a.length := by simp; omega
      refine Ev.pos (by omega) (Ev.pos (by omega) (Ev.pos (by rw [hl]; omega) ?_))
      rw [rdL_at a i (by omega), w64 (by omega) (by omega)]
      have e : ((a.map cv).take i ++ List.replicate (n + 1) z78).set (i : Int).toNat (⟨a[i].f0, a[i].f1⟩ : S78) = (a.map cv).take (i + 1) ++ List.replicate n z78 := by
        rw [List.replicate_succ, set_at _ _ _ _ _ (by simp; omega), List.take_succ_eq_append_getElem (by simp; omega), List.append_assoc, List.getElem_map]; rfl
      rw [e]
      exact ih (i + 1) (by omega)
  show Ev (fun k => if 0 ≤ (a.length : Int) then (if ((a.length : Int) : Int).toNat ≤ 17592186044416 then (laws_toCellS.l0 k a (List.replicate ((a.length : Int) : Int).toNat z78) 0) else none) else none) (a.map cv)
  refine Ev.pos (by omega) (Ev.pos (by omega) ?_)
  have := key a.length 0 (by omega)
  simpa using this
theorem eqCellS_ev (a b : List S78) (ha : a.length ≤ 4611686018427387904) : Ev (fun k => laws_eqCellS.f k a b) (decide (a = b)) := by
  have key : ∀ (n i : Nat), a.length = b.length → i + n = a.length → Ev (fun k => laws_eqCellS.l0 k a b i) (decide (a.drop i = b.drop i)) := by
    intro n
    induction n with
    | zero =>
      intro i hl hi
      refine Ev.succ ?_
      simp only [laws_eqCellS.l0]
      refine Ev.neg (by omega) (Ev.ret ?_)
      rw [List.drop_eq_nil_of_le (by omega), List.drop_eq_nil_of_le (by omega)]; simp
    | succ n ih =>
      intro i hl hi
      refine Ev.succ ?_
      simp only [laws_eqCellS.l0]
      refine Ev.pos (by omega) (Ev.pos (by omega) (Ev.pos (by omega) ?_))
      rw [rdC_at a i (by omega), rdC_at b i (by omega), w64 (by omega) (by omega)]
      have e := ih (i + 1) hl (by omega)
      rw [List.drop_eq_getElem_cons (show i < a.length by omega), List.drop_eq_getElem_cons (show i < b.length by omega)]
      by_cases hc : a[i] = b[i]
      · refine Ev.bind (a := true) (Ev.val ?_) (Ev.pos rfl (Ev.cast e ?_))
        · rw [hc]; unfold laws_eqCell.f; rw [if_pos rfl, if_pos rfl]
        · rw [hc]
          simp only [List.cons.injEq, true_and]
      · refine Ev.bind (a := false) (Ev.val ?_) (Ev.neg (by simp) (Ev.ret (by simp only [List.cons.injEq, hc, false_and, decide_false])))
        unfold laws_eqCell.f
        by_cases h0 : a[i].f0 = b[i].f0
        · rw [if_pos h0, if_neg (fun h1 => hc ((cell_eq_iff _ _).1 (by simp [h0, h1])))]
        · rw [if_neg h0]
  show Ev (fun k => if (a.length : Int) = (b.length : Int) then laws_eqCellS.l0 k a b 0 else some false) _
  by_cases hl : a.length = b.length
  · exact Ev.pos (by omega) (key a.length 0 hl (by omega))
  · refine Ev.neg (by omega) (Ev.ret ?_)
    have : a ≠ b := fun h => hl (by rw [h])
    simp [this]
theorem mulb {x y m n : Int} (h0 : 0 ≤ x) (h1 : x ≤ m) (g0 : 0 ≤ y) (g1 : y ≤ n) : 0 ≤ x * y ∧ x * y ≤ m * n :=
  ⟨Int.mul_nonneg h0 g0, Int.mul_le_mul h1 g1 g0 (Int.le_trans h0 h1)⟩
def pw (a : Int) : Nat → Int → Int
  | 0, o => o
  | n + 1, o => if o ≤ 7000 then pw a n (o * a) else o
theorem pw_big (a : Int) (n : Nat) (o : Int) (h : ¬ o ≤ 7000) : pw a n o = o := by
  cases n with
  | zero => rfl
  | succ n => rw [pw, if_neg h]
theorem syPower_ev (a : Int) (ha : 2 ≤ a) (ha' : a ≤ 7) : ∀ (n : Nat) (o : Int), n ≤ 1000 → 1 ≤ o → o ≤ 49000 → Ev (fun k => spec_syPower.l0 k a n o) (pw a n o) := by
  intro n
  induction n with
  | zero =>
    intro o _ _ _
    refine Ev.succ ?_
    simp only [spec_syPower.l0]
    exact Ev.neg (by omega) (Ev.now _)
  | succ n ih =>
    intro o hn h1 h2
    refine Ev.succ ?_
    simp only [spec_syPower.l0, pw]
    refine Ev.pos (by omega) ?_
    by_cases h : o ≤ 7000
    · refine Ev.pos h ?_
      rw [if_pos h]
      have b := mulb (show 0 ≤ o by omega) h (show 0 ≤ a by omega) ha'
      have b2 : 1 * 1 ≤ o * a := Int.mul_le_mul h1 (by omega) (by omega) (by omega)
      rw [w64 (x := o * a) (by omega) (by omega), w64 (by omega) (by omega)]
      have e : ((n + 1 : Nat) : Int) - 1 = (n : Int) := by omega
      rw [e]
      exact ih _ (by omega) (by omega) (by omega)
    · rw [if_neg h]
      exact Ev.neg h (Ev.now _)
def tried (r c : Int) (n : Nat) : Int := pw ((n : Int) + 1) (r * c).toNat 1
theorem rc_bd {r c : Int} (hr : inR r 1 4 = true) (hc : inR c 1 4 = true) : 1 ≤ r * c ∧ r * c ≤ 16 := by
  rw [inR_iff] at hr hc
  have b := mulb (show 0 ≤ r by omega) hr.2 (show 0 ≤ c by omega) hc.2
  have b2 : 1 * 1 ≤ r * c := Int.mul_le_mul hr.1 hc.1 (by omega) (by omega)
  omega
theorem syTried_ev (r c : Int) (p : List S78) (e n : List Int) (hr : inR r 1 4 = true) (hc : inR c 1 4 = true) (hp : inR (p.length : Int) 1 6 = true) : Ev (fun k => spec_syTried.f k r c p e n) (tried r c p.length) := by
  have b := rc_bd hr hc
  rw [inR_iff] at hp
  unfold spec_syTried.f spec_syPower.f tried
  refine Ev.bind ?_ (Ev.now _)
  rw [w64 (by omega) (by omega), w64 (by omega) (by omega)]
  have h := syPower_ev ((p.length : Int) + 1) (by omega) (by omega) (r * c).toNat 1 (by omega) (by omega) (by omega)
  rw [Int.toNat_of_nonneg (by omega)] at h
  exact h
def partsFrom (pre : List S78) : List S78 → Bool
  | [] => true
  | p :: t => goodCell p && (!decide (p.f0 = 0) && (!decide (p ∈ pre) && partsFrom (pre ++ [p]) t))
def chRest (r c : Int) (p : List S78) (e n : List Int) : Bool := e.all (fun x => inR x 0 (c - 1)) && (n.all (fun x => inR x 0 (c + 1)) && decide (tried r c p.length ≤ 7000))
def chDims (r c : Int) (p : List S78) (e n : List Int) : Bool := inR r 1 4 && (inR c 1 4 && (inR (p.length : Int) 1 6 && (inR (e.length : Int) 1 8 && decide (n.length = e.length))))
def chGood (r c : Int) (p : List S78) (e n : List Int) : Bool := chDims r c p e n && (partsFrom [] p && chRest r c p e n)
theorem syGood_j3t (r c : Int) (p : List S78) (e n : List Int) : Ev (fun k => spec_syGood.j3 k true r c p e n) false := by
  refine Ev.succ ?_
  simp only [spec_syGood.j3]
  exact Ev.pos (by trivial) (Ev.now _)
theorem syGood_end (r c : Int) (p : List S78) (e n : List Int) (he : e.length ≤ 1048576) (hn : n.length ≤ 1048576) : Ev (fun k => spec_syGood.l0 k p (p.length : Int) (p.length : Int) r c p e n) (chDims r c p e n && chRest r c p e n) := by
  refine Ev.succ ?_
  simp only [spec_syGood.l0]
  unfold chDims
  refine Ev.neg (by omega) (Ev.bind (Ev.val (l1In_ok _ _ _)) ?_)
  by_cases h1 : inR r 1 4 = true
  case neg => exact Ev.neg h1 (Ev.cast (syGood_j3t r c p e n) (by simp [h1]))
  refine Ev.pos h1 (Ev.bind (Ev.val (l1In_ok _ _ _)) ?_)
  by_cases h2 : inR c 1 4 = true
  case neg => exact Ev.neg h2 (Ev.cast (syGood_j3t r c p e n) (by simp [h2]))
  refine Ev.pos h2 (Ev.bind (Ev.val (l1In_ok _ _ _)) ?_)
  by_cases h3 : inR (p.length : Int) 1 6 = true
  case neg => exact Ev.neg h3 (Ev.cast (syGood_j3t r c p e n) (by simp [h3]))
  refine Ev.pos h3 (Ev.bind (Ev.val (l1In_ok _ _ _)) ?_)
  by_cases h4 : inR (e.length : Int) 1 8 = true
  case neg => exact Ev.neg h4 (Ev.cast (syGood_j3t r c p e n) (by simp [h4]))
  refine Ev.pos h4 ?_
  by_cases h5 : n.length = e.length
  case neg =>
    have hb : ((n.length : Int) != (e.length : Int)) = true := by simp; omega
    rw [hb]
    exact Ev.cast (syGood_j3t r c p e n) (by simp [h5])
  have hb : ((n.length : Int) != (e.length : Int)) = false := by simp [h5]
  rw [hb, h1, h2, h3, h4, decide_eq_true h5]
  simp only [Bool.true_and]
  have h2' := inR_iff.1 h2
  refine Ev.succ ?_
  simp only [spec_syGood.j3]
  unfold chRest
  rw [w64 (x := c - 1) (by omega) (by omega), w64 (x := c + 1) (by omega) (by omega)]
  refine Ev.neg (by simp) (Ev.bind (l1All_ev e 0 (c - 1) (by omega)) ?_)
  by_cases h6 : (e.all fun x => inR x 0 (c - 1)) = true
  case neg => exact Ev.neg h6 (Ev.ret (by rw [Bool.eq_false_iff.mpr h6, Bool.false_and]))
  refine Ev.pos h6 (Ev.bind (l1All_ev n 0 (c + 1) (by omega)) ?_)
  by_cases h7 : (n.all fun x => inR x 0 (c + 1)) = true
  case neg => exact Ev.neg h7 (Ev.ret (by rw [Bool.eq_false_iff.mpr h7, Bool.false_and, Bool.and_false]))
  refine Ev.pos h7 (Ev.bind (syTried_ev r c p e n h1 h2 h3) (Ev.ret ?_))
  rw [h6, h7, Bool.true_and, Bool.true_and]
theorem syGood_parts (r c : Int) (p : List S78) (e n : List Int) (hp : p.length ≤ 1048576) (he : e.length ≤ 1048576) (hn : n.length ≤ 1048576) :
    ∀ (m i : Nat), i + m = p.length → Ev (fun k => spec_syGood.l0 k p (p.length : Int) i r c p e n) (partsFrom (p.take i) (p.drop i) && (chDims r c p e n && chRest r c p e n)) := by
  intro m
  induction m with
  | zero =>
    intro i hi
    obtain rfl : i = p.length := by omega
    rw [List.drop_eq_nil_of_le (Nat.le_refl _), partsFrom, Bool.true_and]
    exact syGood_end r c p e n he hn
  | succ m ih =>
    intro i hi
    have e1 := ih (i + 1) (by omega)
    generalize (chDims r c p e n && chRest r c p e n) = Z at e1 ⊢
    refine Ev.succ ?_
    simp only [spec_syGood.l0]
    refine Ev.pos (by omega) (Ev.pos (by omega) (Ev.pos (by omega) ?_))
    rw [rdC_at p i (by omega), List.drop_eq_getElem_cons (show i < p.length by omega), partsFrom, ← List.take_succ_eq_append_getElem (by omega)]
    refine Ev.bind (Ev.val (paGood_ok p[i])) ?_
    by_cases h1 : goodCell p[i] = true
    case neg =>
      refine Ev.neg h1 (Ev.succ ?_)
      simp only [spec_syGood.j1]
      exact Ev.pos (by trivial) (Ev.ret (by simp [h1]))
    refine Ev.pos h1 (Ev.succ ?_)
    simp only [spec_syGood.j1]
    by_cases h2 : p[i].f0 = 0
    · exact Ev.pos (by simp [h2]) (Ev.ret (by simp [h2]))
    refine Ev.neg (by simp [h2]) (Ev.pos (by omega) (Ev.pos (by omega) (Ev.bind (Ev.now _) ?_)))
    rw [h1, decide_eq_false h2, Bool.true_and, Bool.not_false, Bool.true_and]
    have hl : (p.take (i : Int).toNat) = p.take i := by rw [Int.toNat_natCast]
    rw [hl]
    have inner : ∀ (q j : Nat), j + q = (p.take i).length → Ev (fun k => spec_syGood.l1 k p (p.length : Int) i (p.take i) ((p.take i).length : Int) j r c p e n p[i].f0 p[i].f1) (!decide (p[i] ∈ (p.take i).drop j) && (partsFrom (p.take (i + 1)) (p.drop (i + 1)) && Z)) := by
      intro q
      induction q with
      | zero =>
        intro j hj
        refine Ev.succ ?_
        simp only [spec_syGood.l1]
        rw [List.drop_eq_nil_of_le (by omega), w64 (x := (i : Int) + 1) (by omega) (by omega)]
        exact Ev.neg (by omega) (Ev.cast e1 (by simp))
      | succ q ihq =>
        intro j hj
        refine Ev.succ ?_
        simp only [spec_syGood.l1]
        have hjl : (p.take i).length ≤ 1048576 := by rw [List.length_take]; omega
        refine Ev.pos (by omega) (Ev.pos (by omega) (Ev.pos (by omega) ?_))
        rw [rdC_at (p.take i) j (by omega), w64 (x := (j : Int) + 1) (by omega) (by omega), List.drop_eq_getElem_cons (show j < (p.take i).length by omega)]
        by_cases h3 : p[i] = (p.take i)[j]
        · exact Ev.pos ((cell_eq_iff _ _).2 h3) (Ev.ret (by rw [← h3]; simp))
        · refine Ev.neg (fun h => h3 ((cell_eq_iff _ _).1 h)) (Ev.cast (ihq (j + 1) (by omega)) ?_)
          simp only [List.mem_cons, h3, false_or]
    have := inner (p.take i).length 0 (by omega)
    rw [List.drop_zero] at this
    rw [Bool.and_assoc]
    exact this
theorem syGood_ev (r c : Int) (p : List S78) (e n : List Int) (hp : p.length ≤ 1048576) (he : e.length ≤ 1048576) (hn : n.length ≤ 1048576) : Ev (fun k => spec_syGood.f k r c p e n) (chGood r c p e n) := by
  have h := syGood_parts r c p e n hp he hn p.length 0 (by omega)
  refine Ev.cast h ?_
  rw [List.take_zero, List.drop_zero]
  unfold chGood
  rw [Bool.and_left_comm]
theorem IndexCell_ev (l : List S78) (x : S78) (hl : l.length ≤ 1048576) : ∃ v : Int, Ev (fun k => impl_Cell_108.f k l x.f0 x.f1) v ∧ (0 ≤ v ↔ x ∈ l) := by
  have key : ∀ (n i : Nat), i + n = l.length → ∃ v : Int, Ev (fun k => impl_Cell_108.l0 k l (l.length : Int) i x.f0 x.f1) v ∧ (0 ≤ v ↔ x ∈ l.drop i) := by
    intro n
    induction n with
    | zero =>
      intro i hi
      refine ⟨-1, Ev.succ ?_, ?_⟩
      · simp only [impl_Cell_108.l0]
        exact Ev.neg (by omega) (Ev.now _)
      · rw [List.drop_eq_nil_of_le (by omega)]; simp
    | succ n ih =>
      intro i hi
      obtain ⟨v, hv, hm⟩ := ih (i + 1) (by omega)
      have e := rdC_at l i (by omega)
      by_cases h : x = l[i]
      · refine ⟨i, Ev.succ ?_, ?_⟩
        · simp only [impl_Cell_108.l0]
          rw [e]
          exact Ev.pos (by omega) (Ev.pos (by omega) (Ev.pos (by omega) (Ev.pos ((cell_eq_iff _ _).2 h) (Ev.now _))))
        · rw [List.drop_eq_getElem_cons (show i < l.length by omega), ← h]; simp
      · refine ⟨v, Ev.succ ?_, ?_⟩
        · simp only [impl_Cell_108.l0]
          rw [e, w64 (by omega) (by omega)]
          exact Ev.pos (by omega) (Ev.pos (by omega) (Ev.pos (by omega) (Ev.neg (fun g => h ((cell_eq_iff _ _).1 g)) hv)))
        · rw [List.drop_eq_getElem_cons (show i < l.length by omega), List.mem_cons, hm]; simp [h]
  have := key l.length 0 (by omega)
  rwa [List.drop_zero] at this
theorem ContainsCell_ev (l : List S78) (x : S78) (hl : l.length ≤ 1048576) : Ev (fun k => impl_Cell_64.f k l x.f0 x.f1) (decide (x ∈ l)) := by
  obtain ⟨v, hv, hm⟩ := IndexCell_ev l x hl
  unfold impl_Cell_64.f
  exact Ev.bind hv (Ev.ret (decide_eq_decide.2 hm))
theorem IsChallenge_tried (r c : Int) (p : List S78) (e n : List Int) (hr : inR r 1 4 = true) (hc : inR c 1 4 = true) (hp : inR (p.length : Int) 1 6 = true) :
    ∀ (m i : Nat) (o : Int), (i : Int) + m = r * c → 1 ≤ o → o ≤ 7000 → Ev (fun k => impl_IsChallenge.l2 k o i r c p e n) (decide (pw ((p.length : Int) + 1) m o ≤ 7000)) := by
  have b := rc_bd hr hc
  rw [inR_iff] at hp
  intro m
  induction m with
  | zero =>
    intro i o hi h1 h2
    refine Ev.succ ?_
    simp only [impl_IsChallenge.l2]
    rw [w64 (x := r * c) (by omega) (by omega)]
    exact Ev.neg (by omega) (Ev.ret (by rw [pw, decide_eq_true h2]))
  | succ m ih =>
    intro i o hi h1 h2
    refine Ev.succ ?_
    simp only [impl_IsChallenge.l2]
    have b1 := mulb (show 0 ≤ o by omega) h2 (show 0 ≤ (p.length : Int) + 1 by omega) (show (p.length : Int) + 1 ≤ 7 by omega)
    have b2 : 1 * 1 ≤ o * ((p.length : Int) + 1) := Int.mul_le_mul h1 (by omega) (by omega) (by omega)
    rw [w64 (x := r * c) (by omega) (by omega), w64 (x := (p.length : Int) + 1) (by omega) (by omega), w64 (x := o * ((p.length : Int) + 1)) (by omega) (by omega), w64 (x := (i : Int) + 1) (by omega) (by omega)]
    refine Ev.pos (by omega) ?_
    rw [pw, if_pos h2]
    by_cases h : o * ((p.length : Int) + 1) > 7000
    · refine Ev.pos h (Ev.ret ?_)
      rw [pw_big _ _ _ (by omega), decide_eq_false (by omega)]
    · exact Ev.neg h (ih (i + 1) _ (by omega) (by omega) (by omega))
theorem IsChallenge_ends (r c : Int) (p : List S78) (e n : List Int) (hr : inR r 1 4 = true) (hc : inR c 1 4 = true) (hp : inR (p.length : Int) 1 6 = true) (he : inR (e.length : Int) 1 8 = true) (hn : n.length = e.length) :
    ∀ (m i : Nat), i + m = e.length → Ev (fun k => impl_IsChallenge.l1 k e (e.length : Int) i r c p e n) ((e.drop i).all (fun x => inR x 0 (c - 1)) && ((n.drop i).all (fun x => inR x 0 (c + 1)) && decide (tried r c p.length ≤ 7000))) := by
  have b := rc_bd hr hc
  have hc' := inR_iff.1 hc
  have he' := inR_iff.1 he
  intro m
  induction m with
  | zero =>
    intro i hi
    refine Ev.succ ?_
    simp only [impl_IsChallenge.l1]
    rw [List.drop_eq_nil_of_le (show e.length ≤ i by omega), List.drop_eq_nil_of_le (show n.length ≤ i by omega), List.all_nil, List.all_nil, Bool.true_and, Bool.true_and]
    refine Ev.neg (by omega) ?_
    have h := IsChallenge_tried r c p e n hr hc hp (r * c).toNat 0 1 (by omega) (by omega) (by omega)
    exact h
  | succ m ih =>
    intro i hi
    refine Ev.succ ?_
    simp only [impl_IsChallenge.l1]
    rw [rd_at e i (by omega), rd_at n i (by omega), w64 (x := c + 1) (by omega) (by omega), w64 (x := (i : Int) + 1) (by omega) (by omega), List.drop_eq_getElem_cons (show i < e.length by omega), List.drop_eq_getElem_cons (show i < n.length by omega), List.all_cons, List.all_cons]
    refine Ev.pos (by omega) (Ev.pos (by omega) (Ev.pos (by omega) ?_))
    by_cases h1 : e[i] < 0
    · exact Ev.pos h1 (Ev.ret (by rw [inR_lo h1, Bool.false_and, Bool.false_and]))
    refine Ev.neg h1 ?_
    by_cases h2 : e[i] ≥ c
    · exact Ev.pos h2 (Ev.ret (by rw [inR_hi (show e[i] > c - 1 by omega), Bool.false_and, Bool.false_and]))
    refine Ev.neg h2 (Ev.pos (by omega) ?_)
    by_cases h3 : n[i] < 0
    · exact Ev.pos h3 (Ev.ret (by rw [inR_lo h3, Bool.false_and, Bool.false_and, Bool.and_false]))
    refine Ev.neg h3 ?_
    by_cases h4 : n[i] > c + 1
    · exact Ev.pos h4 (Ev.ret (by rw [inR_hi h4, Bool.false_and, Bool.false_and, Bool.and_false]))
    refine Ev.neg h4 (Ev.cast (ih (i + 1) (by omega)) ?_)
    rw [inR_iff.2 ⟨by omega, by omega⟩, inR_iff.2 ⟨by omega, by omega⟩, Bool.true_and, Bool.true_and]
theorem IsChallenge_parts (r c : Int) (p : List S78) (e n : List Int) (hr : inR r 1 4 = true) (hc : inR c 1 4 = true) (hp : inR (p.length : Int) 1 6 = true) (he : inR (e.length : Int) 1 8 = true) (hn : n.length = e.length) :
    ∀ (m i : Nat), i + m = p.length → Ev (fun k => impl_IsChallenge.l0 k p (p.length : Int) i r c p e n) (partsFrom (p.take i) (p.drop i) && chRest r c p e n) := by
  have hp' := inR_iff.1 hp
  intro m
  induction m with
  | zero =>
    intro i hi
    refine Ev.succ ?_
    simp only [impl_IsChallenge.l0]
    rw [List.drop_eq_nil_of_le (by omega), partsFrom, Bool.true_and]
    refine Ev.neg (by omega) ?_
    have h := IsChallenge_ends r c p e n hr hc hp he hn e.length 0 (by omega)
    exact h
  | succ m ih =>
    intro i hi
    have e1 := ih (i + 1) (by omega)
    refine Ev.succ ?_
    simp only [impl_IsChallenge.l0]
    refine Ev.pos (by omega) (Ev.pos (by omega) (Ev.pos (by omega) ?_))
    rw [rdC_at p i (by omega), List.drop_eq_getElem_cons (show i < p.length by omega), partsFrom, ← List.take_succ_eq_append_getElem (by omega), w64 (x := (i : Int) + 1) (by omega) (by omega)]
    refine Ev.bind (Ev.val (IsCell_ok p[i])) ?_
    by_cases h1 : goodCell p[i] = true
    case neg => exact Ev.neg h1 (Ev.ret (by simp [h1]))
    refine Ev.pos h1 ?_
    by_cases h2 : p[i].f0 = 0
    · exact Ev.pos h2 (Ev.ret (by simp [h2]))
    refine Ev.neg h2 (Ev.pos (by omega) ?_)
    have hl : (p.take (i : Int).toNat) = p.take i := by rw [Int.toNat_natCast]
    rw [hl, h1, decide_eq_false h2, Bool.true_and, Bool.not_false, Bool.true_and]
    refine Ev.bind (ContainsCell_ev (p.take i) p[i] (by rw [List.length_take]; omega)) ?_
    by_cases h3 : p[i] ∈ p.take i
    · exact Ev.pos (by simp [h3]) (Ev.ret (by rw [decide_eq_true h3]; rfl))
    · refine Ev.neg (by simp [h3]) (Ev.cast e1 ?_)
      rw [decide_eq_false h3]; rfl
theorem IsChallenge_j0t (r c : Int) (p : List S78) (e n : List Int) : Ev (fun k => impl_IsChallenge.j0 k true r c p e n) false := by
  refine Ev.succ ?_
  simp only [impl_IsChallenge.j0]
  exact Ev.pos (by trivial) (Ev.now _)
theorem IsChallenge_ev (r c : Int) (p : List S78) (e n : List Int) : Ev (fun k => impl_IsChallenge.f k r c p e n) (chGood r c p e n) := by
  unfold impl_IsChallenge.f chGood chDims
  by_cases a1 : r < 1
  · exact Ev.pos a1 (Ev.cast (IsChallenge_j0t r c p e n) (by rw [inR_lo a1]; rfl))
  refine Ev.neg a1 ?_
  by_cases a2 : r > 4
  · exact Ev.pos a2 (Ev.cast (IsChallenge_j0t r c p e n) (by rw [inR_hi a2]; rfl))
  refine Ev.neg a2 ?_
  have hr : inR r 1 4 = true := inR_iff.2 ⟨by omega, by omega⟩
  rw [hr, Bool.true_and]
  by_cases a3 : c < 1
  · exact Ev.pos a3 (Ev.cast (IsChallenge_j0t r c p e n) (by rw [inR_lo a3]; rfl))
  refine Ev.neg a3 ?_
  by_cases a4 : c > 4
  · exact Ev.pos a4 (Ev.cast (IsChallenge_j0t r c p e n) (by rw [inR_hi a4]; rfl))
  refine Ev.neg a4 ?_
  have hc : inR c 1 4 = true := inR_iff.2 ⟨by omega, by omega⟩
  rw [hc, Bool.true_and]
  by_cases a5 : (p.length : Int) < 1
  · exact Ev.pos a5 (Ev.cast (IsChallenge_j0t r c p e n) (by rw [inR_lo a5]; rfl))
  refine Ev.neg a5 ?_
  by_cases a6 : (p.length : Int) > 6
  · exact Ev.pos a6 (Ev.cast (IsChallenge_j0t r c p e n) (by rw [inR_hi a6]; rfl))
  refine Ev.neg a6 ?_
  have hp : inR (p.length : Int) 1 6 = true := inR_iff.2 ⟨by omega, by omega⟩
  rw [hp, Bool.true_and]
  by_cases a7 : (e.length : Int) < 1
  · exact Ev.pos a7 (Ev.cast (IsChallenge_j0t r c p e n) (by rw [inR_lo a7]; rfl))
  refine Ev.neg a7 ?_
  by_cases a8 : (e.length : Int) > 8
  · exact Ev.pos a8 (Ev.cast (IsChallenge_j0t r c p e n) (by rw [inR_hi a8]; rfl))
  refine Ev.neg a8 ?_
  have he : inR (e.length : Int) 1 8 = true := inR_iff.2 ⟨by omega, by omega⟩
  rw [he, Bool.true_and]
  by_cases h5 : n.length = e.length
  case neg =>
    have hb : ((n.length : Int) != (e.length : Int)) = true := by simp; omega
    rw [hb, decide_eq_false h5]
    exact IsChallenge_j0t r c p e n
  have hb : ((n.length : Int) != (e.length : Int)) = false := by simp [h5]
  rw [hb, decide_eq_true h5, Bool.true_and]
  refine Ev.succ ?_
  simp only [impl_IsChallenge.j0]
  refine Ev.neg (by simp) ?_
  exact IsChallenge_parts r c p e n hr hc hp he h5 p.length 0 (by omega)
theorem boardsTriedL_ev (r c : Int) (p : List S78) (e n : List Int) (hr : inR r 1 4 = true) (hc : inR c 1 4 = true) (hp : inR (p.length : Int) 1 6 = true) :
    ∀ (m i : Nat) (o : Int), (i : Int) + m = r * c → 1 ≤ o → pw ((p.length : Int) + 1) m o ≤ 7000 → Ev (fun k => impl_boardsTried.l0 k o i r c p e n) (pw ((p.length : Int) + 1) m o) := by
  have b := rc_bd hr hc
  rw [inR_iff] at hp
  intro m
  induction m with
  | zero =>
    intro i o hi h1 _
    refine Ev.succ ?_
    simp only [impl_boardsTried.l0]
    rw [w64 (x := r * c) (by omega) (by omega), pw]
    exact Ev.neg (by omega) (Ev.now _)
  | succ m ih =>
    intro i o hi h1 h2
    by_cases h : o ≤ 7000
    case neg => rw [pw_big _ _ _ h] at h2; omega
    rw [pw, if_pos h] at h2 ⊢
    refine Ev.succ ?_
    simp only [impl_boardsTried.l0]
    have b1 := mulb (show 0 ≤ o by omega) h (show 0 ≤ (p.length : Int) + 1 by omega) (show (p.length : Int) + 1 ≤ 7 by omega)
    have b2 : 1 * 1 ≤ o * ((p.length : Int) + 1) := Int.mul_le_mul h1 (by omega) (by omega) (by omega)
    rw [w64 (x := r * c) (by omega) (by omega), w64 (x := (p.length : Int) + 1) (by omega) (by omega), w64 (x := o * ((p.length : Int) + 1)) (by omega) (by omega), w64 (x := (i : Int) + 1) (by omega) (by omega)]
    exact Ev.pos (by omega) (ih (i + 1) _ (by omega) (by omega) h2)
theorem chGood_dims {r c : Int} {p : List S78} {e n : List Int} (h : chGood r c p e n = true) : inR r 1 4 = true ∧ inR c 1 4 = true ∧ inR (p.length : Int) 1 6 = true ∧ inR (e.length : Int) 1 8 = true ∧ n.length = e.length ∧ tried r c p.length ≤ 7000 ∧ (e.all (fun x => inR x 0 (c - 1)) = true) ∧ (n.all (fun x => inR x 0 (c + 1)) = true) ∧ partsFrom [] p = true := by
  unfold chGood chDims chRest at h
  simp only [Bool.and_eq_true, decide_eq_true_eq] at h
  obtain ⟨⟨h1, h2, h3, h4, h5⟩, h6, h7, h8, h9⟩ := h
  exact ⟨h1, h2, h3, h4, h5, h9, h7, h8, h6⟩
theorem boardsTried_ev {r c : Int} {p : List S78} {e n : List Int} (h : chGood r c p e n = true) : Ev (fun k => impl_boardsTried.f k r c p e n) (tried r c p.length) := by
  obtain ⟨hr, hc, hp, _, _, ht, _⟩ := chGood_dims h
  have b := rc_bd hr hc
  exact boardsTriedL_ev r c p e n hr hc hp (r * c).toNat 0 1 (by omega) (by omega) ht
theorem syTriedG_ev {r c : Int} {p : List S78} {e n : List Int} (h : chGood r c p e n = true) : Ev (fun k => spec_syTried.f k r c p e n) (tried r c p.length) := by
  obtain ⟨hr, hc, hp, _⟩ := chGood_dims h
  exact syTried_ev r c p e n hr hc hp
def flipped (c : S78) : S78 := ⟨c.f0, 1 - c.f1⟩
theorem good_state {c : S78} (h : goodCell c = true) : 0 ≤ c.f0 ∧ c.f0 ≤ 7 ∧ 0 ≤ c.f1 ∧ c.f1 ≤ 1 ∧ (c.f1 = 1 → c.f0 = 3 ∨ c.f0 = 6) := by
  unfold goodCell turning at h
  simp only [Bool.and_eq_true, Bool.or_eq_true, decide_eq_true_eq, inR_iff] at h
  omega
theorem paTurn_ok {c : S78} (h : goodCell c = true) : spec_paTurn.f c.f0 c.f1 = some ((flipped c).f0, (flipped c).f1) := by
  have := good_state h
  unfold spec_paTurn.f flipped
  rw [w64 (by omega) (by omega)]
def mirC (c : S78) : S78 := if c.f0 = 1 then ⟨2, c.f1⟩ else if c.f0 = 2 then ⟨1, c.f1⟩ else if c.f0 = 3 ∨ c.f0 = 6 then flipped c else c
theorem paMirror_ok {c : S78} (h : goodCell c = true) : spec_paMirror.f c.f0 c.f1 = some ((mirC c).f0, (mirC c).f1) := by
  have hs := good_state h
  unfold spec_paMirror.f mirC
  by_cases a1 : c.f0 = 1
  · rw [if_pos a1, if_pos a1, show c.f1 = 0 by omega]
  rw [if_neg a1, if_neg a1]
  by_cases a2 : c.f0 = 2
  · rw [if_pos a2, if_pos a2, show c.f1 = 0 by omega]
  rw [if_neg a2, if_neg a2]
  by_cases a3 : c.f0 = 3
  · rw [if_pos a3, if_pos (Or.inl a3), paTurn_ok h]; rfl
  rw [if_neg a3]
  by_cases a6 : c.f0 = 6
  · rw [if_pos a6, if_pos (Or.inr a6), paTurn_ok h]; rfl
  rw [if_neg a6, if_neg (show ¬ (c.f0 = 3 ∨ c.f0 = 6) by omega)]
theorem MirrorCell_ok {c : S78} (h : goodCell c = true) : impl_MirrorCell.f c.f0 c.f1 = some ((mirC c).f0, (mirC c).f1, true) := by
  have hs := good_state h
  unfold impl_MirrorCell.f mirC
  rw [IsCell_ok, Option.bind_some, if_pos h, w64 (x := 1 - c.f1) (by omega) (by omega)]
  by_cases a1 : c.f0 = 1
  · rw [if_pos a1, if_pos a1]
  rw [if_neg a1, if_neg a1]
  by_cases a2 : c.f0 = 2
  · rw [if_pos a2, if_pos a2]
  rw [if_neg a2, if_neg a2]
  by_cases a3 : c.f0 = 3
  · rw [if_pos a3, if_pos (Or.inl a3)]; rfl
  rw [if_neg a3]
  by_cases a6 : c.f0 = 6
  · rw [if_pos a6, if_pos (Or.inr a6)]; rfl
  rw [if_neg a6, if_neg (show ¬ (c.f0 = 3 ∨ c.f0 = 6) by omega)]
def chPlayed (r c : Int) (p : List S78) (e n : List Int) : Bool := chGood r c p e n && decide (tried r c p.length ≤ 2000)
theorem chGoodS_ev (r c : Int) (p : List S78) (e n : List Int) (hp : p.length ≤ 1048576) (he : e.length ≤ 1048576) (hn : n.length ≤ 1048576) : Ev (fun k => spec_chGood.f k r c p e n) (chPlayed r c p e n) := by
  unfold spec_chGood.f chPlayed
  refine Ev.bind (syGood_ev r c p e n hp he hn) ?_
  by_cases h : chGood r c p e n = true
  · rw [h, Bool.true_and]
    exact Ev.pos (by trivial) (Ev.bind (syTriedG_ev h) (Ev.now _))
  · exact Ev.neg h (Ev.ret (by rw [Bool.eq_false_iff.mpr h, Bool.false_and]))
theorem isPlayed_ev (r c : Int) (p : List S78) (e n : List Int) : Ev (fun k => impl_isPlayed.f k r c p e n) (chPlayed r c p e n) := by
  unfold impl_isPlayed.f chPlayed
  refine Ev.bind (IsChallenge_ev r c p e n) ?_
  by_cases h : chGood r c p e n = true
  · rw [h, Bool.true_and]
    exact Ev.pos (by trivial) (Ev.bind (boardsTried_ev h) (Ev.now _))
  · exact Ev.neg h (Ev.ret (by rw [Bool.eq_false_iff.mpr h, Bool.false_and]))
theorem partsFrom_good : ∀ (pre l : List S78), partsFrom pre l = true → ∀ c ∈ l, goodCell c = true ∧ c.f0 ≠ 0
  | _, [], _ => fun c hc => (List.not_mem_nil hc).elim
  | pre, p :: t, h => by
    rw [partsFrom] at h
    simp only [Bool.and_eq_true, Bool.not_eq_true', decide_eq_false_iff_not] at h
    intro c hc
    rcases List.mem_cons.1 hc with rfl | hc
    · exact ⟨h.1, h.2.1⟩
    · exact partsFrom_good _ t h.2.2.2 c hc
theorem played_of {r c : Int} {p : List S78} {e n : List Int} (h : chPlayed r c p e n = true) : chGood r c p e n = true ∧ tried r c p.length ≤ 2000 := by
  unfold chPlayed at h
  rw [Bool.and_eq_true, decide_eq_true_eq] at h
  exact h
theorem copyChallenge_ok (r c : Int) (p : List S78) (e n : List Int) (hp : p.length ≤ 1048576) (he : e.length ≤ 1048576) (hn : n.length ≤ 1048576) : impl_copyChallenge.f r c p e n = some (r, c, p, e, n) := by
  unfold impl_copyChallenge.f
  simp only [Option.bind_some]
  rw [if_pos (by simp; omega), if_pos (by simp; omega), if_pos (by simp; omega)]; rfl
def mirE (c x : Int) : Int := c - 1 - x
def mirN (c x : Int) : Int := if x < c then c - 1 - x else x
theorem map_snoc {α β : Type} (f : α → β) (l : List α) (i : Nat) (h : i < l.length) : (l.take i).map f ++ [f l[i]] = (l.take (i + 1)).map f := by
  rw [List.take_succ_eq_append_getElem h, List.map_append]; rfl
theorem map_set {α β : Type} (f : α → β) (g : α → β) (l : List α) (i : Nat) (h : i < l.length) : ((l.take i).map f ++ (l.drop i).map g).set i (f l[i]) = (l.take (i + 1)).map f ++ (l.drop (i + 1)).map g := by
  rw [List.drop_eq_getElem_cons h, List.map_cons, set_at _ _ _ _ _ (by rw [List.length_map, List.length_take]; omega), ← map_snoc f l i h, List.append_assoc]; rfl
theorem all_get {α : Type} {l : List α} {q : α → Bool} (h : l.all q = true) (i : Nat) (hi : i < l.length) : q l[i] = true := List.all_eq_true.1 h _ (List.getElem_mem hi)
theorem MirrorS_l2 (r c : Int) (p : List S78) (e n : List Int) (p' : List S78) (e' : List Int) (hc1 : 1 ≤ c) (hc2 : c ≤ 4) (hn : n.length ≤ 8) (hall : n.all (fun x => inR x 0 (c + 1)) = true) :
    ∀ (m i : Nat), i + m = n.length → Ev (fun k => spec_MirrorChallenge.l2 k n (n.length : Int) i r c p e n r c p' e' ((n.take i).map (mirN c))) (r, c, p', e', n.map (mirN c), true) := by
  intro m
  induction m with
  | zero =>
    intro i hi
    refine Ev.succ ?_
    simp only [spec_MirrorChallenge.l2]
    rw [List.take_of_length_le (by omega)]
    exact Ev.neg (by omega) (Ev.now _)
  | succ m ih =>
    intro i hi
    have hil : i < n.length := by omega
    have hb := inR_iff.1 (all_get hall i hil)
    have hs := map_snoc (mirN c) n i hil
    have hl : ((n.take i).map (mirN c)).length = i := by rw [List.length_map, List.length_take]; omega
    refine Ev.succ ?_
    simp only [spec_MirrorChallenge.l2]
    rw [rd_at n i hil, hl, w64 (x := c - 1) (by omega) (by omega), w64 (x := c - 1 - n[i]) (by omega) (by omega), w64 (x := (i : Int) + 1) (by omega) (by omega)]
    refine Ev.pos (by omega) (Ev.pos (by omega) (Ev.pos (by omega) ?_))
    by_cases h : n[i] < c
    · refine Ev.pos h (Ev.pos (by omega) ?_)
      rw [show mirN c n[i] = c - 1 - n[i] by unfold mirN; rw [if_pos h]] at hs
      rw [hs]
      exact ih (i + 1) (by omega)
    · refine Ev.neg h (Ev.pos (by omega) ?_)
      rw [show mirN c n[i] = n[i] by unfold mirN; rw [if_neg h]] at hs
      rw [hs]
      exact ih (i + 1) (by omega)
theorem MirrorS_l1 (r c : Int) (p : List S78) (e n : List Int) (p' : List S78) (hc1 : 1 ≤ c) (hc2 : c ≤ 4) (he : e.length ≤ 8) (hn : n.length ≤ 8) (hall0 : e.all (fun x => inR x 0 (c - 1)) = true) (hall : n.all (fun x => inR x 0 (c + 1)) = true) :
    ∀ (m i : Nat), i + m = e.length → Ev (fun k => spec_MirrorChallenge.l1 k e (e.length : Int) i r c p e n r c p' ((e.take i).map (mirE c))) (r, c, p', e.map (mirE c), n.map (mirN c), true) := by
  intro m
  induction m with
  | zero =>
    intro i hi
    refine Ev.succ ?_
    simp only [spec_MirrorChallenge.l1]
    rw [List.take_of_length_le (by omega)]
    exact Ev.neg (by omega) (MirrorS_l2 r c p e n p' _ hc1 hc2 hn hall n.length 0 (by omega))
  | succ m ih =>
    intro i hi
    have hil : i < e.length := by omega
    have hb := inR_iff.1 (all_get hall0 i hil)
    have hs := map_snoc (mirE c) e i hil
    have hl : ((e.take i).map (mirE c)).length = i := by rw [List.length_map, List.length_take]; omega
    refine Ev.succ ?_
    simp only [spec_MirrorChallenge.l1]
    rw [rd_at e i hil, hl, w64 (x := c - 1) (by omega) (by omega), w64 (x := c - 1 - e[i]) (by omega) (by omega), w64 (x := (i : Int) + 1) (by omega) (by omega)]
    refine Ev.pos (by omega) (Ev.pos (by omega) (Ev.pos (by omega) (Ev.pos (by omega) ?_)))
    rw [show mirE c e[i] = c - 1 - e[i] from rfl] at hs
    rw [hs]
    exact ih (i + 1) (by omega)
theorem MirrorS_l0 (r c : Int) (p : List S78) (e n : List Int) (hp : p.length ≤ 6) (hg : ∀ x ∈ p, goodCell x = true) (hc1 : 1 ≤ c) (hc2 : c ≤ 4) (he : e.length ≤ 8) (hn : n.length ≤ 8) (hall0 : e.all (fun x => inR x 0 (c - 1)) = true) (hall : n.all (fun x => inR x 0 (c + 1)) = true) :
    ∀ (m i : Nat), i + m = p.length → Ev (fun k => spec_MirrorChallenge.l0 k p (p.length : Int) i r c p e n r c ((p.take i).map mirC)) (r, c, p.map mirC, e.map (mirE c), n.map (mirN c), true) := by
  intro m
  induction m with
  | zero =>
    intro i hi
    refine Ev.succ ?_
    simp only [spec_MirrorChallenge.l0]
    rw [List.take_of_length_le (by omega)]
    exact Ev.neg (by omega) (MirrorS_l1 r c p e n _ hc1 hc2 he hn hall0 hall e.length 0 (by omega))
  | succ m ih =>
    intro i hi
    have hil : i < p.length := by omega
    have hs := map_snoc mirC p i hil
    have hl : ((p.take i).map mirC).length = i := by rw [List.length_map, List.length_take]; omega
    refine Ev.succ ?_
    simp only [spec_MirrorChallenge.l0]
    rw [rdC_at p i hil, hl, w64 (x := (i : Int) + 1) (by omega) (by omega)]
    refine Ev.pos (by omega) (Ev.pos (by omega) (Ev.pos (by omega) (Ev.bind (Ev.val (paMirror_ok (hg _ (List.getElem_mem hil)))) (Ev.pos (by omega) ?_))))
    rw [show (⟨(mirC p[i]).f0, (mirC p[i]).f1⟩ : S78) = mirC p[i] from rfl, hs]
    exact ih (i + 1) (by omega)
def mirAns (r c : Int) (p : List S78) (e n : List Int) : Int × Int × List S78 × List Int × List Int × Bool := if chPlayed r c p e n = true then (r, c, p.map mirC, e.map (mirE c), n.map (mirN c), true) else (0, 0, [], [], [], false)
theorem MirrorS_ev (r c : Int) (p : List S78) (e n : List Int) (hp : p.length ≤ 1048576) (he : e.length ≤ 1048576) (hn : n.length ≤ 1048576) : Ev (fun k => spec_MirrorChallenge.f k r c p e n) (mirAns r c p e n) := by
  unfold spec_MirrorChallenge.f mirAns
  refine Ev.bind (chGoodS_ev r c p e n hp he hn) (Ev.ite (fun h => ?_) (fun _ => Ev.now _))
  obtain ⟨hr, hc, hpl, hel, hnl, _, h1, h2, h3⟩ := chGood_dims (played_of h).1
  rw [inR_iff] at hr hc hpl hel
  exact MirrorS_l0 r c p e n (by omega) (fun x hx => (partsFrom_good _ _ h3 x hx).1) hc.1 hc.2 (by omega) (by omega) h1 h2 p.length 0 (by omega)
theorem MirrorI_l1 (r c : Int) (p : List S78) (e n : List Int) (p' : List S78) (hc1 : 1 ≤ c) (hc2 : c ≤ 4) (he : e.length ≤ 8) (hn : n.length = e.length) (hall0 : e.all (fun x => inR x 0 (c - 1)) = true) (hall : n.all (fun x => inR x 0 (c + 1)) = true) :
    ∀ (m i : Nat), i + m = e.length → Ev (fun k => impl_MirrorChallenge.l1 k (e.length : Int) i r c p e n r c p' ((e.take i).map (mirE c) ++ (e.drop i).map id) ((n.take i).map (mirN c) ++ (n.drop i).map id)) (r, c, p', e.map (mirE c), n.map (mirN c), true) := by
  intro m
  induction m with
  | zero =>
    intro i hi
    refine Ev.succ ?_
    simp only [impl_MirrorChallenge.l1]
    refine Ev.neg (by omega) (Ev.ret ?_)
    rw [List.take_of_length_le (show e.length ≤ i by omega), List.take_of_length_le (show n.length ≤ i by omega), List.drop_eq_nil_of_le (show e.length ≤ i by omega), List.drop_eq_nil_of_le (show n.length ≤ i by omega), List.map_nil, List.append_nil, List.append_nil]
  | succ m ih =>
    intro i hi
    have hil : i < e.length := by omega
    have hin : i < n.length := by omega
    have hb := inR_iff.1 (all_get hall0 i hil)
    have hb2 := inR_iff.1 (all_get hall i hin)
    have hs := map_set (mirE c) id e i hil
    have hs2 := map_set (mirN c) id n i hin
    have hl : ((e.take i).map (mirE c) ++ (e.drop i).map id).length = e.length := by rw [List.length_append, List.length_map, List.length_map, List.length_take, List.length_drop]; omega
    have hl2 : ((n.take i).map (mirN c) ++ (n.drop i).map id).length = n.length := by rw [List.length_append, List.length_map, List.length_map, List.length_take, List.length_drop]; omega
    refine Ev.succ ?_
    simp only [impl_MirrorChallenge.l1]
    rw [rd_at e i hil, rd_at n i hin, hl, hl2, w64 (x := c - 1) (by omega) (by omega), w64 (x := c - 1 - e[i]) (by omega) (by omega), w64 (x := c - 1 - n[i]) (by omega) (by omega), w64 (x := (i : Int) + 1) (by omega) (by omega), Int.toNat_natCast]
    refine Ev.pos (by omega) (Ev.pos (by omega) (Ev.pos (by omega) (Ev.pos (by omega) (Ev.bind (Ev.now _) (Ev.pos (by omega) ?_)))))
    rw [show mirE c e[i] = c - 1 - e[i] from rfl] at hs
    rw [hs]
    by_cases h : n[i] < c
    · refine Ev.pos h (Ev.pos (by omega) ?_)
      rw [show mirN c n[i] = c - 1 - n[i] by unfold mirN; rw [if_pos h]] at hs2
      rw [hs2]
      exact ih (i + 1) (by omega)
    · refine Ev.neg h ?_
      rw [show mirN c n[i] = n[i] by unfold mirN; rw [if_neg h]] at hs2
      have e2 : ((n.take i).map (mirN c) ++ (n.drop i).map id).set i n[i] = (n.take i).map (mirN c) ++ (n.drop i).map id := by
        rw [List.drop_eq_getElem_cons hin, List.map_cons, set_at _ _ _ _ _ (by rw [List.length_map, List.length_take]; omega)]; rfl
      rw [e2] at hs2
      rw [hs2]
      exact ih (i + 1) (by omega)
theorem MirrorI_l0 (r c : Int) (p : List S78) (e n : List Int) (hp : p.length ≤ 6) (hg : ∀ x ∈ p, goodCell x = true) (hc1 : 1 ≤ c) (hc2 : c ≤ 4) (he : e.length ≤ 8) (hn : n.length = e.length) (hall0 : e.all (fun x => inR x 0 (c - 1)) = true) (hall : n.all (fun x => inR x 0 (c + 1)) = true) :
    ∀ (m i : Nat), i + m = p.length → Ev (fun k => impl_MirrorChallenge.l0 k p (p.length : Int) i r c p e n r c ((p.take i).map mirC ++ (p.drop i).map id) e n) (r, c, p.map mirC, e.map (mirE c), n.map (mirN c), true) := by
  intro m
  induction m with
  | zero =>
    intro i hi
    refine Ev.succ ?_
    simp only [impl_MirrorChallenge.l0]
    rw [List.take_of_length_le (by omega), List.drop_eq_nil_of_le (show p.length ≤ i by omega), List.map_nil, List.append_nil]
    have := MirrorI_l1 r c p e n (p.map mirC) hc1 hc2 he hn hall0 hall e.length 0 (by omega)
    rw [List.take_zero, List.take_zero, List.drop_zero, List.drop_zero, List.map_nil, List.map_nil, List.nil_append, List.nil_append, List.map_id, List.map_id] at this
    exact Ev.neg (by omega) this
  | succ m ih =>
    intro i hi
    have hil : i < p.length := by omega
    have hs := map_set mirC id p i hil
    have hl : ((p.take i).map mirC ++ (p.drop i).map id).length = p.length := by rw [List.length_append, List.length_map, List.length_map, List.length_take, List.length_drop]; omega
    refine Ev.succ ?_
    simp only [impl_MirrorChallenge.l0]
    rw [rdC_at p i hil, hl, w64 (x := (i : Int) + 1) (by omega) (by omega), Int.toNat_natCast]
    refine Ev.pos (by omega) (Ev.pos (by omega) (Ev.pos (by omega) (Ev.bind (Ev.val (MirrorCell_ok (hg _ (List.getElem_mem hil)))) (Ev.pos (by omega) ?_))))
    rw [show (⟨(mirC p[i]).f0, (mirC p[i]).f1⟩ : S78) = mirC p[i] from rfl, hs]
    exact ih (i + 1) (by omega)
theorem MirrorI_ev (r c : Int) (p : List S78) (e n : List Int) : Ev (fun k => impl_MirrorChallenge.f k r c p e n) (mirAns r c p e n) := by
  unfold impl_MirrorChallenge.f mirAns
  refine Ev.bind (isPlayed_ev r c p e n) (Ev.ite (fun h => ?_) (fun _ => Ev.now _))
  obtain ⟨hr, hc, hpl, hel, hnl, _, h1, h2, h3⟩ := chGood_dims (played_of h).1
  rw [inR_iff] at hr hc hpl hel
  refine Ev.bind (Ev.val (copyChallenge_ok r c p e n (by omega) (by omega) (by omega))) ?_
  have := MirrorI_l0 r c p e n (by omega) (fun x hx => (partsFrom_good _ _ h3 x hx).1) hc.1 hc.2 (by omega) hnl h1 h2 p.length 0 (by omega)
  rw [List.take_zero, List.drop_zero, List.map_nil, List.nil_append, List.map_id] at this
  exact this
theorem mirAns_len (r c : Int) (p : List S78) (e n : List Int) : (mirAns r c p e n).2.2.1.length ≤ p.length ∧ (mirAns r c p e n).2.2.2.1.length ≤ e.length ∧ (mirAns r c p e n).2.2.2.2.1.length ≤ n.length := by
  unfold mirAns
  split <;> simp
def mkI : Nat → Int → List Int
  | 0, _ => []
  | n + 1, k => k :: mkI n (k + 1)
def mkC : Nat → Int → List S78
  | 0, _ => []
  | n + 1, k => ⟨k, k + 1⟩ :: mkC n (k + 2)
theorem mkI_len : ∀ (n : Nat) (k : Int), (mkI n k).length = n
  | 0, _ => rfl
  | n + 1, k => by rw [mkI, List.length_cons, mkI_len n]
theorem mkC_len : ∀ (n : Nat) (k : Int), (mkC n k).length = n
  | 0, _ => rfl
  | n + 1, k => by rw [mkC, List.length_cons, mkC_len n]
theorem markIL_ev : ∀ (m : Nat) (pre l : List Int) (k : Int), l.length = m → pre.length + m ≤ 4294967296 → 0 ≤ k → k + m ≤ 4294967296 → Ev (fun r => laws_markIntS.l0 r (pre ++ l) k (pre.length : Int)) (k + m, pre ++ mkI m k) := by
  intro m
  induction m with
  | zero =>
    intro pre l k hl h1 h2 h3
    obtain rfl := List.eq_nil_of_length_eq_zero hl
    refine Ev.succ ?_
    simp only [laws_markIntS.l0]
    rw [List.append_nil]
    exact Ev.neg (by omega) (Ev.ret (by simp [mkI]))
  | succ m ih =>
    intro pre l k hl h1 h2 h3
    cases l with
    | nil => simp at hl
    | cons x l =>
      simp only [List.length_cons] at hl
      refine Ev.succ ?_
      simp only [laws_markIntS.l0]
      refine Ev.pos (by simp; omega) (Ev.pos (by omega) ?_)
      rw [Int.toNat_natCast, set_at _ _ _ _ _ rfl, w64 (x := k + 1) (by omega) (by omega), w64 (x := (pre.length : Int) + 1) (by omega) (by omega)]
      have e := ih (pre ++ [k]) l (k + 1) (by omega) (by simp; omega) (by omega) (by omega)
      rw [List.append_assoc, List.length_append] at e
      have e2 : (((pre.length + [k].length : Nat)) : Int) = (pre.length : Int) + 1 := by simp
      rw [e2] at e
      refine Ev.cast e ?_
      rw [mkI, List.append_assoc]
      refine Prod.ext ?_ rfl
      simp
      omega
theorem markIntS_ev (l : List Int) (k : Int) (h1 : l.length ≤ 2147483648) (h2 : 0 ≤ k) (h3 : k ≤ 2147483648) : Ev (fun r => laws_markIntS.f r l k) (k + l.length, mkI l.length k) := by
  have := markIL_ev l.length [] l k rfl (by simp; omega) h2 (by omega)
  exact this
theorem heldIL_ev : ∀ (m : Nat) (pre : List Int) (k : Int), pre.length + m ≤ 4294967296 → 0 ≤ k → k + m ≤ 4294967296 → Ev (fun r => laws_heldIntS.l0 r (pre ++ mkI m k) k (pre.length : Int)) (k + m) := by
  intro m
  induction m with
  | zero =>
    intro pre k h1 h2 h3
    refine Ev.succ ?_
    simp only [laws_heldIntS.l0, mkI]
    exact Ev.neg (by simp) (Ev.ret (by simp))
  | succ m ih =>
    intro pre k h1 h2 h3
    refine Ev.succ ?_
    simp only [laws_heldIntS.l0]
    have hr : rd (pre ++ mkI (m + 1) k) (pre.length : Int) = k := by
      rw [rd_at _ _ (by rw [List.length_append, mkI_len]; omega), List.getElem_append_right (Nat.le_refl _)]
      simp [mkI]
    rw [hr, w64 (x := k + 1) (by omega) (by omega), w64 (x := (pre.length : Int) + 1) (by omega) (by omega)]
    refine Ev.pos (by rw [List.length_append, mkI_len]; omega) (Ev.pos (by omega) (Ev.pos rfl ?_))
    have e := ih (pre ++ [k]) (k + 1) (by simp; omega) (by omega) (by omega)
    rw [List.append_assoc, List.length_append] at e
    have e2 : (((pre.length + [k].length : Nat)) : Int) = (pre.length : Int) + 1 := by simp
    rw [e2] at e
    exact Ev.cast e (by omega)
theorem heldIntS_ev (n : Nat) (k : Int) (h1 : n ≤ 2147483648) (h2 : 0 ≤ k) (h3 : k ≤ 2147483648) : Ev (fun r => laws_heldIntS.f r (mkI n k) k) (k + n) := by
  have := heldIL_ev n [] k (by simp; omega) h2 (by omega)
  exact this
theorem markCL_ev : ∀ (m : Nat) (pre l : List S78) (k : Int), l.length = m → pre.length + m ≤ 4294967296 → 0 ≤ k → k + 2 * m ≤ 4294967296 → Ev (fun r => laws_markCellS.l0 r (pre ++ l) k (pre.length : Int)) (k + 2 * m, pre ++ mkC m k) := by
  intro m
  induction m with
  | zero =>
    intro pre l k hl h1 h2 h3
    obtain rfl := List.eq_nil_of_length_eq_zero hl
    refine Ev.succ ?_
    simp only [laws_markCellS.l0]
    rw [List.append_nil]
    exact Ev.neg (by omega) (Ev.ret (by simp [mkC]))
  | succ m ih =>
    intro pre l k hl h1 h2 h3
    cases l with
    | nil => simp at hl
    | cons x l =>
      simp only [List.length_cons] at hl
      refine Ev.succ ?_
      simp only [laws_markCellS.l0]
      refine Ev.pos (by simp; omega) (Ev.pos (by omega) (Ev.bind (Ev.now _) ?_))
      rw [Int.toNat_natCast, set_at _ _ _ _ _ rfl, set_at _ _ _ _ _ rfl, w64 (x := k + 1) (by omega) (by omega), w64 (x := k + 1 + 1) (by omega) (by omega), w64 (x := (pre.length : Int) + 1) (by omega) (by omega)]
      have hr : (rd_T78 (pre ++ (⟨k, (rd_T78 (pre ++ x :: l) (pre.length : Int)).f1⟩ : S78) :: l) (pre.length : Int)).f0 = k := by
        rw [rdC_at _ _ (by simp), List.getElem_append_right (Nat.le_refl _)]
        simp
      rw [hr]
      have e := ih (pre ++ [⟨k, k + 1⟩]) l (k + 2) (by omega) (by simp; omega) (by omega) (by omega)
      rw [List.append_assoc, List.length_append] at e
      have e2 : (((pre.length + [(⟨k, k + 1⟩ : S78)].length : Nat)) : Int) = (pre.length : Int) + 1 := by simp
      rw [e2] at e
      have e3 : k + 1 + 1 = k + 2 := by omega
      rw [e3]
      refine Ev.cast e ?_
      rw [mkC, List.append_assoc]
      refine Prod.ext ?_ rfl
      simp
      omega
theorem markCellS_ev (l : List S78) (k : Int) (h1 : l.length ≤ 1073741824) (h2 : 0 ≤ k) (h3 : k ≤ 2147483648) : Ev (fun r => laws_markCellS.f r l k) (k + 2 * l.length, mkC l.length k) := by
  have := markCL_ev l.length [] l k rfl (by simp; omega) h2 (by omega)
  exact this
theorem heldCL_ev : ∀ (m : Nat) (pre : List S78) (k : Int), pre.length + m ≤ 4294967296 → 0 ≤ k → k + 2 * m ≤ 4294967296 → Ev (fun r => laws_heldCellS.l0 r (pre ++ mkC m k) k (pre.length : Int)) (k + 2 * m) := by
  intro m
  induction m with
  | zero =>
    intro pre k h1 h2 h3
    refine Ev.succ ?_
    simp only [laws_heldCellS.l0, mkC]
    exact Ev.neg (by simp) (Ev.ret (by simp))
  | succ m ih =>
    intro pre k h1 h2 h3
    refine Ev.succ ?_
    simp only [laws_heldCellS.l0]
    have hr : rd_T78 (pre ++ mkC (m + 1) k) (pre.length : Int) = ⟨k, k + 1⟩ := by
      rw [rdC_at _ _ (by rw [List.length_append, mkC_len]; omega), List.getElem_append_right (Nat.le_refl _)]
      simp [mkC]
    rw [hr, w64 (x := k + 1) (by omega) (by omega), w64 (x := k + 1 + 1) (by omega) (by omega), w64 (x := (pre.length : Int) + 1) (by omega) (by omega)]
    refine Ev.pos (by rw [List.length_append, mkC_len]; omega) (Ev.pos (by omega) (Ev.pos rfl (Ev.pos rfl ?_)))
    have e := ih (pre ++ [⟨k, k + 1⟩]) (k + 2) (by simp; omega) (by omega) (by omega)
    rw [List.append_assoc, List.length_append] at e
    have e2 : (((pre.length + [(⟨k, k + 1⟩ : S78)].length : Nat)) : Int) = (pre.length : Int) + 1 := by simp
    rw [e2] at e
    have e3 : k + 1 + 1 = k + 2 := by omega
    rw [e3]
    exact Ev.cast e (by omega)
theorem heldCellS_ev (n : Nat) (k : Int) (h1 : n ≤ 1073741824) (h2 : 0 ≤ k) (h3 : k ≤ 2147483648) : Ev (fun r => laws_heldCellS.f r (mkC n k) k) (k + 2 * n) := by
  have := heldCL_ev n [] k (by simp; omega) h2 (by omega)
  exact this
theorem markChallenge_ev (R C : Int) (p : List S78) (e n : List Int) (hp : p.length ≤ 1048576) (he : e.length ≤ 1048576) (hn : n.length ≤ 1048576) :
    Ev (fun k => laws_markChallenge.f k R C p e n 1) (1 + 2 * p.length + e.length + n.length, mkC p.length 1, mkI e.length (1 + 2 * p.length), mkI n.length (1 + 2 * p.length + e.length)) := by
  unfold laws_markChallenge.f
  exact Ev.bind (markCellS_ev p 1 (by omega) (by omega) (by omega)) (Ev.bind (markIntS_ev e _ (by omega) (by omega) (by omega)) (Ev.bind (markIntS_ev n _ (by omega) (by omega) (by omega)) (Ev.now _)))
theorem heldChallenge_ev (R C : Int) (a b c : Nat) (hp : a ≤ 1048576) (he : b ≤ 1048576) (hn : c ≤ 1048576) :
    Ev (fun k => laws_heldChallenge.f k R C (mkC a 1) (mkI b (1 + 2 * a)) (mkI c (1 + 2 * a + b)) 1) (1 + 2 * a + b + c) := by
  unfold laws_heldChallenge.f
  refine Ev.bind (heldCellS_ev a 1 (by omega) (by omega) (by omega)) (Ev.neg (by omega) (Ev.bind (heldIntS_ev b _ (by omega) (by omega) (by omega)) (Ev.neg (by omega) (Ev.bind (heldIntS_ev c _ (by omega) (by omega) (by omega)) (Ev.neg (by omega) (Ev.now _))))))
theorem szChallenge_ok (r c : Int) (p : List S112) (e n : List Int) (hp : p.length ≤ maxLen) (he : e.length ≤ maxLen) (hn : n.length ≤ maxLen) :
    (∃ t, laws_szChallenge.f r c p e n 1048576 = some t ∧ t < 0) ∨ (p.length ≤ 1048576 ∧ e.length ≤ 1048576 ∧ n.length ≤ 1048576 ∧ ∃ t, laws_szChallenge.f r c p e n 1048576 = some t ∧ ¬ t < 0) := by
  have hm : maxLen = 9223372036854775807 := by decide
  unfold laws_szChallenge.f laws_szCellS.f laws_szIntS.f
  rw [w64 (x := 1048576 - (p.length : Int)) (by omega) (by omega)]
  by_cases h1 : (1048576 : Int) - (p.length : Int) < 0
  · left
    rw [if_pos h1, Option.bind_some, if_pos (by omega)]
    exact ⟨_, rfl, by omega⟩
  rw [if_neg h1, Option.bind_some, if_neg h1, w64 (x := 1048576 - (p.length : Int) - (e.length : Int)) (by omega) (by omega)]
  by_cases h2 : (1048576 : Int) - (p.length : Int) - (e.length : Int) < 0
  · left
    rw [if_pos h2, Option.bind_some, if_pos (by omega)]
    exact ⟨_, rfl, by omega⟩
  rw [if_neg h2, Option.bind_some, if_neg h2, w64 (x := 1048576 - (p.length : Int) - (e.length : Int) - (n.length : Int)) (by omega) (by omega)]
  by_cases h3 : (1048576 : Int) - (p.length : Int) - (e.length : Int) - (n.length : Int) < 0
  · left
    rw [if_pos h3, Option.bind_some, if_pos (by omega)]
    exact ⟨_, rfl, by omega⟩
  right
  rw [if_neg h3, Option.bind_some, if_neg h3]
  exact ⟨by omega, by omega, by omega, _, rfl, h3⟩
theorem toChallenge_ev (r c : Int) (p : List S112) (e n : List Int) (hp : p.length ≤ 1048576) (he : e.length ≤ 1048576) (hn : n.length ≤ 1048576) : Ev (fun k => laws_toChallenge.f k r c p e n) (r, c, p.map cv, e, n) := by
  unfold laws_toChallenge.f
  exact Ev.bind (toCellS_ev p (by omega)) (Ev.bind (toIntS_ev e (by omega)) (Ev.bind (toIntS_ev n (by omega)) (Ev.now _)))
theorem eqChallenge_ev (r c r' c' : Int) (p p' : List S78) (e n e' n' : List Int) (hp : p.length ≤ 1048576) (he : e.length ≤ 1048576) (hn : n.length ≤ 1048576) :
    Ev (fun k => laws_eqChallenge.f k r c p e n r' c' p' e' n') (decide (r = r' ∧ c = c' ∧ p = p' ∧ e = e' ∧ n = n')) := by
  unfold laws_eqChallenge.f
  by_cases h1 : r = r'
  case neg => exact Ev.neg h1 (Ev.ret (by simp [h1]))
  refine Ev.pos h1 ?_
  by_cases h2 : c = c'
  case neg => exact Ev.neg h2 (Ev.ret (by simp [h2]))
  refine Ev.pos h2 (Ev.bind (eqCellS_ev p p' (by omega)) ?_)
  by_cases h3 : p = p'
  case neg => exact Ev.neg (by simp [h3]) (Ev.ret (by simp [h3]))
  refine Ev.pos (by simp [h3]) (Ev.bind (eqIntS_ev e e' (by omega)) ?_)
  by_cases h4 : e = e'
  case neg => exact Ev.neg (by simp [h4]) (Ev.ret (by simp [h4]))
  refine Ev.pos (by simp [h4]) (Ev.bind (eqIntS_ev n n' (by omega)) ?_)
  by_cases h5 : n = n'
  case neg => exact Ev.neg (by simp [h5]) (Ev.ret (by simp [h5]))
  exact Ev.pos (by simp [h5]) (Ev.ret (by simp [h1, h2, h3, h4, h5]))
theorem FnExactMirrorChallenge : StmtFnExactMirrorChallenge.Stmt := by
  intro r c p e n _ _ hp he hn
  refine Ev.rounds ?_
  unfold laws_FnExactMirrorChallenge.f
  rcases szChallenge_ok r c p e n hp.2 he.2 hn.2 with ⟨t, h, ht⟩ | ⟨hp, he, hn, t, h, ht⟩
  · exact Ev.bind (Ev.val h) (Ev.pos ht (Ev.now _))
  have hpm : (p.map cv).length ≤ 1048576 := by simp; omega
  have hto := toChallenge_ev r c p e n hp he hn
  have hl := mirAns_len r c (p.map cv) e n
  generalize hA : mirAns r c (p.map cv) e n = A at hl
  have hS := MirrorS_ev r c (p.map cv) e n hpm he hn
  have hI := MirrorI_ev r c (p.map cv) e n
  rw [hA] at hS hI
  have l1 : A.2.2.1.length ≤ 1048576 := by omega
  have l2 : A.2.2.2.1.length ≤ 1048576 := by omega
  have l3 : A.2.2.2.2.1.length ≤ 1048576 := by omega
  have heq : Ev (fun k => laws_eqChallenge.f k A.1 A.2.1 A.2.2.1 A.2.2.2.1 A.2.2.2.2.1 A.1 A.2.1 A.2.2.1 A.2.2.2.1 A.2.2.2.2.1) true := Ev.cast (eqChallenge_ev _ _ _ _ _ _ _ _ _ _ l1 l2 l3) (by simp)
  refine Ev.bind (Ev.val h) (Ev.neg ht (Ev.bind hto (Ev.bind hS (Ev.bind hto (Ev.bind hI (Ev.bind heq (Ev.pos rfl ?_)))))))
  refine Ev.succ ?_
  simp only [laws_FnExactMirrorChallenge.j0]
  refine Ev.neg (by simp) (Ev.bind hto (Ev.bind (eqChallenge_ev _ _ _ _ _ _ _ _ _ _ hpm he hn) (Ev.pos (by simp) ?_)))
  refine Ev.bind (markChallenge_ev _ _ _ _ _ hpm he hn) (Ev.neg (by omega) (Ev.bind heq (Ev.pos rfl (Ev.succ ?_))))
  simp only [laws_FnExactMirrorChallenge.j1]
  have hh := heldChallenge_ev A.1 A.2.1 A.2.2.1.length A.2.2.2.1.length A.2.2.2.2.1.length l1 l2 l3
  refine Ev.neg (by simp) (Ev.bind (markChallenge_ev _ _ _ _ _ l1 l2 l3) (Ev.bind hh (Ev.neg (by omega) (Ev.pos rfl ?_))))
  refine Ev.bind hto (Ev.bind hI (Ev.bind heq (Ev.pos rfl (Ev.succ ?_))))
  simp only [laws_FnExactMirrorChallenge.j2]
  exact Ev.neg (by simp) (Ev.bind hh (Ev.neg (by omega) (Ev.pos rfl (Ev.now _))))
end Go.Proofs.Ytjogiiobaakjkaa.Pure
