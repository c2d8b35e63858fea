/- Proved: the pure statement of FnExactChallengeByKey, over numbers and lists; the lemmas on the printed functions that it takes. No further conditions. -/
import Derived.Test.YtjogiiobaakjkaaStmtFnExactChallengeByKey
import Derived.Test.YtjogiiobaakjkaaF2
import Derived.Test.YtjogiiobaakjkaaF3
import Derived.Test.YtjogiiobaakjkaaF5
import Derived.Test.YtjogiiobaakjkaaF6
import Derived.Test.YtjogiiobaakjkaaF7
import Derived.Test.YtjogiiobaakjkaaF8
import Derived.Test.YtjogiiobaakjkaaF9
import Derived.Test.YtjogiiobaakjkaaF11
import Derived.Test.YtjogiiobaakjkaaF13
import Derived.Test.YtjogiiobaakjkaaF15
import Derived.Test.YtjogiiobaakjkaaF17
import Derived.Test.YtjogiiobaakjkaaF18
import Derived.Test.YtjogiiobaakjkaaF22
import Derived.Test.YtjogiiobaakjkaaF24
import Derived.Test.YtjogiiobaakjkaaF26
import Derived.Test.YtjogiiobaakjkaaF36
import Derived.Test.YtjogiiobaakjkaaF37
namespace Go.Proofs.Ytjogiiobaakjkaa.Pure
open Go.RowKit Go.Proofs.Ytjogiiobaakjkaa.F Go.Proofs.YtjogiiobaakjkaaV.PrintWords Go.Proofs.YtjogiiobaakjkaaV.PrintLast Go.Proofs.Ytjogiiobaakjkaa
set_option linter.unusedVariables false

theorem Ev.succ {α : Type} {g : Nat → Option α} {r : α} (h : Ev (fun k => g (k + 1)) r) : Ev g r := Ev.step (fun _ => rfl) h
theorem Ev.pos {α : Type} {c : Prop} [Decidable c] {f g : Nat → Option α} {r : α} (hc : c) (h : Ev f r) : Ev (fun k => if c then f k else g k) r := Ev.congr (fun _ => if_pos hc) h
theorem Ev.neg {α : Type} {c : Prop} [Decidable c] {f g : Nat → Option α} {r : α} (hc : ¬ c) (h : Ev g r) : Ev (fun k => if c then f k else g k) r := Ev.congr (fun _ => if_neg hc) h
theorem Ev.ite {α : Type} {c : Prop} [Decidable c] {f g : Nat → Option α} {r s : α} (h : c → Ev f r) (h' : ¬ c → Ev g s) : Ev (fun k => if c then f k else g k) (if c then r else s) := by
  by_cases hc : c
  · rw [if_pos hc]; exact Ev.pos hc (h hc)
  · rw [if_neg hc]; exact Ev.neg hc (h' hc)
theorem Ev.ret {α : Type} {r s : α} (h : s = r) : Ev (fun _ => some s) r := by subst h; exact Ev.now _
theorem Ev.val {α : Type} {o : Option α} {r : α} (h : o = some r) : Ev (fun _ => o) r := ⟨0, fun _ _ => h⟩
theorem Ev.cast {α : Type} {g : Nat → Option α} {r s : α} (h : Ev g s) (e : s = r) : Ev g r := e ▸ h
theorem w64 {x : Int} (h : -9223372036854775808 ≤ x) (h' : x ≤ 9223372036854775807) : wrap64 x = x := by unfold wrap64; omega
theorem rd_at (l : List Int) (i : Nat) (h : i < l.length) : rd l (i : Int) = l[i] := by
  unfold rd
  rw [Int.toNat_natCast, List.getD_eq_getElem?_getD, List.getElem?_eq_getElem h]; rfl
theorem rdC_at (l : List S78) (i : Nat) (h : i < l.length) : rd_T78 l (i : Int) = l[i] := by
  unfold rd_T78
  rw [Int.toNat_natCast, List.getD_eq_getElem?_getD, List.getElem?_eq_getElem h]; rfl
def inR (x lo hi : Int) : Bool := decide (lo ≤ x) && decide (x ≤ hi)
theorem inR_iff {x lo hi : Int} : inR x lo hi = true ↔ lo ≤ x ∧ x ≤ hi := by unfold inR; simp
theorem l1In_ok (x lo hi : Int) : spec_l1In.f x lo hi = some (inR x lo hi) := by
  unfold spec_l1In.f inR
  by_cases h : lo ≤ x
  · rw [if_pos (by omega)]; simp [h]
  · rw [if_neg (by omega)]; simp [h]
def turning (c : S78) : Bool := decide (c.f0 = 3) || decide (c.f0 = 6)
def goodCell (c : S78) : Bool := inR c.f0 0 7 && (decide (c.f1 = 0) || (decide (c.f1 = 1) && turning c))
theorem IsCell_ok (c : S78) : impl_IsCell.f c.f0 c.f1 = some (goodCell c) := by
  unfold impl_IsCell.f goodCell turning inR
  by_cases h1 : c.f0 < 0
  · rw [if_pos h1, decide_eq_false (show ¬ 0 ≤ c.f0 by omega)]; rfl
  rw [if_neg h1, decide_eq_true (show 0 ≤ c.f0 by omega)]
  by_cases h2 : c.f0 > 7
  · rw [if_pos h2, decide_eq_false (show ¬ c.f0 ≤ 7 by omega)]; rfl
  rw [if_neg h2, decide_eq_true (show c.f0 ≤ 7 by omega)]
  by_cases h3 : c.f1 = 0
  · rw [if_neg (by omega), if_neg (by omega), if_pos h3, decide_eq_true h3]; rfl
  rw [decide_eq_false h3]
  by_cases h4 : c.f1 = 1
  · rw [if_neg (by omega), if_neg (by omega), if_neg h3, decide_eq_true h4]
    by_cases h5 : c.f0 = 3
    · rw [if_pos h5, decide_eq_true h5]; rfl
    · rw [if_neg h5, decide_eq_false h5]; rfl
  rw [decide_eq_false h4]
  by_cases h6 : c.f1 < 0
  · rw [if_pos h6]; rfl
  · rw [if_neg h6, if_pos (by omega)]; rfl
theorem cell_eq_iff (a b : S78) : (a.f0 == b.f0 && (a.f1 == b.f1)) = true ↔ a = b := by
  cases a; cases b; simp
instance : DecidableEq S78 := fun a b => if h : (a.f0 == b.f0 && (a.f1 == b.f1)) = true then isTrue ((cell_eq_iff a b).1 h) else isFalse fun e => h ((cell_eq_iff a b).2 e)
theorem eqIntS_ev (a b : List Int) (ha : a.length ≤ 4611686018427387904) : Ev (fun k => laws_eqIntS.f k a b) (decide (a = b)) := by
  have key : ∀ (n i : Nat), a.length = b.length → i + n = a.length → Ev (fun k => laws_eqIntS.l0 k a b i) (decide (a.drop i = b.drop i)) := by
    intro n
    induction n with
    | zero =>
      intro i hl hi
      refine Ev.succ ?_
      simp only [laws_eqIntS.l0]
      refine Ev.neg (by omega) (Ev.ret ?_)
      rw [List.drop_eq_nil_of_le (by omega), List.drop_eq_nil_of_le (by omega)]; simp
    | succ n ih =>
      intro i hl hi
      refine Ev.succ ?_
      simp only [laws_eqIntS.l0]
      refine Ev.pos (by omega) (Ev.pos (by omega) (Ev.pos (by omega) ?_))
      rw [rd_at a i (by omega), rd_at b i (by omega), w64 (by omega) (by omega)]
      have e := ih (i + 1) hl (by omega)
      rw [List.drop_eq_getElem_cons (show i < a.length by omega), List.drop_eq_getElem_cons (show i < b.length by omega)]
      by_cases hc : a[i] = b[i]
      · refine Ev.pos hc (Ev.cast e ?_)
        rw [hc]
        simp only [List.cons.injEq, true_and]
      · exact Ev.neg hc (Ev.ret (by simp only [List.cons.injEq, hc, false_and, decide_false]))
  show Ev (fun k => if (a.length : Int) = (b.length : Int) then laws_eqIntS.l0 k a b 0 else some false) _
  by_cases hl : a.length = b.length
  · exact Ev.pos (by omega) (key a.length 0 hl (by omega))
  · refine Ev.neg (by omega) (Ev.ret ?_)
    have : a ≠ b := fun h => hl (by rw [h])
    simp [this]
theorem set_at {α : Type} (p q : List α) (x y : α) (i : Nat) (hi : p.length = i) : (p ++ x :: q).set i y = p ++ y :: q := by
  subst hi; simp
theorem eqCellS_ev (a b : List S78) (ha : a.length ≤ 4611686018427387904) : Ev (fun k => laws_eqCellS.f k a b) (decide (a = b)) := by
  have key : ∀ (n i : Nat), a.length = b.length → i + n = a.length → Ev (fun k => laws_eqCellS.l0 k a b i) (decide (a.drop i = b.drop i)) := by
    intro n
    induction n with
    | zero =>
      intro i hl hi
      refine Ev.succ ?_
      simp only [laws_eqCellS.l0]
      refine Ev.neg (by omega) (Ev.ret ?_)
      rw [List.drop_eq_nil_of_le (by omega), List.drop_eq_nil_of_le (by omega)]; simp
    | succ n ih =>
      intro i hl hi
      refine Ev.succ ?_
      simp only [laws_eqCellS.l0]
      refine Ev.pos (by omega) (Ev.pos (by omega) (Ev.pos (by omega) ?_))
      rw [rdC_at a i (by omega), rdC_at b i (by omega), w64 (by omega) (by omega)]
      have e := ih (i + 1) hl (by omega)
      rw [List.drop_eq_getElem_cons (show i < a.length by omega), List.drop_eq_getElem_cons (show i < b.length by omega)]
      by_cases hc : a[i] = b[i]
      · refine Ev.bind (a := true) (Ev.val ?_) (Ev.pos rfl (Ev.cast e ?_))
        · rw [hc]; unfold laws_eqCell.f; rw [if_pos rfl, if_pos rfl]
        · rw [hc]
          simp only [List.cons.injEq, true_and]
      · refine Ev.bind (a := false) (Ev.val ?_) (Ev.neg (by simp) (Ev.ret (by simp only [List.cons.injEq, hc, false_and, decide_false])))
        unfold laws_eqCell.f
        by_cases h0 : a[i].f0 = b[i].f0
        · rw [if_pos h0, if_neg (fun h1 => hc ((cell_eq_iff _ _).1 (by simp [h0, h1])))]
        · rw [if_neg h0]
  show Ev (fun k => if (a.length : Int) = (b.length : Int) then laws_eqCellS.l0 k a b 0 else some false) _
  by_cases hl : a.length = b.length
  · exact Ev.pos (by omega) (key a.length 0 hl (by omega))
  · refine Ev.neg (by omega) (Ev.ret ?_)
    have : a ≠ b := fun h => hl (by rw [h])
    simp [this]
theorem mulc {C q R : Int} (hC : 1 ≤ C) (h : q + 1 ≤ R) : C * q + C ≤ C * R := by
  have := Int.mul_le_mul_of_nonneg_left h (show 0 ≤ C by omega)
  rw [Int.mul_add, Int.mul_one] at this
  exact this
theorem mulb {x y m n : Int} (h0 : 0 ≤ x) (h1 : x ≤ m) (g0 : 0 ≤ y) (g1 : y ≤ n) : 0 ≤ x * y ∧ x * y ≤ m * n :=
  ⟨Int.mul_nonneg h0 g0, Int.mul_le_mul h1 g1 g0 (Int.le_trans h0 h1)⟩
structure GoodB (R C : Int) (cs : List S78) : Prop where
  r1 : 1 ≤ R
  r2 : R ≤ 10
  c1 : 1 ≤ C
  c2 : C ≤ 9
  len : (cs.length : Int) = R * C
  good : ∀ c ∈ cs, goodCell c = true
theorem GoodB.le {R C : Int} {cs : List S78} (h : GoodB R C cs) : 1 ≤ R * C ∧ R * C ≤ 90 := by
  have b := mulb (show 0 ≤ R by have := h.r1; omega) h.r2 (show 0 ≤ C by have := h.c1; omega) h.c2
  have b2 : 1 * 1 ≤ R * C := Int.mul_le_mul h.r1 h.c1 (by omega) (by have := h.r1; omega)
  omega
theorem GoodB.len90 {R C : Int} {cs : List S78} (h : GoodB R C cs) : cs.length ≤ 90 := by have := h.le; have := h.len; omega
theorem GoodB.idx {R C : Int} {cs : List S78} (h : GoodB R C cs) {r c : Int} (h0 : 0 ≤ r) (h1 : r < R) (h2 : 0 ≤ c) (h3 : c < C) : 0 ≤ r * C ∧ r * C ≤ 90 ∧ 0 ≤ r * C + c ∧ r * C + c < (cs.length : Int) := by
  have a := mulc h.c1 (show r + 1 ≤ R by omega)
  have b : 0 ≤ r * C := Int.mul_nonneg h0 (by have := h.c1; omega)
  have e := h.le
  rw [h.len]
  rw [Int.mul_comm C r, Int.mul_comm C R] at a
  have := h.c1
  omega
theorem boOwn_ok (R C : Int) (cs : List S78) (hl : cs.length ≤ 1048576) : spec_boOwn.f R C cs = some (R, C, cs) := by
  unfold spec_boOwn.f
  simp only [Option.bind_some]
  rw [if_pos (by simp; omega)]; rfl
theorem copyBoard_ok (R C : Int) (cs : List S78) (hl : cs.length ≤ 1048576) : impl_copyBoard.f R C cs = some (R, C, cs) := by
  unfold impl_copyBoard.f
  simp only [Option.bind_some]
  rw [if_pos (by simp; omega)]; rfl
theorem boAt_ok {R C : Int} {cs : List S78} (h : GoodB R C cs) {r c : Int} (h0 : 0 ≤ r) (h1 : r < R) (h2 : 0 ≤ c) (h3 : c < C) : spec_boAt.f R C cs r c = some ((rd_T78 cs (r * C + c)).f0, (rd_T78 cs (r * C + c)).f1) := by
  have b := h.idx h0 h1 h2 h3
  have l := h.len90
  unfold spec_boAt.f
  rw [w64 (x := r * C) (by omega) (by omega), w64 (by omega) (by omega), if_pos b.2.2.1, if_pos b.2.2.2]
def near (R C i : Int) : List Int := (if 0 < i / C then [i - C] else []) ++ ((if 0 < i % C then [i - 1] else []) ++ ((if i % C + 1 < C then [i + 1] else []) ++ (if i / C + 1 < R then [i + C] else [])))
theorem near_in {R C : Int} {cs : List S78} (h : GoodB R C cs) {i : Int} (h0 : 0 ≤ i) (h1 : i < (cs.length : Int)) : ∀ n ∈ near R C i, 0 ≤ n ∧ n < (cs.length : Int) := by
  have hc := h.c1
  have e := Int.mul_ediv_add_emod i C
  have r0 := Int.emod_nonneg i (show C ≠ 0 by omega)
  have r1 := Int.emod_lt_of_pos i (show 0 < C by omega)
  have q0 : 0 ≤ i / C := Int.ediv_nonneg h0 (by omega)
  have hl := h.len
  have cq : 0 ≤ C * (i / C) := Int.mul_nonneg (by omega) q0
  have qR : i / C < R := by
    rcases (show i / C < R ∨ R ≤ i / C by omega) with hq | hq
    · exact hq
    · have := Int.mul_le_mul_of_nonneg_left hq (show 0 ≤ C by omega)
      rw [Int.mul_comm C R] at this
      omega
  have m1 := mulc hc (show i / C + 1 ≤ R by omega)
  rw [Int.mul_comm C R] at m1
  intro n hn
  unfold near at hn
  simp only [List.mem_append] at hn
  rcases hn with hn | hn | hn | hn
  · split at hn
    · rename_i hq
      have := mulc hc (show 0 + 1 ≤ i / C by omega)
      simp at hn this
      omega
    · simp at hn
  · split at hn
    · simp at hn; omega
    · simp at hn
  · split at hn
    · simp at hn; omega
    · simp at hn
  · split at hn
    · rename_i hq
      have m2 := mulc hc (show (i / C + 1) + 1 ≤ R by omega)
      rw [Int.mul_comm C R, Int.mul_add, Int.mul_one] at m2
      simp at hn
      omega
    · simp at hn
theorem near_len (R C i : Int) : (near R C i).length ≤ 4 := by
  unfold near
  simp only [List.length_append]
  split <;> split <;> split <;> split <;> simp
def geared (c : S78) : Bool := decide (c.f0 = 6) || decide (c.f0 = 7)
theorem ggGear_ok (c : S78) : spec_ggGear.f c.f0 c.f1 = some (geared c) := by
  unfold spec_ggGear.f geared
  by_cases h : c.f0 = 6
  · rw [if_pos h, decide_eq_true h]; rfl
  · rw [if_neg h, decide_eq_false h]; rfl
theorem isGeared_ok (c : S78) : impl_isGeared.f c.f0 c.f1 = some (geared c) := by
  unfold impl_isGeared.f geared
  by_cases h : c.f0 = 6
  · rw [if_pos h, decide_eq_true h]; rfl
  · rw [if_neg h, decide_eq_false h]; rfl
theorem ggNear_ev {R C : Int} {cs : List S78} (h : GoodB R C cs) {i : Int} (h0 : 0 ≤ i) (h1 : i < (cs.length : Int)) : Ev (fun k => spec_ggNear.f k R C cs i) (near R C i) := by
  have hc := h.c1
  have hc2 := h.c2
  have hl := h.len90
  have hr2 := h.r2
  have q0 : 0 ≤ i / C := Int.ediv_nonneg h0 (by omega)
  have q1 : i / C ≤ i := Int.ediv_le_self C h0
  have r0 := Int.emod_nonneg i (show C ≠ 0 by omega)
  have r1 := Int.emod_lt_of_pos i (show 0 < C by omega)
  have last : ∀ p : List Int, p.length ≤ 2 → Ev (fun k => spec_ggNear.j1 k i (i / C) (i % C) p R C cs) (p ++ ((if i % C + 1 < C then [i + 1] else []) ++ (if i / C + 1 < R then [i + C] else []))) := by
    intro p hp
    refine Ev.succ ?_
    simp only [spec_ggNear.j1]
    rw [w64 (x := i % C + 1) (by omega) (by omega), w64 (x := i / C + 1) (by omega) (by omega), w64 (x := i + 1) (by omega) (by omega), w64 (x := i + C) (by omega) (by omega)]
    by_cases g1 : i % C + 1 < C
    · refine Ev.pos g1 (Ev.pos (by omega) (Ev.bind (Ev.now _) ?_))
      rw [if_pos g1]
      by_cases g2 : i / C + 1 < R
      · refine Ev.pos g2 (Ev.pos (by simp; omega) (Ev.ret ?_))
        rw [if_pos g2, List.append_assoc]
      · refine Ev.neg g2 (Ev.ret ?_)
        rw [if_neg g2, List.append_nil]
    · refine Ev.neg g1 ?_
      rw [if_neg g1, List.nil_append]
      by_cases g2 : i / C + 1 < R
      · refine Ev.pos g2 (Ev.pos (by omega) (Ev.ret ?_))
        rw [if_pos g2]
      · refine Ev.neg g2 (Ev.ret ?_)
        rw [if_neg g2, List.append_nil]
  have mid : ∀ p : List Int, p.length ≤ 1 → Ev (fun k => spec_ggNear.j0 k i (i / C) (i % C) p R C cs) (p ++ ((if 0 < i % C then [i - 1] else []) ++ ((if i % C + 1 < C then [i + 1] else []) ++ (if i / C + 1 < R then [i + C] else [])))) := by
    intro p hp
    refine Ev.succ ?_
    simp only [spec_ggNear.j0]
    rw [w64 (x := i - 1) (by omega) (by omega)]
    by_cases g : i % C > 0
    · refine Ev.pos g (Ev.pos (by omega) (Ev.cast (last (p ++ [i - 1]) (by simp; omega)) ?_))
      rw [if_pos g, List.append_assoc]
    · refine Ev.neg g (Ev.cast (last p (by omega)) ?_)
      rw [if_neg g, List.nil_append]
  unfold spec_ggNear.f near
  rw [Int.tdiv_eq_ediv_of_nonneg h0, Int.tmod_eq_emod_of_nonneg h0, w64 (x := i / C) (by omega) (by omega), w64 (x := i - C) (by omega) (by omega)]
  refine Ev.neg (by omega) ?_
  by_cases g : i / C > 0
  · refine Ev.pos g (Ev.pos (by simp) (Ev.cast (mid [i - C] (by simp)) ?_))
    rw [if_pos g]
  · refine Ev.neg g (Ev.cast (mid [] (by simp)) ?_)
    rw [if_neg g]
theorem besideOf_ev {R C : Int} {cs : List S78} (h : GoodB R C cs) {i : Int} (h0 : 0 ≤ i) (h1 : i < (cs.length : Int)) : Ev (fun k => impl_besideOf.f k R C cs i) (near R C i) := by
  have hc := h.c1
  have hc2 := h.c2
  have hl := h.len90
  have hr2 := h.r2
  have q0 : 0 ≤ i / C := Int.ediv_nonneg h0 (by omega)
  have q1 : i / C ≤ i := Int.ediv_le_self C h0
  have r0 := Int.emod_nonneg i (show C ≠ 0 by omega)
  have r1 := Int.emod_lt_of_pos i (show 0 < C by omega)
  have last : ∀ p : List Int, p.length ≤ 2 → Ev (fun k => impl_besideOf.j1 k i p (i / C) (i % C) R C cs) (p ++ ((if i % C + 1 < C then [i + 1] else []) ++ (if i / C + 1 < R then [i + C] else []))) := by
    intro p hp
    refine Ev.succ ?_
    simp only [impl_besideOf.j1]
    rw [w64 (x := i % C + 1) (by omega) (by omega), w64 (x := i / C + 1) (by omega) (by omega), w64 (x := i + 1) (by omega) (by omega), w64 (x := i + C) (by omega) (by omega)]
    by_cases g1 : i % C + 1 < C
    · refine Ev.pos g1 (Ev.pos (by omega) (Ev.bind (Ev.now _) ?_))
      rw [if_pos g1]
      by_cases g2 : i / C + 1 < R
      · refine Ev.pos g2 (Ev.pos (by simp; omega) (Ev.ret ?_))
        rw [if_pos g2, List.append_assoc]
      · refine Ev.neg g2 (Ev.ret ?_)
        rw [if_neg g2, List.append_nil]
    · refine Ev.neg g1 ?_
      rw [if_neg g1, List.nil_append]
      by_cases g2 : i / C + 1 < R
      · refine Ev.pos g2 (Ev.pos (by omega) (Ev.ret ?_))
        rw [if_pos g2]
      · refine Ev.neg g2 (Ev.ret ?_)
        rw [if_neg g2, List.append_nil]
  have mid : ∀ p : List Int, p.length ≤ 1 → Ev (fun k => impl_besideOf.j0 k i p (i / C) (i % C) R C cs) (p ++ ((if 0 < i % C then [i - 1] else []) ++ ((if i % C + 1 < C then [i + 1] else []) ++ (if i / C + 1 < R then [i + C] else [])))) := by
    intro p hp
    refine Ev.succ ?_
    simp only [impl_besideOf.j0]
    rw [w64 (x := i - 1) (by omega) (by omega)]
    by_cases g : i % C > 0
    · refine Ev.pos g (Ev.pos (by omega) (Ev.cast (last (p ++ [i - 1]) (by simp; omega)) ?_))
      rw [if_pos g, List.append_assoc]
    · refine Ev.neg g (Ev.cast (last p (by omega)) ?_)
      rw [if_neg g, List.nil_append]
  unfold impl_besideOf.f near
  rw [Int.tdiv_eq_ediv_of_nonneg h0, Int.tmod_eq_emod_of_nonneg h0, w64 (x := i / C) (by omega) (by omega), w64 (x := i - C) (by omega) (by omega)]
  refine Ev.bind (Ev.now _) (Ev.neg (by omega) ?_)
  by_cases g : i / C > 0
  · refine Ev.pos g (Ev.pos (by simp) (Ev.cast (mid [i - C] (by simp)) ?_))
    rw [if_pos g]
  · refine Ev.neg g (Ev.cast (mid [] (by simp)) ?_)
    rw [if_neg g]
def visit (cs : List S78) (nx : Int) : List Int → List Int → List Int → List Int × List Int
  | [], o, q => (o, q)
  | n :: t, o, q => if geared (rd_T78 cs n) = true ∧ rd o n < 0 then visit cs nx t (o.set n.toNat nx) (q ++ [n]) else visit cs nx t o q
def negs (o : List Int) : Nat := o.countP (fun x => decide (x < 0))
theorem visit_len (cs : List S78) (nx : Int) : ∀ (ns o q : List Int), (visit cs nx ns o q).1.length = o.length
  | [], o, q => rfl
  | n :: t, o, q => by
    rw [visit]
    split
    · rw [visit_len cs nx t, List.length_set]
    · exact visit_len cs nx t o q
theorem visit_q (cs : List S78) (nx : Int) (p : List Int) : ∀ (ns o q : List Int), visit cs nx ns o (p ++ q) = ((visit cs nx ns o q).1, p ++ (visit cs nx ns o q).2)
  | [], o, q => rfl
  | n :: t, o, q => by
    rw [visit, visit]
    split
    · rw [List.append_assoc, visit_q cs nx p t]
    · exact visit_q cs nx p t o q
theorem visit_sum (cs : List S78) {nx : Int} (hx : 0 ≤ nx) : ∀ (ns o q : List Int), (∀ n ∈ ns, 0 ≤ n ∧ n < (o.length : Int)) → negs (visit cs nx ns o q).1 + (visit cs nx ns o q).2.length = negs o + q.length
  | [], o, q, _ => rfl
  | n :: t, o, q, h => by
    have h2 : ∀ m ∈ t, 0 ≤ m ∧ m < (o.length : Int) := fun m hm => h m (List.mem_cons_of_mem _ hm)
    obtain ⟨n0, n1⟩ := h n List.mem_cons_self
    rw [visit]
    split
    · rename_i hc
      rw [visit_sum cs hx t _ _ (fun m hm => by rw [List.length_set]; exact h2 m hm), List.length_append]
      have hl : n.toNat < o.length := by omega
      have hr : rd o n = o[n.toNat] := by
        have := rd_at o n.toNat hl
        rwa [Int.toNat_of_nonneg n0] at this
      have hn := hc.2
      rw [hr] at hn
      have e : negs (o.set n.toNat nx) + 1 = negs o := by
        unfold negs
        rw [List.countP_set hl, decide_eq_true hn, decide_eq_false (show ¬ nx < 0 by omega)]
        have pos : 0 < o.countP (fun x => decide (x < 0)) := List.countP_pos_iff.2 ⟨o[n.toNat], List.getElem_mem hl, by simpa using hn⟩
        simp
        omega
      simp
      omega
    · exact visit_sum cs hx t o q h2
theorem visit_in (cs : List S78) (nx : Int) (P : Int → Prop) : ∀ (ns o q : List Int), (∀ n ∈ ns, P n) → (∀ n ∈ q, P n) → ∀ n ∈ (visit cs nx ns o q).2, P n
  | [], o, q, _, h => h
  | n :: t, o, q, hs, h => by
    rw [visit]
    have h2 : ∀ m ∈ t, P m := fun m hm => hs m (List.mem_cons_of_mem _ hm)
    split
    · refine visit_in cs nx P t _ _ h2 (fun m hm => ?_)
      rcases List.mem_append.1 hm with hm | hm
      · exact h m hm
      · rw [List.mem_singleton.1 hm]; exact hs n List.mem_cons_self
    · exact visit_in cs nx P t o q h2 h
def bfs (R C : Int) (cs : List S78) (nx : Int) : Nat → List Int → List Int → List Int
  | 0, o, _ => o
  | _ + 1, o, [] => o
  | k + 1, o, a :: q => bfs R C cs nx k (visit cs nx (near R C a) o q).1 (visit cs nx (near R C a) o q).2
theorem bfs_len (R C : Int) (cs : List S78) (nx : Int) : ∀ (k : Nat) (o q : List Int), (bfs R C cs nx k o q).length = o.length
  | 0, o, q => rfl
  | k + 1, o, [] => rfl
  | k + 1, o, a :: q => by rw [bfs, bfs_len R C cs nx k, visit_len]
def grp (R C : Int) (cs : List S78) : Nat → Nat → Int → List Int → List Int
  | 0, _, _, o => o
  | m + 1, i, nx, o => if geared (rd_T78 cs i) = true ∧ rd o i < 0 then grp R C cs m (i + 1) (nx + 1) (bfs R C cs nx (cs.length + 1) (o.set i nx) [(i : Int)]) else grp R C cs m (i + 1) nx o
def groupsOf (R C : Int) (cs : List S78) : List Int := grp R C cs cs.length 0 0 (List.replicate cs.length (-1))
theorem grp_len (R C : Int) (cs : List S78) : ∀ (m i : Nat) (nx : Int) (o : List Int), (grp R C cs m i nx o).length = o.length
  | 0, i, nx, o => rfl
  | m + 1, i, nx, o => by
    rw [grp]
    split
    · rw [grp_len R C cs m, bfs_len, List.length_set]
    · exact grp_len R C cs m _ _ _
theorem groupsOf_len (R C : Int) (cs : List S78) : (groupsOf R C cs).length = cs.length := by
  unfold groupsOf
  rw [grp_len, List.length_replicate]
theorem rd_drop (q : List Int) (k : Nat) (h : k < q.length) : q.drop k = rd q k :: q.drop (k + 1) := by
  rw [rd_at q k h]; exact List.drop_eq_getElem_cons h
theorem ggGroups_l3 {R C : Int} {cs : List S78} (h : GoodB R C cs) {nx : Int} (hx : 0 ≤ nx) (ns : List Int) (hns : ∀ n ∈ ns, 0 ≤ n ∧ n < (cs.length : Int)) (hn4 : ns.length ≤ 4) (i : Int) (r : List Int) (k0 : Nat) (hk0 : k0 ≤ 1000) :
    ∀ (m j : Nat) (o q : List Int), j + m = ns.length → o.length = cs.length → negs o + q.length ≤ 1000 → Ev (fun k => spec_ggGroups.l2 k (visit cs nx (ns.drop j) o q).1 nx (visit cs nx (ns.drop j) o q).2 ((k0 : Int) + 1) cs (cs.length : Int) i R C cs) r → Ev (fun k => spec_ggGroups.l3 k o nx q k0 cs (cs.length : Int) i ns (ns.length : Int) j R C cs) r := by
  have l90 := h.len90
  intro m
  induction m with
  | zero =>
    intro j o q hj ho hs e
    refine Ev.succ ?_
    simp only [spec_ggGroups.l3]
    rw [List.drop_eq_nil_of_le (by omega), visit] at e
    rw [w64 (x := (k0 : Int) + 1) (by omega) (by omega)]
    exact Ev.neg (by omega) e
  | succ m ih =>
    intro j o q hj ho hs e
    have hjl : j < ns.length := by omega
    obtain ⟨n0, n1⟩ := hns ns[j] (List.getElem_mem hjl)
    rw [List.drop_eq_getElem_cons hjl, visit] at e
    refine Ev.succ ?_
    simp only [spec_ggGroups.l3]
    rw [rd_at ns j hjl, w64 (x := (j : Int) + 1) (by omega) (by omega)]
    refine Ev.pos (by omega) (Ev.pos (by omega) (Ev.pos (by omega) (Ev.pos n0 (Ev.pos n1 (Ev.bind (Ev.val (ggGear_ok _)) ?_)))))
    by_cases g1 : geared (rd_T78 cs ns[j]) = true
    · refine Ev.pos g1 (Ev.pos (by omega) ?_)
      by_cases g2 : rd o ns[j] < 0
      · rw [if_pos ⟨g1, g2⟩] at e
        refine Ev.pos g2 (Ev.pos (by omega) ?_)
        have hv := visit_sum cs hx [ns[j]] o q (fun n hn => by rw [List.mem_singleton.1 hn]; omega)
        rw [visit, if_pos ⟨g1, g2⟩, visit] at hv
        exact ih (j + 1) _ _ (by omega) (by rw [List.length_set]; exact ho) (by simp only at hv; omega) e
      · rw [if_neg (fun hh => g2 hh.2)] at e
        exact Ev.neg g2 (ih (j + 1) _ _ (by omega) ho hs e)
    · rw [if_neg (fun hh => g1 hh.1)] at e
      exact Ev.neg g1 (ih (j + 1) _ _ (by omega) ho hs e)
theorem ggGroups_l2 {R C : Int} {cs : List S78} (h : GoodB R C cs) {nx : Int} (hx : 0 ≤ nx) (hx2 : nx ≤ 1000) (i : Nat) (hi : i ≤ 1000) (r : List Int) :
    ∀ (f : Nat) (o q : List Int) (k0 : Nat), o.length = cs.length → k0 ≤ q.length → negs o + (q.length - k0) ≤ f → negs o + q.length ≤ 1000 → (∀ n ∈ q, 0 ≤ n ∧ n < (cs.length : Int)) → Ev (fun k => spec_ggGroups.l1 k (bfs R C cs nx f o (q.drop k0)) (nx + 1) cs (cs.length : Int) ((i : Int) + 1) R C cs) r → Ev (fun k => spec_ggGroups.l2 k o nx q k0 cs (cs.length : Int) i R C cs) r := by
  have l90 := h.len90
  intro f
  induction f with
  | zero =>
    intro o q k0 ho hk hm hs hq e
    refine Ev.succ ?_
    simp only [spec_ggGroups.l2]
    rw [w64 (x := nx + 1) (by omega) (by omega), w64 (x := (i : Int) + 1) (by omega) (by omega)]
    rw [bfs] at e
    exact Ev.neg (by omega) e
  | succ f ih =>
    intro o q k0 ho hk hm hs hq e
    by_cases hlt : k0 < q.length
    · rw [rd_drop q k0 hlt, bfs] at e
      refine Ev.succ ?_
      simp only [spec_ggGroups.l2]
      have hin : 0 ≤ rd q k0 ∧ rd q k0 < (cs.length : Int) := by rw [rd_at q k0 hlt]; exact hq _ (List.getElem_mem hlt)
      have hnear := near_in h hin.1 hin.2
      refine Ev.pos (by omega) (Ev.pos (by omega) (Ev.bind (ggNear_ev h hin.1 hin.2) ?_))
      refine ggGroups_l3 h hx (near R C (rd q k0)) hnear (near_len _ _ _) i r k0 (by omega) _ 0 o q (Nat.zero_add _) ho hs ?_
      rw [List.drop_zero]
      have hsum := visit_sum cs hx (near R C (rd q k0)) o q (fun n hn => by rw [ho]; exact hnear n hn)
      have hsp : visit cs nx (near R C (rd q k0)) o q = ((visit cs nx (near R C (rd q k0)) o (q.drop (k0 + 1))).1, q.take (k0 + 1) ++ (visit cs nx (near R C (rd q k0)) o (q.drop (k0 + 1))).2) := by
        rw [← visit_q, List.take_append_drop]
      have hd : (visit cs nx (near R C (rd q k0)) o q).2.drop (k0 + 1) = (visit cs nx (near R C (rd q k0)) o (q.drop (k0 + 1))).2 := by
        rw [hsp]
        exact List.drop_left' (by rw [List.length_take]; omega)
      have h1 : (visit cs nx (near R C (rd q k0)) o q).1 = (visit cs nx (near R C (rd q k0)) o (q.drop (k0 + 1))).1 := by rw [hsp]
      have hlen : k0 + 1 ≤ (visit cs nx (near R C (rd q k0)) o q).2.length := by
        rw [hsp]; simp; omega
      refine ih _ _ (k0 + 1) (by rw [visit_len]; exact ho) hlen (by omega) (by omega) (visit_in cs nx _ _ o q hnear hq) ?_
      rw [hd, h1]
      exact e
    · have hk0 : k0 = q.length := by omega
      rw [hk0, List.drop_eq_nil_of_le (Nat.le_refl _), bfs] at e
      refine Ev.succ ?_
      simp only [spec_ggGroups.l2]
      rw [w64 (x := nx + 1) (by omega) (by omega), w64 (x := (i : Int) + 1) (by omega) (by omega)]
      exact Ev.neg (by omega) e
theorem ggGroups_l1 {R C : Int} {cs : List S78} (h : GoodB R C cs) :
    ∀ (m i : Nat) (nx : Int) (o : List Int), i + m = cs.length → 0 ≤ nx → nx ≤ i → o.length = cs.length → Ev (fun k => spec_ggGroups.l1 k o nx cs (cs.length : Int) i R C cs) (grp R C cs m i nx o) := by
  have l90 := h.len90
  intro m
  induction m with
  | zero =>
    intro i nx o hi h0 h1 ho
    refine Ev.succ ?_
    simp only [spec_ggGroups.l1]
    rw [grp]
    exact Ev.neg (by omega) (Ev.now _)
  | succ m ih =>
    intro i nx o hi h0 h1 ho
    have e0 := ih (i + 1) nx o (by omega) h0 (by omega) ho
    have jt : Ev (fun k => spec_ggGroups.j2 k o nx i cs (cs.length : Int) i true R C cs) (grp R C cs m (i + 1) nx o) := by
      refine Ev.succ ?_
      simp only [spec_ggGroups.j2]
      rw [w64 (x := (i : Int) + 1) (by omega) (by omega)]
      exact Ev.pos (by trivial) e0
    refine Ev.succ ?_
    simp only [spec_ggGroups.l1]
    rw [grp]
    refine Ev.pos (by omega) (Ev.pos (by omega) (Ev.pos (by omega) (Ev.bind (Ev.val (ggGear_ok _)) ?_)))
    by_cases g1 : geared (rd_T78 cs i) = true
    case neg =>
      rw [if_neg (fun hh => g1 hh.1)]
      exact Ev.neg g1 jt
    refine Ev.pos g1 (Ev.pos (by omega) ?_)
    by_cases g2 : rd o i ≥ 0
    · rw [if_neg (fun hh => by omega), decide_eq_true g2]
      exact jt
    rw [if_pos ⟨g1, by omega⟩, decide_eq_false g2]
    refine Ev.succ ?_
    simp only [spec_ggGroups.j2]
    refine Ev.neg (by simp) (Ev.pos (by omega) (Ev.pos (by omega) ?_))
    rw [Int.toNat_natCast]
    have ho2 : (o.set i nx).length = cs.length := by rw [List.length_set]; exact ho
    have hsum : negs (o.set i nx) + 1 = negs o := by
      have hl : i < o.length := by omega
      have hr := rd_at o i hl
      unfold negs
      rw [List.countP_set hl, decide_eq_true (show o[i] < 0 by omega), decide_eq_false (show ¬ nx < 0 by omega)]
      have pos : 0 < o.countP (fun x => decide (x < 0)) := List.countP_pos_iff.2 ⟨o[i], List.getElem_mem hl, by simp; omega⟩
      simp
      omega
    have hle : negs o ≤ o.length := List.countP_le_length
    refine ggGroups_l2 h h0 (by omega) i (by omega) _ (cs.length + 1) (o.set i nx) [(i : Int)] 0 ho2 (by simp) (by simp; omega) (by simp; omega) (fun n hn => by rw [List.mem_singleton.1 hn]; omega) ?_
    have e1 := ih (i + 1) (nx + 1) (bfs R C cs nx (cs.length + 1) (o.set i nx) [(i : Int)]) (by omega) (by omega) (by omega) (by rw [bfs_len]; exact ho2)
    exact e1
theorem ggGroups_ev {R C : Int} {cs : List S78} (h : GoodB R C cs) : Ev (fun k => spec_ggGroups.f k R C cs) (groupsOf R C cs) := by
  have l90 := h.len90
  have key : ∀ (m i : Nat), i + m = cs.length → Ev (fun k => spec_ggGroups.l0 k (List.replicate i (-1) ++ List.replicate m 0) (cs.length : Int) i R C cs) (groupsOf R C cs) := by
    intro m
    induction m with
    | zero =>
      intro i hi
      obtain rfl : i = cs.length := by omega
      refine Ev.succ ?_
      simp only [spec_ggGroups.l0]
      refine Ev.neg (by omega) ?_
      rw [List.replicate_zero, List.append_nil]
      exact ggGroups_l1 h cs.length 0 0 _ (by omega) (by omega) (by omega) (by simp)
    | succ m ih =>
      intro i hi
      refine Ev.succ ?_
      simp only [spec_ggGroups.l0]
      refine Ev.pos (by omega) (Ev.pos (by omega) (Ev.pos (by simp; omega) ?_))
      rw [w64 (x := (i : Int) + 1) (by omega) (by omega), Int.toNat_natCast, List.replicate_succ, set_at _ _ _ _ _ (by simp)]
      have e : (List.replicate i (-1 : Int) ++ -1 :: List.replicate m 0) = List.replicate (i + 1) (-1) ++ List.replicate m 0 := by
        rw [List.replicate_succ', List.append_assoc]; rfl
      rw [e]
      exact ih (i + 1) (by omega)
  unfold spec_ggGroups.f
  refine Ev.pos (by omega) (Ev.pos (by omega) (Ev.bind (Ev.now _) ?_))
  rw [Int.toNat_natCast, List.length_replicate]
  exact key cs.length 0 (by omega)
theorem groupNumbers_l3 {R C : Int} {cs : List S78} (h : GoodB R C cs) {nx : Int} (hx : 0 ≤ nx) (ns : List Int) (hns : ∀ n ∈ ns, 0 ≤ n ∧ n < (cs.length : Int)) (hn4 : ns.length ≤ 4) (i : Int) (r : List Int) :
    ∀ (m j : Nat) (o q : List Int), j + m = ns.length → o.length = cs.length → negs o + q.length ≤ 1000 → Ev (fun k => impl_groupNumbers.l2 k (visit cs nx (ns.drop j) o q).1 nx (visit cs nx (ns.drop j) o q).2 cs (cs.length : Int) i R C cs) r → Ev (fun k => impl_groupNumbers.l3 k o nx q cs (cs.length : Int) i ns (ns.length : Int) j R C cs) r := by
  have l90 := h.len90
  intro m
  induction m with
  | zero =>
    intro j o q hj ho hs e
    refine Ev.succ ?_
    simp only [impl_groupNumbers.l3]
    rw [List.drop_eq_nil_of_le (by omega), visit] at e
    exact Ev.neg (by omega) e
  | succ m ih =>
    intro j o q hj ho hs e
    have hjl : j < ns.length := by omega
    obtain ⟨n0, n1⟩ := hns ns[j] (List.getElem_mem hjl)
    rw [List.drop_eq_getElem_cons hjl, visit] at e
    refine Ev.succ ?_
    simp only [impl_groupNumbers.l3]
    rw [rd_at ns j hjl, w64 (x := (j : Int) + 1) (by omega) (by omega)]
    refine Ev.pos (by omega) (Ev.pos (by omega) (Ev.pos (by omega) (Ev.pos n0 (Ev.pos n1 (Ev.bind (Ev.val (isGeared_ok _)) ?_)))))
    by_cases g1 : geared (rd_T78 cs ns[j]) = true
    · refine Ev.pos g1 (Ev.pos (by omega) ?_)
      by_cases g2 : rd o ns[j] < 0
      · rw [if_pos ⟨g1, g2⟩] at e
        refine Ev.pos g2 (Ev.pos (by omega) ?_)
        have hv := visit_sum cs hx [ns[j]] o q (fun n hn => by rw [List.mem_singleton.1 hn]; omega)
        rw [visit, if_pos ⟨g1, g2⟩, visit] at hv
        exact ih (j + 1) _ _ (by omega) (by rw [List.length_set]; exact ho) (by simp only at hv; omega) e
      · rw [if_neg (fun hh => g2 hh.2)] at e
        exact Ev.neg g2 (ih (j + 1) _ _ (by omega) ho hs e)
    · rw [if_neg (fun hh => g1 hh.1)] at e
      exact Ev.neg g1 (ih (j + 1) _ _ (by omega) ho hs e)
theorem groupNumbers_l2 {R C : Int} {cs : List S78} (h : GoodB R C cs) {nx : Int} (hx : 0 ≤ nx) (hx2 : nx ≤ 1000) (i : Nat) (hi : i ≤ 1000) (r : List Int) :
    ∀ (f : Nat) (o q : List Int), o.length = cs.length → negs o + q.length ≤ f → negs o + q.length ≤ 1000 → (∀ n ∈ q, 0 ≤ n ∧ n < (cs.length : Int)) → Ev (fun k => impl_groupNumbers.l1 k (bfs R C cs nx f o q) (nx + 1) cs (cs.length : Int) ((i : Int) + 1) R C cs) r → Ev (fun k => impl_groupNumbers.l2 k o nx q cs (cs.length : Int) i R C cs) r := by
  have l90 := h.len90
  intro f
  induction f with
  | zero =>
    intro o q ho hm hs hq e
    refine Ev.succ ?_
    simp only [impl_groupNumbers.l2]
    rw [w64 (x := nx + 1) (by omega) (by omega), w64 (x := (i : Int) + 1) (by omega) (by omega)]
    rw [bfs] at e
    exact Ev.neg (by omega) e
  | succ f ih =>
    intro o q ho hm hs hq e
    cases q with
    | nil =>
      rw [bfs] at e
      refine Ev.succ ?_
      simp only [impl_groupNumbers.l2]
      rw [w64 (x := nx + 1) (by omega) (by omega), w64 (x := (i : Int) + 1) (by omega) (by omega)]
      exact Ev.neg (by simp) e
    | cons a q =>
      rw [bfs] at e
      refine Ev.succ ?_
      simp only [impl_groupNumbers.l2]
      have ha : rd (a :: q) 0 = a := rfl
      have hdr : (a :: q).drop (1 : Int).toNat = q := rfl
      have hin := hq a List.mem_cons_self
      have hq2 : ∀ n ∈ q, 0 ≤ n ∧ n < (cs.length : Int) := fun n hn => hq n (List.mem_cons_of_mem _ hn)
      have hnear := near_in h hin.1 hin.2
      rw [ha, hdr]
      simp only [List.length_cons] at hm hs
      refine Ev.pos (by simp only [List.length_cons]; omega) (Ev.pos (by simp only [List.length_cons]; omega) (Ev.pos (by simp only [List.length_cons]; omega) (Ev.bind (besideOf_ev h hin.1 hin.2) ?_)))
      refine groupNumbers_l3 h hx (near R C a) hnear (near_len _ _ _) i r _ 0 o q (Nat.zero_add _) ho (by omega) ?_
      rw [List.drop_zero]
      have hsum := visit_sum cs hx (near R C a) o q (fun n hn => by rw [ho]; exact hnear n hn)
      exact ih _ _ (by rw [visit_len]; exact ho) (by omega) (by omega) (visit_in cs nx _ _ o q hnear hq2) e
theorem groupNumbers_l1 {R C : Int} {cs : List S78} (h : GoodB R C cs) :
    ∀ (m i : Nat) (nx : Int) (o : List Int), i + m = cs.length → 0 ≤ nx → nx ≤ i → o.length = cs.length → Ev (fun k => impl_groupNumbers.l1 k o nx cs (cs.length : Int) i R C cs) (grp R C cs m i nx o) := by
  have l90 := h.len90
  intro m
  induction m with
  | zero =>
    intro i nx o hi h0 h1 ho
    refine Ev.succ ?_
    simp only [impl_groupNumbers.l1]
    rw [grp]
    exact Ev.neg (by omega) (Ev.now _)
  | succ m ih =>
    intro i nx o hi h0 h1 ho
    have e0 := ih (i + 1) nx o (by omega) h0 (by omega) ho
    have jt : Ev (fun k => impl_groupNumbers.j2 k o nx i cs (cs.length : Int) i true R C cs) (grp R C cs m (i + 1) nx o) := by
      refine Ev.succ ?_
      simp only [impl_groupNumbers.j2]
      rw [w64 (x := (i : Int) + 1) (by omega) (by omega)]
      exact Ev.pos (by trivial) e0
    refine Ev.succ ?_
    simp only [impl_groupNumbers.l1]
    rw [grp]
    refine Ev.pos (by omega) (Ev.pos (by omega) (Ev.pos (by omega) (Ev.bind (Ev.val (isGeared_ok _)) ?_)))
    by_cases g1 : geared (rd_T78 cs i) = true
    case neg =>
      rw [if_neg (fun hh => g1 hh.1)]
      exact Ev.neg g1 jt
    refine Ev.pos g1 (Ev.pos (by omega) ?_)
    by_cases g2 : rd o i ≥ 0
    · rw [if_neg (fun hh => by omega), decide_eq_true g2]
      exact jt
    rw [if_pos ⟨g1, by omega⟩, decide_eq_false g2]
    refine Ev.succ ?_
    simp only [impl_groupNumbers.j2]
    refine Ev.neg (by simp) (Ev.pos (by omega) (Ev.pos (by omega) ?_))
    rw [Int.toNat_natCast]
    have ho2 : (o.set i nx).length = cs.length := by rw [List.length_set]; exact ho
    have hsum : negs (o.set i nx) + 1 = negs o := by
      have hl : i < o.length := by omega
      have hr := rd_at o i hl
      unfold negs
      rw [List.countP_set hl, decide_eq_true (show o[i] < 0 by omega), decide_eq_false (show ¬ nx < 0 by omega)]
      have pos : 0 < o.countP (fun x => decide (x < 0)) := List.countP_pos_iff.2 ⟨o[i], List.getElem_mem hl, by simp; omega⟩
      simp
      omega
    have hle : negs o ≤ o.length := List.countP_le_length
    refine groupNumbers_l2 h h0 (by omega) i (by omega) _ (cs.length + 1) (o.set i nx) [(i : Int)] ho2 (by simp; omega) (by simp; omega) (fun n hn => by rw [List.mem_singleton.1 hn]; omega) ?_
    have e1 := ih (i + 1) (nx + 1) (bfs R C cs nx (cs.length + 1) (o.set i nx) [(i : Int)]) (by omega) (by omega) (by omega) (by rw [bfs_len]; exact ho2)
    exact e1
theorem groupNumbers_ev {R C : Int} {cs : List S78} (h : GoodB R C cs) : Ev (fun k => impl_groupNumbers.f k R C cs) (groupsOf R C cs) := by
  have l90 := h.len90
  have key : ∀ (m i : Nat), i + m = cs.length → Ev (fun k => impl_groupNumbers.l0 k (List.replicate i (-1) ++ List.replicate m 0) (cs.length : Int) i R C cs) (groupsOf R C cs) := by
    intro m
    induction m with
    | zero =>
      intro i hi
      obtain rfl : i = cs.length := by omega
      refine Ev.succ ?_
      simp only [impl_groupNumbers.l0]
      refine Ev.neg (by omega) ?_
      rw [List.replicate_zero, List.append_nil]
      exact groupNumbers_l1 h cs.length 0 0 _ (by omega) (by omega) (by omega) (by simp)
    | succ m ih =>
      intro i hi
      refine Ev.succ ?_
      simp only [impl_groupNumbers.l0]
      refine Ev.pos (by omega) (Ev.pos (by omega) (Ev.pos (by simp; omega) ?_))
      rw [w64 (x := (i : Int) + 1) (by omega) (by omega), Int.toNat_natCast, List.replicate_succ, set_at _ _ _ _ _ (by simp)]
      have e : (List.replicate i (-1 : Int) ++ -1 :: List.replicate m 0) = List.replicate (i + 1) (-1) ++ List.replicate m 0 := by
        rw [List.replicate_succ', List.append_assoc]; rfl
      rw [e]
      exact ih (i + 1) (by omega)
  unfold impl_groupNumbers.f
  refine Ev.pos (by omega) (Ev.pos (by omega) (Ev.bind (Ev.now _) ?_))
  rw [Int.toNat_natCast, List.length_replicate]
  exact key cs.length 0 (by omega)
def flipped (c : S78) : S78 := ⟨c.f0, 1 - c.f1⟩
def goes (c : S78) (side : Int) : Int := if c.f0 = 1 then -1 else if c.f0 = 2 then 1 else if c.f0 = 3 ∨ c.f0 = 6 then 2 * c.f1 - 1 else if c.f0 = 4 then -side else 0
def turnAll (g : List Int) (a : Int) (cs : List S78) : List S78 := cs.mapIdx (fun i c => if c.f0 = 6 ∧ rd g i = rd g a then flipped c else c)
def pass (g : List Int) (a : Int) (cs : List S78) : List S78 := if (rd_T78 cs a).f0 = 3 then cs.set a.toNat (flipped (rd_T78 cs a)) else if (rd_T78 cs a).f0 = 6 then turnAll g a cs else cs
def fallGo (R C : Int) (g : List Int) : Nat → Int → Int → Int → List S78 → List Int → Int × Int × Int × List Int × List S78
  | 0, _, col, _, cs, way => (1, R, col, way, cs)
  | m + 1, row, col, side, cs, way => if (rd_T78 cs (row * C + col)).f0 = 5 then (2, row, col, way ++ [row * C + col], cs)
    else if 0 ≤ col + goes (rd_T78 cs (row * C + col)) side ∧ col + goes (rd_T78 cs (row * C + col)) side < C then fallGo R C g m (row + 1) (col + goes (rd_T78 cs (row * C + col)) side) (-goes (rd_T78 cs (row * C + col)) side) (pass g (row * C + col) cs) (way ++ [row * C + col])
    else (3, row, col + goes (rd_T78 cs (row * C + col)) side, way ++ [row * C + col], pass g (row * C + col) cs)
theorem good_state {c : S78} (h : goodCell c = true) : 0 ≤ c.f0 ∧ c.f0 ≤ 7 ∧ 0 ≤ c.f1 ∧ c.f1 ≤ 1 ∧ (c.f1 = 1 → c.f0 = 3 ∨ c.f0 = 6) := by
  unfold goodCell turning at h
  simp only [Bool.and_eq_true, Bool.or_eq_true, decide_eq_true_eq, inR_iff] at h
  omega
theorem good_flipped {c : S78} (h : goodCell c = true) (ht : c.f0 = 3 ∨ c.f0 = 6) : goodCell (flipped c) = true := by
  have := good_state h
  unfold goodCell turning flipped
  simp only [Bool.and_eq_true, Bool.or_eq_true, decide_eq_true_eq, inR_iff]
  omega
theorem goes_in {c : S78} (h : goodCell c = true) {side : Int} (h0 : -1 ≤ side) (h1 : side ≤ 1) : -1 ≤ goes c side ∧ goes c side ≤ 1 := by
  have := good_state h
  unfold goes
  split
  · omega
  split
  · omega
  split
  · omega
  split <;> omega
theorem rdC_mem {cs : List S78} {a : Int} (h0 : 0 ≤ a) (h1 : a < (cs.length : Int)) : rd_T78 cs a ∈ cs := by
  have := rdC_at cs a.toNat (by omega)
  rw [Int.toNat_of_nonneg h0] at this
  rw [this]
  exact List.getElem_mem _
theorem turnAll_len (g : List Int) (a : Int) (cs : List S78) : (turnAll g a cs).length = cs.length := List.length_mapIdx
theorem pass_len (g : List Int) (a : Int) (cs : List S78) : (pass g a cs).length = cs.length := by
  unfold pass
  split
  · exact List.length_set
  split
  · exact turnAll_len _ _ _
  · rfl
theorem turnAll_good {g : List Int} {a : Int} {cs : List S78} (h : ∀ c ∈ cs, goodCell c = true) : ∀ c ∈ turnAll g a cs, goodCell c = true := by
  intro c hc
  obtain ⟨i, hi, he⟩ := List.mem_iff_getElem.1 hc
  unfold turnAll at he hi
  rw [List.length_mapIdx] at hi
  rw [List.getElem_mapIdx] at he
  rw [← he]
  split
  · rename_i hg
    exact good_flipped (h _ (List.getElem_mem _)) (Or.inr hg.1)
  · exact h _ (List.getElem_mem _)
theorem pass_good {g : List Int} {a : Int} {cs : List S78} (h0 : 0 ≤ a) (h1 : a < (cs.length : Int)) (h : ∀ c ∈ cs, goodCell c = true) : ∀ c ∈ pass g a cs, goodCell c = true := by
  unfold pass
  intro c hc
  split at hc
  · rename_i h3
    rcases List.mem_or_eq_of_mem_set hc with hc | rfl
    · exact h _ hc
    · exact good_flipped (h _ (rdC_mem h0 h1)) (Or.inl h3)
  split at hc
  · exact turnAll_good h _ hc
  · exact h _ hc
theorem GoodB.pass {R C : Int} {cs : List S78} (h : GoodB R C cs) (g : List Int) {a : Int} (h0 : 0 ≤ a) (h1 : a < (cs.length : Int)) : GoodB R C (pass g a cs) :=
  ⟨h.r1, h.r2, h.c1, h.c2, by rw [pass_len]; exact h.len, pass_good h0 h1 h.good⟩
theorem paTurn_ok {c : S78} (h : goodCell c = true) : spec_paTurn.f c.f0 c.f1 = some ((flipped c).f0, (flipped c).f1) := by
  have := good_state h
  unfold spec_paTurn.f flipped
  rw [w64 (by omega) (by omega)]
theorem turnAll_get (g : List Int) (a : Int) (cs : List S78) (i : Nat) (hi : i < cs.length) : ∀ h : i < (turnAll g a cs).length, (turnAll g a cs)[i] = if cs[i].f0 = 6 ∧ rd g i = rd g a then flipped cs[i] else cs[i] := by
  unfold turnAll
  intro h
  rw [List.getElem_mapIdx]
theorem turn_step (g : List Int) (a : Int) (cs : List S78) (i : Nat) (hi : i < cs.length) : ((turnAll g a cs).take i ++ cs.drop i).set i (if cs[i].f0 = 6 ∧ rd g i = rd g a then flipped cs[i] else cs[i]) = (turnAll g a cs).take (i + 1) ++ cs.drop (i + 1) := by
  have hl : i < (turnAll g a cs).length := by rw [turnAll_len]; exact hi
  rw [List.drop_eq_getElem_cons hi, set_at _ _ _ _ _ (by rw [List.length_take]; omega), List.take_succ_eq_append_getElem hl, List.append_assoc]
  rw [turnAll_get g a cs i hi]; rfl
theorem turn_cur (g : List Int) (a : Int) (cs : List S78) (i : Nat) (hi : i < cs.length) : ((turnAll g a cs).take i ++ cs.drop i).length = cs.length ∧ rd_T78 ((turnAll g a cs).take i ++ cs.drop i) (i : Int) = cs[i] := by
  have hl : ((turnAll g a cs).take i ++ cs.drop i).length = cs.length := by
    rw [List.length_append, List.length_take, List.length_drop, turnAll_len]; omega
  refine ⟨hl, ?_⟩
  rw [rdC_at _ i (by omega), List.getElem_append_right (by rw [List.length_take, turnAll_len]; omega)]
  rw [List.getElem_drop]
  congr 1
  rw [List.length_take, turnAll_len]
  omega
theorem turnGroup_ev {R C : Int} {cs : List S78} (h : GoodB R C cs) (g : List Int) (hg : g.length = cs.length) {a : Int} (h0 : 0 ≤ a) (h1 : a < (cs.length : Int)) : Ev (fun k => impl_turnGroup.f k R C cs g a) (turnAll g a cs) := by
  have l90 := h.len90
  have key : ∀ (m i : Nat), i + m = cs.length → Ev (fun k => impl_turnGroup.l0 k g a (cs.length : Int) i R C ((turnAll g a cs).take i ++ cs.drop i)) (turnAll g a cs) := by
    intro m
    induction m with
    | zero =>
      intro i hi
      refine Ev.succ ?_
      simp only [impl_turnGroup.l0]
      refine Ev.neg (by omega) (Ev.ret ?_)
      rw [List.take_of_length_le (by rw [turnAll_len]; omega), List.drop_eq_nil_of_le (by omega), List.append_nil]
    | succ m ih =>
      intro i hi
      have hil : i < cs.length := by omega
      obtain ⟨cl, cr⟩ := turn_cur g a cs i hil
      have st := turn_step g a cs i hil
      have hgood := good_state (h.good _ (List.getElem_mem hil))
      refine Ev.succ ?_
      simp only [impl_turnGroup.l0]
      rw [cr, cl, w64 (x := (i : Int) + 1) (by omega) (by omega), w64 (x := 1 - cs[i].f1) (by omega) (by omega), Int.toNat_natCast]
      refine Ev.pos (by omega) (Ev.pos (by omega) (Ev.pos (by omega) ?_))
      have same : ¬ (cs[i].f0 = 6 ∧ rd g i = rd g a) → Ev (fun k => impl_turnGroup.l0 k g a (cs.length : Int) ((i : Int) + 1) R C ((turnAll g a cs).take i ++ cs.drop i)) (turnAll g a cs) := by
        intro hn
        rw [if_neg hn] at st
        have e2 : ((turnAll g a cs).take i ++ cs.drop i).set i cs[i] = (turnAll g a cs).take i ++ cs.drop i := by
          rw [List.drop_eq_getElem_cons hil, set_at _ _ _ _ _ (by rw [List.length_take, turnAll_len]; omega)]
        rw [e2] at st
        rw [st]
        exact ih (i + 1) (by omega)
      by_cases h6 : cs[i].f0 = 6
      · refine Ev.pos h6 (Ev.pos (by omega) (Ev.pos h0 (Ev.pos (by omega) ?_)))
        by_cases hq : rd g i = rd g a
        · rw [if_pos ⟨h6, hq⟩] at st
          refine Ev.pos hq ?_
          have e3 : (⟨cs[i].f0, 1 - cs[i].f1⟩ : S78) = flipped cs[i] := rfl
          rw [e3, st]
          exact ih (i + 1) (by omega)
        · exact Ev.neg hq (same (fun hh => hq hh.2))
      · exact Ev.neg h6 (same (fun hh => h6 hh.1))
  unfold impl_turnGroup.f
  have := key cs.length 0 (by omega)
  rwa [List.take_zero, List.drop_zero, List.nil_append] at this
theorem flPass_ev {R C : Int} {cs : List S78} (h : GoodB R C cs) (g : List Int) (hg : g.length = cs.length) {a : Int} (h0 : 0 ≤ a) (h1 : a < (cs.length : Int)) : Ev (fun k => spec_flPass.f k R C cs g a) (pass g a cs) := by
  have l90 := h.len90
  have key : ∀ (m i : Nat), i + m = cs.length → Ev (fun k => spec_flPass.l0 k g a (cs.length : Int) i R C ((turnAll g a cs).take i ++ cs.drop i)) (turnAll g a cs) := by
    intro m
    induction m with
    | zero =>
      intro i hi
      refine Ev.succ ?_
      simp only [spec_flPass.l0]
      refine Ev.neg (by omega) (Ev.ret ?_)
      rw [List.take_of_length_le (by rw [turnAll_len]; omega), List.drop_eq_nil_of_le (by omega), List.append_nil]
    | succ m ih =>
      intro i hi
      have hil : i < cs.length := by omega
      obtain ⟨cl, cr⟩ := turn_cur g a cs i hil
      have st := turn_step g a cs i hil
      refine Ev.succ ?_
      simp only [spec_flPass.l0]
      rw [cr, cl, w64 (x := (i : Int) + 1) (by omega) (by omega), Int.toNat_natCast]
      refine Ev.pos (by omega) (Ev.pos (by omega) (Ev.pos (by omega) ?_))
      have same : ¬ (cs[i].f0 = 6 ∧ rd g i = rd g a) → Ev (fun k => spec_flPass.l0 k g a (cs.length : Int) ((i : Int) + 1) R C ((turnAll g a cs).take i ++ cs.drop i)) (turnAll g a cs) := by
        intro hn
        rw [if_neg hn] at st
        have e2 : ((turnAll g a cs).take i ++ cs.drop i).set i cs[i] = (turnAll g a cs).take i ++ cs.drop i := by
          rw [List.drop_eq_getElem_cons hil, set_at _ _ _ _ _ (by rw [List.length_take, turnAll_len]; omega)]
        rw [e2] at st
        rw [st]
        exact ih (i + 1) (by omega)
      by_cases h6 : cs[i].f0 = 6
      · refine Ev.pos h6 (Ev.pos (by omega) (Ev.pos h0 (Ev.pos (by omega) ?_)))
        by_cases hq : rd g i = rd g a
        · rw [if_pos ⟨h6, hq⟩] at st
          refine Ev.pos hq (Ev.bind (Ev.val (paTurn_ok (h.good _ (List.getElem_mem hil)))) ?_)
          have e3 : (⟨(flipped cs[i]).f0, (flipped cs[i]).f1⟩ : S78) = flipped cs[i] := rfl
          rw [e3, st]
          exact ih (i + 1) (by omega)
        · exact Ev.neg hq (same (fun hh => hq hh.2))
      · exact Ev.neg h6 (same (fun hh => h6 hh.1))
  unfold spec_flPass.f pass
  refine Ev.pos h0 (Ev.pos h1 ?_)
  by_cases h3 : (rd_T78 cs a).f0 = 3
  · rw [if_pos h3]
    exact Ev.pos h3 (Ev.bind (Ev.val (paTurn_ok (h.good _ (rdC_mem h0 h1)))) (Ev.now _))
  rw [if_neg h3]
  refine Ev.neg h3 ?_
  by_cases h6 : (rd_T78 cs a).f0 = 6
  · rw [if_pos h6]
    refine Ev.pos h6 ?_
    have := key cs.length 0 (by omega)
    rwa [List.take_zero, List.drop_zero, List.nil_append] at this
  · rw [if_neg h6]
    exact Ev.neg h6 (Ev.now _)
theorem paGoes_ev {c : S78} (h : goodCell c = true) {side : Int} (h0 : -1 ≤ side) (h1 : side ≤ 1) : Ev (fun k => spec_paGoes.f k c.f0 c.f1 side) (goes c side) := by
  have hs := good_state h
  unfold spec_paGoes.f goes
  by_cases a1 : c.f0 = 1
  · rw [if_pos a1]; exact Ev.pos a1 (Ev.now _)
  rw [if_neg a1]
  refine Ev.neg a1 ?_
  by_cases a2 : c.f0 = 2
  · rw [if_pos a2]; exact Ev.pos a2 (Ev.now _)
  rw [if_neg a2]
  refine Ev.neg a2 ?_
  by_cases a3 : c.f0 = 3
  · rw [if_pos (Or.inl a3)]
    refine Ev.pos a3 (Ev.succ ?_)
    simp only [spec_paGoes.j0]
    rw [w64 (x := 2 * c.f1) (by omega) (by omega), w64 (by omega) (by omega)]
    exact Ev.pos (by simp [a3]) (Ev.now _)
  refine Ev.neg a3 (Ev.succ ?_)
  simp only [spec_paGoes.j0]
  by_cases a6 : c.f0 = 6
  · rw [if_pos (Or.inr a6), w64 (x := 2 * c.f1) (by omega) (by omega), w64 (x := 2 * c.f1 - 1) (by omega) (by omega)]
    exact Ev.pos (by simp [a6]) (Ev.now _)
  rw [if_neg (show ¬ (c.f0 = 3 ∨ c.f0 = 6) by omega)]
  refine Ev.neg (by simp [a6]) ?_
  exact Ev.ite (fun _ => Ev.ret (w64 (by omega) (by omega))) (fun _ => Ev.now _)
theorem GoesTo_ev {c : S78} (h : goodCell c = true) {side : Int} (h0 : -1 ≤ side) (h1 : side ≤ 1) : Ev (fun k => impl_GoesTo.f k c.f0 c.f1 side) (if c.f0 = 5 then (0, false) else (goes c side, true)) := by
  have hs := good_state h
  unfold impl_GoesTo.f goes
  refine Ev.bind (Ev.val (IsCell_ok c)) (Ev.pos h (Ev.neg (by omega) (Ev.neg (by omega) (Ev.succ ?_))))
  simp only [impl_GoesTo.j0]
  by_cases a5 : c.f0 = 5
  · rw [if_pos a5]; exact Ev.pos (by simp [a5]) (Ev.now _)
  rw [if_neg a5]
  refine Ev.neg (by simp [a5]) ?_
  by_cases a1 : c.f0 = 1
  · rw [if_pos a1]; exact Ev.pos a1 (Ev.now _)
  rw [if_neg a1]
  refine Ev.neg a1 ?_
  by_cases a2 : c.f0 = 2
  · rw [if_pos a2]; exact Ev.pos a2 (Ev.now _)
  rw [if_neg a2]
  refine Ev.neg a2 ?_
  by_cases a3 : c.f0 = 3
  · rw [if_pos (Or.inl a3)]
    refine Ev.pos a3 (Ev.succ ?_)
    simp only [impl_GoesTo.j1]
    rw [w64 (x := 2 * c.f1) (by omega) (by omega), w64 (x := 2 * c.f1 - 1) (by omega) (by omega)]
    exact Ev.pos (by simp [a3]) (Ev.now _)
  refine Ev.neg a3 (Ev.succ ?_)
  simp only [impl_GoesTo.j1]
  by_cases a6 : c.f0 = 6
  · rw [if_pos (Or.inr a6), w64 (x := 2 * c.f1) (by omega) (by omega), w64 (x := 2 * c.f1 - 1) (by omega) (by omega)]
    exact Ev.pos (by simp [a6]) (Ev.now _)
  rw [if_neg (show ¬ (c.f0 = 3 ∨ c.f0 = 6) by omega)]
  refine Ev.neg (by simp [a6]) ?_
  by_cases a4 : c.f0 = 4
  · refine Ev.pos a4 (Ev.ret ?_)
    rw [w64 (by omega) (by omega), if_pos a4]
  · exact Ev.neg a4 (Ev.ret (by rw [if_neg a4]))
theorem dropL_ev {R C : Int} (g : List Int) : ∀ (m : Nat) (row col side : Int) (cs : List S78) (way : List Int), GoodB R C cs → g.length = cs.length → row + m = R → 0 ≤ row → 0 ≤ col → col < C → -1 ≤ side → side ≤ 1 → (way.length : Int) ≤ row → Ev (fun k => impl_drop.l0 k g col way side row R C cs) (fallGo R C g m row col side cs way) := by
  intro m
  induction m with
  | zero =>
    intro row col side cs way h hg hr h0 c0 c1 s0 s1 hw
    refine Ev.succ ?_
    simp only [impl_drop.l0]
    exact Ev.neg (by omega) (Ev.now _)
  | succ m ih =>
    intro row col side cs way h hg hr h0 c0 c1 s0 s1 hw
    have b := h.idx h0 (show row < R by omega) c0 c1
    have l90 := h.len90
    have hc2 := h.c2
    have hr2 := h.r2
    have hgc := h.good _ (rdC_mem b.2.2.1 b.2.2.2)
    have hst := good_state hgc
    have hgo := goes_in hgc s0 s1
    have hp := h.pass g b.2.2.1 b.2.2.2
    refine Ev.succ ?_
    simp only [impl_drop.l0, fallGo]
    rw [w64 (x := row * C) (by omega) (by omega), w64 (x := row * C + col) (by omega) (by omega)]
    refine Ev.pos (by omega) (Ev.pos (by omega) (Ev.bind (Ev.now _) (Ev.pos b.2.2.1 (Ev.pos b.2.2.2 (Ev.bind (GoesTo_ev hgc s0 s1) ?_)))))
    by_cases a5 : (rd_T78 cs (row * C + col)).f0 = 5
    · rw [if_pos a5, if_pos a5]
      exact Ev.neg (by simp) (Ev.now _)
    rw [if_neg a5, if_neg a5]
    refine Ev.pos (by trivial) ?_
    have tail : ∀ cs' : List S78, cs' = pass g (row * C + col) cs → Ev (fun k => if wrap64 (col + goes (rd_T78 cs (row * C + col)) side) < 0 then some (3, row, wrap64 (col + goes (rd_T78 cs (row * C + col)) side), way ++ [row * C + col], cs') else if wrap64 (col + goes (rd_T78 cs (row * C + col)) side) ≥ C then some (3, row, wrap64 (col + goes (rd_T78 cs (row * C + col)) side), way ++ [row * C + col], cs') else impl_drop.l0 k g (wrap64 (col + goes (rd_T78 cs (row * C + col)) side)) (way ++ [row * C + col]) (wrap64 (-goes (rd_T78 cs (row * C + col)) side)) (wrap64 (row + 1)) R C cs')
        (if 0 ≤ col + goes (rd_T78 cs (row * C + col)) side ∧ col + goes (rd_T78 cs (row * C + col)) side < C then fallGo R C g m (row + 1) (col + goes (rd_T78 cs (row * C + col)) side) (-goes (rd_T78 cs (row * C + col)) side) (pass g (row * C + col) cs) (way ++ [row * C + col]) else (3, row, col + goes (rd_T78 cs (row * C + col)) side, way ++ [row * C + col], pass g (row * C + col) cs)) := by
      intro cs' e
      subst e
      rw [w64 (x := col + goes (rd_T78 cs (row * C + col)) side) (by omega) (by omega), w64 (x := -goes (rd_T78 cs (row * C + col)) side) (by omega) (by omega), w64 (x := row + 1) (by omega) (by omega)]
      by_cases n0 : col + goes (rd_T78 cs (row * C + col)) side < 0
      · rw [if_neg (fun hh => by omega)]; exact Ev.pos n0 (Ev.now _)
      refine Ev.neg n0 ?_
      by_cases n1 : col + goes (rd_T78 cs (row * C + col)) side ≥ C
      · rw [if_neg (fun hh => by omega)]; exact Ev.pos n1 (Ev.now _)
      rw [if_pos ⟨by omega, by omega⟩]
      refine Ev.neg n1 (ih _ _ _ _ _ hp (by rw [pass_len]; exact hg) (by omega) (by omega) (by omega) (by omega) (by omega) (by omega) ?_)
      rw [List.length_append]
      simp
      omega
    by_cases a3 : (rd_T78 cs (row * C + col)).f0 = 3
    · refine Ev.pos a3 (Ev.succ ?_)
      simp only [impl_drop.j1]
      refine Ev.neg (by omega) (tail _ ?_)
      unfold pass
      rw [if_pos a3, w64 (x := 1 - (rd_T78 cs (row * C + col)).f1) (by omega) (by omega)]
      rfl
    refine Ev.neg a3 (Ev.succ ?_)
    simp only [impl_drop.j1]
    by_cases a6 : (rd_T78 cs (row * C + col)).f0 = 6
    · refine Ev.pos a6 (Ev.bind (turnGroup_ev h g hg b.2.2.1 b.2.2.2) (tail _ ?_))
      unfold pass
      rw [if_neg a3, if_pos a6]
    · refine Ev.neg a6 (tail _ ?_)
      unfold pass
      rw [if_neg a3, if_neg a6]
theorem drop_ev {R C : Int} {g : List Int} {cs : List S78} (h : GoodB R C cs) (hg : g.length = cs.length) {col : Int} (c0 : 0 ≤ col) (c1 : col < C) : Ev (fun k => impl_drop.f k R C cs g col) (fallGo R C g R.toNat 0 col 0 cs []) := by
  have hr := h.r1
  exact dropL_ev g R.toNat 0 col 0 cs [] h hg (by omega) (by omega) c0 c1 (by omega) (by omega) (by simp)
def wayL (C : Int) (way : List Int) : List (List Int) := way.map (fun a => [a / C, a % C])
theorem wayL_snoc {C row col : Int} (c0 : 0 ≤ col) (c1 : col < C) (way : List Int) : wayL C (way ++ [row * C + col]) = wayL C way ++ [[row, col]] := by
  unfold wayL
  rw [List.map_append, List.map_cons, List.map_nil]
  have e : row * C + col = col + row * C := by omega
  have e1 : (row * C + col) / C = row := by rw [e, Int.add_mul_ediv_right _ _ (by omega), Int.ediv_eq_zero_of_lt c0 c1, Int.zero_add]
  have e2 : (row * C + col) % C = col := by rw [e, Int.add_mul_emod_self_right]; exact Int.emod_eq_of_lt c0 c1
  rw [e1, e2]
theorem flGoL_ev {R C : Int} (g : List Int) (o : List S78) : ∀ (m : Nat) (row col side : Int) (cs : List S78) (way : List Int), GoodB R C cs → g.length = cs.length → row + m = R → 0 ≤ row → 0 ≤ col → col < C → -1 ≤ side → side ≤ 1 → (way.length : Int) ≤ row → Ev (fun k => spec_flGo.l0 k g col (wayL C way) side row R C o R C cs) ((fallGo R C g m row col side cs way).1, (fallGo R C g m row col side cs way).2.1, (fallGo R C g m row col side cs way).2.2.1, R, C, (fallGo R C g m row col side cs way).2.2.2.2, wayL C (fallGo R C g m row col side cs way).2.2.2.1) := by
  intro m
  induction m with
  | zero =>
    intro row col side cs way h hg hr h0 c0 c1 s0 s1 hw
    refine Ev.succ ?_
    simp only [spec_flGo.l0]
    exact Ev.neg (by omega) (Ev.now _)
  | succ m ih =>
    intro row col side cs way h hg hr h0 c0 c1 s0 s1 hw
    have b := h.idx h0 (show row < R by omega) c0 c1
    have l90 := h.len90
    have hc2 := h.c2
    have hr2 := h.r2
    have hgc := h.good _ (rdC_mem b.2.2.1 b.2.2.2)
    have hst := good_state hgc
    have hgo := goes_in hgc s0 s1
    have hp := h.pass g b.2.2.1 b.2.2.2
    refine Ev.succ ?_
    simp only [spec_flGo.l0, fallGo]
    have hwl : (wayL C way).length = way.length := by unfold wayL; exact List.length_map _
    rw [hwl, ← wayL_snoc c0 c1]
    refine Ev.pos (by omega) (Ev.pos (by omega) (Ev.bind (Ev.now _) (Ev.bind (Ev.val (boAt_ok h h0 (show row < R by omega) c0 c1)) ?_)))
    by_cases a5 : (rd_T78 cs (row * C + col)).f0 = 5
    · rw [if_pos a5]
      exact Ev.pos a5 (Ev.now _)
    rw [if_neg a5]
    refine Ev.neg a5 (Ev.bind (paGoes_ev hgc s0 s1) ?_)
    rw [w64 (x := row * C) (by omega) (by omega), w64 (x := row * C + col) (by omega) (by omega), w64 (x := col + goes (rd_T78 cs (row * C + col)) side) (by omega) (by omega), w64 (x := C - 1) (by omega) (by omega), w64 (x := -goes (rd_T78 cs (row * C + col)) side) (by omega) (by omega), w64 (x := row + 1) (by omega) (by omega)]
    refine Ev.bind (flPass_ev h g hg b.2.2.1 b.2.2.2) (Ev.bind (Ev.val (l1In_ok _ _ _)) ?_)
    by_cases n : 0 ≤ col + goes (rd_T78 cs (row * C + col)) side ∧ col + goes (rd_T78 cs (row * C + col)) side < C
    · rw [if_pos n]
      refine Ev.pos (inR_iff.2 ⟨n.1, by omega⟩) (ih _ _ _ _ _ hp (by rw [pass_len]; exact hg) (by omega) (by omega) (by omega) (by omega) (by omega) (by omega) ?_)
      rw [List.length_append]
      simp
      omega
    · rw [if_neg n]
      exact Ev.neg (fun hh => n (by have := inR_iff.1 hh; omega)) (Ev.now _)
theorem flGo_ev {R C : Int} {g : List Int} {cs : List S78} (h : GoodB R C cs) (hg : g.length = cs.length) {col : Int} (c0 : 0 ≤ col) (c1 : col < C) : Ev (fun k => spec_flGo.f k R C cs g col) ((fallGo R C g R.toNat 0 col 0 cs []).1, (fallGo R C g R.toNat 0 col 0 cs []).2.1, (fallGo R C g R.toNat 0 col 0 cs []).2.2.1, R, C, (fallGo R C g R.toNat 0 col 0 cs []).2.2.2.2, wayL C (fallGo R C g R.toNat 0 col 0 cs []).2.2.2.1) := by
  have hr := h.r1
  have l90 := h.len90
  unfold spec_flGo.f
  refine Ev.bind (Ev.val (boOwn_ok R C cs (by omega))) ?_
  exact flGoL_ev g cs R.toNat 0 col 0 cs [] h hg (by omega) (by omega) c0 c1 (by omega) (by omega) (by simp)
def fallR (R C : Int) (cs : List S78) (col : Int) : Int × Int × Int × List Int × List S78 := fallGo R C (groupsOf R C cs) R.toNat 0 col 0 cs []
theorem flRun_ev {R C : Int} {cs : List S78} (h : GoodB R C cs) {col : Int} (c0 : 0 ≤ col) (c1 : col < C) : Ev (fun k => spec_flRun.f k R C cs col) ((fallR R C cs col).1, (fallR R C cs col).2.1, (fallR R C cs col).2.2.1, R, C, (fallR R C cs col).2.2.2.2) := by
  unfold spec_flRun.f
  exact Ev.bind (ggGroups_ev h) (Ev.bind (flGo_ev h (groupsOf_len R C cs) c0 c1) (Ev.now _))
def endNum (C e col : Int) : Int := if e = 1 then col else if e = 2 then C else C + 1
theorem syEnd_ok {C : Int} (h0 : 0 ≤ C) (h1 : C ≤ 9) (R : Int) (cs : List S78) (e row col : Int) : spec_syEnd.f R C cs e row col = some (endNum C e col) := by
  unfold spec_syEnd.f endNum
  rw [w64 (x := C + 1) (by omega) (by omega)]
  split
  · rfl
  split <;> rfl
theorem endNumber_ok {C : Int} (h0 : 0 ≤ C) (h1 : C ≤ 9) (R : Int) (cs : List S78) (e row col : Int) : impl_endNumber.f R C cs e row col = some (endNum C e col) := by
  unfold impl_endNumber.f endNum
  rw [w64 (x := C + 1) (by omega) (by omega)]
  split
  · rfl
  split <;> rfl
theorem kind_at {cs ds : List S78} (h : cs.map (·.f0) = ds.map (·.f0)) (n : Int) : (rd_T78 cs n).f0 = (rd_T78 ds n).f0 := by
  have hl : cs.length = ds.length := by have := congrArg List.length h; simpa using this
  by_cases a : n.toNat < cs.length
  · have e1 : rd_T78 cs n = cs[n.toNat] := by unfold rd_T78; rw [List.getD_eq_getElem?_getD, List.getElem?_eq_getElem a]; rfl
    have e2 : rd_T78 ds n = ds[n.toNat] := by unfold rd_T78; rw [List.getD_eq_getElem?_getD, List.getElem?_eq_getElem (hl ▸ a)]; rfl
    have e3 : (cs.map (·.f0))[n.toNat]? = (ds.map (·.f0))[n.toNat]? := by rw [h]
    rw [List.getElem?_map, List.getElem?_map, List.getElem?_eq_getElem a, List.getElem?_eq_getElem (hl ▸ a)] at e3
    rw [e1, e2]
    exact Option.some.inj e3
  · unfold rd_T78
    rw [List.getD_eq_getElem?_getD, List.getD_eq_getElem?_getD, List.getElem?_eq_none (by omega), List.getElem?_eq_none (by omega)]
theorem geared_kind {c d : S78} (h : c.f0 = d.f0) : geared c = geared d := by unfold geared; rw [h]
theorem visit_kinds {cs ds : List S78} (h : cs.map (·.f0) = ds.map (·.f0)) (nx : Int) : ∀ (ns o q : List Int), visit cs nx ns o q = visit ds nx ns o q
  | [], o, q => rfl
  | n :: t, o, q => by rw [visit, visit, geared_kind (kind_at h n), visit_kinds h nx t, visit_kinds h nx t]
theorem bfs_kinds {cs ds : List S78} (h : cs.map (·.f0) = ds.map (·.f0)) (R C nx : Int) : ∀ (k : Nat) (o q : List Int), bfs R C cs nx k o q = bfs R C ds nx k o q
  | 0, o, q => rfl
  | k + 1, o, [] => rfl
  | k + 1, o, a :: q => by rw [bfs, bfs, visit_kinds h, bfs_kinds h R C nx k]
theorem grp_kinds {cs ds : List S78} (h : cs.map (·.f0) = ds.map (·.f0)) (R C : Int) : ∀ (m i : Nat) (nx : Int) (o : List Int), grp R C cs m i nx o = grp R C ds m i nx o
  | 0, i, nx, o => rfl
  | m + 1, i, nx, o => by
    have hl : cs.length = ds.length := by have := congrArg List.length h; simpa using this
    rw [grp, grp, geared_kind (kind_at h i), bfs_kinds h, hl, grp_kinds h R C m, grp_kinds h R C m]
theorem groupsOf_kinds {cs ds : List S78} (h : cs.map (·.f0) = ds.map (·.f0)) (R C : Int) : groupsOf R C cs = groupsOf R C ds := by
  have hl : cs.length = ds.length := by have := congrArg List.length h; simpa using this
  unfold groupsOf
  rw [hl, grp_kinds h]
theorem turnAll_kinds (g : List Int) (a : Int) (cs : List S78) : (turnAll g a cs).map (·.f0) = cs.map (·.f0) := by
  refine List.ext_getElem (by simp [turnAll_len]) (fun i h1 h2 => ?_)
  rw [List.getElem_map, List.getElem_map, turnAll_get g a cs i (by simpa using h2)]
  split
  · rfl
  · rfl
theorem pass_kinds (g : List Int) {a : Int} {cs : List S78} (h0 : 0 ≤ a) (h1 : a < (cs.length : Int)) : (pass g a cs).map (·.f0) = cs.map (·.f0) := by
  unfold pass
  split
  · have hl : a.toNat < cs.length := by omega
    have e1 : rd_T78 cs a = cs[a.toNat] := by unfold rd_T78; rw [List.getD_eq_getElem?_getD, List.getElem?_eq_getElem hl]; rfl
    rw [List.map_set, e1]
    have e2 : (flipped cs[a.toNat]).f0 = (cs.map (·.f0))[a.toNat]'(by simpa using hl) := by rw [List.getElem_map]; rfl
    rw [e2, List.set_getElem_self]
  · split
    · exact turnAll_kinds g a cs
    · rfl
theorem fallGo_keep {R C : Int} (g : List Int) : ∀ (m : Nat) (row col side : Int) (cs : List S78) (way : List Int), GoodB R C cs → row + m = R → 0 ≤ row → 0 ≤ col → col < C → -1 ≤ side → side ≤ 1 → GoodB R C (fallGo R C g m row col side cs way).2.2.2.2 ∧ (fallGo R C g m row col side cs way).2.2.2.2.map (·.f0) = cs.map (·.f0) := by
  intro m
  induction m with
  | zero => intro row col side cs way h hr h0 c0 c1 s0 s1; exact ⟨h, rfl⟩
  | succ m ih =>
    intro row col side cs way h hr h0 c0 c1 s0 s1
    have b := h.idx h0 (by omega) c0 c1
    have hgood := h.good _ (rdC_mem b.2.2.1 b.2.2.2)
    have hgo := goes_in hgood s0 s1
    have hp := h.pass g b.2.2.1 b.2.2.2
    have hk := pass_kinds g b.2.2.1 b.2.2.2
    rw [fallGo]
    split
    · exact ⟨h, rfl⟩
    · split
      case isTrue hin =>
        have e := ih (row + 1) _ (-goes (rd_T78 cs (row * C + col)) side) (pass g (row * C + col) cs) (way ++ [row * C + col]) hp (by omega) (by omega) hin.1 hin.2 (by omega) (by omega)
        exact ⟨e.1, e.2.trans hk⟩
      case isFalse => exact ⟨hp, hk⟩
theorem fallR_keep {R C : Int} {cs : List S78} (h : GoodB R C cs) {col : Int} (c0 : 0 ≤ col) (c1 : col < C) : GoodB R C (fallR R C cs col).2.2.2.2 ∧ (fallR R C cs col).2.2.2.2.map (·.f0) = cs.map (·.f0) := by
  have hr := h.r1
  exact fallGo_keep (groupsOf R C cs) R.toNat 0 col 0 cs [] h (by omega) (by omega) c0 c1 (by omega) (by omega)
def mixRound (a x : Int) : Int := Int.tmod (wrap64 ((Int.tmod (wrap64 ((wrap64 ((wrap64 (23 * a)) + x)) + 31)) 1000003) * (wrap64 ((wrap64 (Int.tdiv (Int.tmod (wrap64 ((wrap64 ((wrap64 (23 * a)) + x)) + 31)) 1000003) 16)) + 7)))) 1000003
def mixOf (l : List Int) : Int := (l ++ [4, 9]).foldl mixRound (wrap64 (5107 + (l.length : Int)))
theorem chMixL_ev (l : List Int) (hl : l.length ≤ 4611686018427387904) : ∀ (n i : Nat) (a : Int), i + n = l.length → Ev (fun k => spec_chMix.l0 k a l (l.length : Int) i) ((l.drop i).foldl mixRound a) := by
  intro n
  induction n with
  | zero =>
    intro i a hi
    refine Ev.succ ?_
    simp only [spec_chMix.l0]
    refine Ev.neg (by omega) (Ev.ret ?_)
    rw [List.drop_eq_nil_of_le (by omega)]; rfl
  | succ n ih =>
    intro i a hi
    refine Ev.succ ?_
    simp only [spec_chMix.l0]
    refine Ev.pos (by omega) (Ev.pos (by omega) (Ev.pos (by omega) ?_))
    rw [rd_at l i (by omega), w64 (x := (i : Int) + 1) (by omega) (by omega), List.drop_eq_getElem_cons (show i < l.length by omega)]
    exact ih (i + 1) _ (by omega)
theorem challengeMixL_ev (l : List Int) (hl : l.length ≤ 4611686018427387904) : ∀ (n i : Nat) (a : Int), i + n = l.length → Ev (fun k => impl_challengeMix.l0 k a l (l.length : Int) i) ((l.drop i).foldl mixRound a) := by
  intro n
  induction n with
  | zero =>
    intro i a hi
    refine Ev.succ ?_
    simp only [impl_challengeMix.l0]
    refine Ev.neg (by omega) (Ev.ret ?_)
    rw [List.drop_eq_nil_of_le (by omega)]; rfl
  | succ n ih =>
    intro i a hi
    refine Ev.succ ?_
    simp only [impl_challengeMix.l0]
    refine Ev.pos (by omega) (Ev.pos (by omega) (Ev.pos (by omega) ?_))
    rw [rd_at l i (by omega), w64 (x := (i : Int) + 1) (by omega) (by omega), List.drop_eq_getElem_cons (show i < l.length by omega)]
    exact ih (i + 1) _ (by omega)
theorem chMix_ev (l : List Int) (hl : l.length ≤ 1048576) : Ev (fun k => spec_chMix.f k l) (mixOf l) := by
  unfold spec_chMix.f spec_l1Own.f
  refine Ev.bind (a := l) (Ev.val ?_) ?_
  · simp only [Option.bind_some]
    rw [if_pos (by simp; omega)]; rfl
  · refine Ev.bind (Ev.now _) (Ev.pos (by simp; omega) (Ev.bind (Ev.now _) ?_))
    exact chMixL_ev (l ++ [4, 9]) (by simp; omega) _ 0 _ (Nat.zero_add _)
theorem challengeMix_ev (l : List Int) (hl : l.length ≤ 1048576) : Ev (fun k => impl_challengeMix.f k l) (mixOf l) := by
  unfold impl_challengeMix.f
  refine Ev.bind (Ev.now _) (Ev.pos (by simp; omega) (Ev.bind (Ev.now _) (Ev.bind (Ev.now _) (Ev.pos (by simp; omega) (Ev.bind (Ev.now _) ?_)))))
  exact challengeMixL_ev (l ++ [4, 9]) (by simp; omega) _ 0 _ (Nat.zero_add _)
theorem mixRound_in {a x : Int} (h0 : 0 ≤ a) (h1 : a ≤ 1100000) (x0 : 0 ≤ x) (x1 : x ≤ 1000000000) : 0 ≤ mixRound a x ∧ mixRound a x ≤ 1000002 := by
  unfold mixRound
  rw [w64 (x := 23 * a) (by omega) (by omega), w64 (x := 23 * a + x) (by omega) (by omega), w64 (x := 23 * a + x + 31) (by omega) (by omega)]
  have m0 := Int.tmod_nonneg 1000003 (show 0 ≤ 23 * a + x + 31 by omega)
  have m1 := Int.tmod_lt_of_pos (23 * a + x + 31) (show (0 : Int) < 1000003 by decide)
  generalize Int.tmod (23 * a + x + 31) 1000003 = m at m0 m1
  have d : Int.tdiv m 16 = m / 16 := Int.tdiv_eq_ediv_of_nonneg m0
  rw [d, w64 (x := m / 16) (by omega) (by omega), w64 (x := m / 16 + 7) (by omega) (by omega)]
  have b := mulb (x := m) (y := m / 16 + 7) (m := 1000002) (n := 62508) m0 (by omega) (by omega) (by omega)
  rw [w64 (x := m * (m / 16 + 7)) (by omega) (by omega)]
  have e1 := Int.tmod_lt_of_pos (m * (m / 16 + 7)) (show (0 : Int) < 1000003 by decide)
  exact ⟨Int.tmod_nonneg 1000003 b.1, by omega⟩
theorem mixOf_in (l : List Int) (hl : l.length ≤ 1000) (h : ∀ x ∈ l, 0 ≤ x ∧ x ≤ 1000000000) : 0 ≤ mixOf l := by
  have key : ∀ (l : List Int) (a : Int), (∀ x ∈ l, 0 ≤ x ∧ x ≤ 1000000000) → 0 ≤ a → a ≤ 1100000 → 0 ≤ l.foldl mixRound a ∧ l.foldl mixRound a ≤ 1100000 := by
    intro l
    induction l with
    | nil => intro a _ h0 h1; exact ⟨h0, h1⟩
    | cons x l ih =>
      intro a hx h0 h1
      have b := hx x List.mem_cons_self
      have e := mixRound_in h0 h1 b.1 b.2
      rw [List.foldl_cons]
      exact ih _ (fun y hy => hx y (List.mem_cons_of_mem _ hy)) e.1 (by omega)
  unfold mixOf
  rw [w64 (by omega) (by omega)]
  refine (key (l ++ [4, 9]) _ (fun x hx => ?_) (by omega) (by omega)).1
  rcases List.mem_append.1 hx with hx | hx
  · exact h x hx
  · simp at hx; omega
def keyOk (key R C : Int) : Bool := inR key 0 1000000000 && (inR R 1 3 && inR C 1 2)
def parts3 : List S78 := [(⟨1, 0⟩ : S78), (⟨2, 0⟩ : S78), (⟨3, 0⟩ : S78)]
theorem part_at {t : Int} (h0 : 0 < t) (h1 : t < 4) : rd_T78 parts3 (t - 1) = ⟨t, 0⟩ := by
  have : t = 1 ∨ t = 2 ∨ t = 3 := by omega
  rcases this with rfl | rfl | rfl <;> rfl
def hidGo (key : Int) : Nat → Nat → List S78 → List S78
  | 0, _, p => p
  | m + 1, i, p => hidGo key m (i + 1) (if Int.tmod (mixOf [key, (i : Int)]) 4 > 0 then p.set i ⟨Int.tmod (mixOf [key, (i : Int)]) 4, 0⟩ else p)
theorem kind_mod (x : Int) : Int.tmod x 4 < 4 := Int.tmod_lt_of_pos x (by decide)
theorem part_good {t : Int} (h0 : 0 < t) (h1 : t < 4) : goodCell (⟨t, 0⟩ : S78) = true := by
  have : t = 1 ∨ t = 2 ∨ t = 3 := by omega
  rcases this with rfl | rfl | rfl <;> decide
theorem hidGo_keep (key : Int) : ∀ (m i : Nat) (p : List S78), (∀ c ∈ p, goodCell c = true) → (∀ c ∈ hidGo key m i p, goodCell c = true) ∧ (hidGo key m i p).length = p.length := by
  intro m
  induction m with
  | zero => intro i p h; exact ⟨h, rfl⟩
  | succ m ih =>
    intro i p h
    rw [hidGo]
    split
    · rename_i hk
      have e := ih (i + 1) (p.set i ⟨Int.tmod (mixOf [key, (i : Int)]) 4, 0⟩) (fun c hc => (List.mem_or_eq_of_mem_set hc).elim (h c) (fun e => e ▸ part_good hk (kind_mod _)))
      rw [List.length_set] at e
      exact e
    · exact ih (i + 1) p h
def hidOf (key R C : Int) : List S78 := hidGo key (R * C).toNat 0 (List.replicate (R * C).toNat ⟨0, 0⟩)
theorem hidOf_good {key R C : Int} (h : keyOk key R C = true) : GoodB R C (hidOf key R C) := by
  unfold keyOk at h
  simp only [Bool.and_eq_true, inR_iff] at h
  have b := mulb (show 0 ≤ R by omega) h.2.1.2 (show 0 ≤ C by omega) h.2.2.2
  have k := hidGo_keep key (R * C).toNat 0 (List.replicate (R * C).toNat (⟨0, 0⟩ : S78)) (fun c hc => by rw [List.eq_of_mem_replicate hc]; decide)
  exact ⟨by omega, by omega, by omega, by omega, by rw [hidOf, k.2, List.length_replicate]; omega, k.1⟩
def afterR (R C : Int) (cs : List S78) : List Int → List S78
  | [] => cs
  | e :: es => afterR R C (fallR R C cs e).2.2.2.2 es
def endOn (R C : Int) (cs : List S78) (es : List Int) (e : Int) : Int := endNum C (fallR R C (afterR R C cs es) e).1 (fallR R C (afterR R C cs es) e).2.2.1
def endsR (R C : Int) (cs : List S78) : List Int → List Int
  | [] => []
  | e :: es => endNum C (fallR R C cs e).1 (fallR R C cs e).2.2.1 :: endsR R C (fallR R C cs e).2.2.2.2 es
theorem endsR_snoc (R C : Int) : ∀ (es : List Int) (cs : List S78) (e : Int), endsR R C cs (es ++ [e]) = endsR R C cs es ++ [endOn R C cs es e]
  | [], cs, e => rfl
  | x :: es, cs, e => by rw [List.cons_append, endsR, endsR, endsR_snoc R C es]; rfl
theorem endsR_len (R C : Int) : ∀ (es : List Int) (cs : List S78), (endsR R C cs es).length = es.length
  | [], cs => rfl
  | x :: es, cs => by rw [endsR, List.length_cons, endsR_len R C es, List.length_cons]
theorem chOwn_ok (R C : Int) (p : List S78) (e n : List Int) (hp : p.length ≤ 1000000) (he : e.length ≤ 1000000) (hn : n.length ≤ 1000000) : spec_chOwn.f R C p e n = some (R, C, p, e, n) := by
  unfold spec_chOwn.f spec_l1Own.f
  simp only [Option.bind_some, List.nil_append]
  rw [if_pos (by simp; omega), if_pos (by simp; omega), Option.bind_some, if_pos (by simp; omega), Option.bind_some]
theorem chEndOn_ev {R C : Int} (R' C' : Int) (P : List S78) (es ns : List Int) (hes : ∀ e ∈ es, 0 ≤ e ∧ e < C) (hl : es.length ≤ 1000) {e : Int} (e0 : 0 ≤ e) (e1 : e < C) {cs : List S78} (h : GoodB R C cs) : Ev (fun k => spec_chEndOn.f k R' C' P es ns R C cs e) (endOn R C cs es e) := by
  have key : ∀ (m i : Nat) (cs : List S78), i + m = es.length → GoodB R C cs → Ev (fun k => spec_chEndOn.l0 k e es (es.length : Int) i R C cs) (endOn R C cs (es.drop i) e) := by
    intro m
    induction m with
    | zero =>
      intro i cs hi hg
      refine Ev.succ ?_
      simp only [spec_chEndOn.l0]
      rw [List.drop_eq_nil_of_le (by omega)]
      refine Ev.neg (by omega) (Ev.bind (flRun_ev hg e0 e1) (Ev.bind (Ev.val (syEnd_ok (by have := hg.c1; omega) hg.c2 _ _ _ _ _)) (Ev.now _)))
    | succ m ih =>
      intro i cs hi hg
      have hlt : i < es.length := by omega
      have hb := hes _ (List.getElem_mem hlt)
      refine Ev.succ ?_
      simp only [spec_chEndOn.l0]
      rw [rd_at es i hlt, w64 (by omega) (by omega), List.drop_eq_getElem_cons hlt]
      refine Ev.pos (by omega) (Ev.pos (by omega) (Ev.pos (by omega) (Ev.bind (flRun_ev hg hb.1 hb.2) ?_)))
      exact ih (i + 1) _ (by omega) (fallR_keep hg hb.1 hb.2).1
  exact key es.length 0 cs (by omega) h
theorem chAdd_ev {R C : Int} (P : List S78) (hP : P.length ≤ 1000) (es ns : List Int) (hes : ∀ e ∈ es, 0 ≤ e ∧ e < C) (hl : es.length ≤ 1000) (hn : ns.length ≤ 1000) {e : Int} (e0 : 0 ≤ e) (e1 : e < C) {cs : List S78} (h : GoodB R C cs) : Ev (fun k => spec_chAdd.f k R C P es ns R C cs e) (R, C, P, es ++ [e], ns ++ [endOn R C cs es e]) := by
  unfold spec_chAdd.f
  refine Ev.bind (Ev.val (chOwn_ok R C P es ns (by omega) (by omega) (by omega))) (Ev.bind (chEndOn_ev R C P es ns hes hl e0 e1 h) ?_)
  exact Ev.pos (by simp only []; omega) (Ev.pos (by simp only []; omega) (Ev.now _))
def keysGo (key C : Int) : Nat → Int → List Int
  | 0, _ => []
  | m + 1, k => Int.tmod (mixOf [key, 1000, k]) C :: keysGo key C m (k + 1)
theorem key_in {key C k : Int} (h0 : 0 ≤ key) (h1 : key ≤ 1000000000) (k0 : 0 ≤ k) (k1 : k ≤ 1000) (hc : 1 ≤ C) : 0 ≤ Int.tmod (mixOf [key, 1000, k]) C ∧ Int.tmod (mixOf [key, 1000, k]) C < C := by
  have m := mixOf_in [key, 1000, k] (by simp) (fun x hx => by simp at hx; omega)
  exact ⟨Int.tmod_nonneg C m, Int.tmod_lt_of_pos _ (by omega)⟩
def keyA (key R C : Int) : Int × Int × List S78 × List Int × List Int × Bool := if keyOk key R C = true then (R, C, parts3, keysGo key C 4 0, endsR R C (hidOf key R C) (keysGo key C 4 0), true) else (0, 0, [], [], [], false)
theorem specKey_l1 {key R C : Int} (hk0 : 0 ≤ key) (hk1 : key ≤ 1000000000) {cs : List S78} (h : GoodB R C cs) : ∀ (m : Nat) (k : Int) (es : List Int), k + m = 4 → 0 ≤ k → (es.length : Int) = k → (∀ e ∈ es, 0 ≤ e ∧ e < C) → Ev (fun r => spec_ChallengeByKey.l1 r key C k R C parts3 es (endsR R C cs es) R C cs) (R, C, parts3, es ++ keysGo key C m k, endsR R C cs (es ++ keysGo key C m k), true) := by
  have hc := h.c1
  intro m
  induction m with
  | zero =>
    intro k es hk h0 hl hes
    refine Ev.succ ?_
    simp only [spec_ChallengeByKey.l1]
    exact Ev.neg (by omega) (Ev.ret (by simp [keysGo]))
  | succ m ih =>
    intro k es hk h0 hl hes
    refine Ev.succ ?_
    simp only [spec_ChallengeByKey.l1]
    have b := key_in (C := C) hk0 hk1 h0 (show k ≤ 1000 by omega) hc
    refine Ev.pos (by omega) (Ev.bind (chMix_ev _ (by simp)) (Ev.neg (by omega) (Ev.bind (chAdd_ev parts3 (by decide) es (endsR R C cs es) hes (by omega) (by rw [endsR_len]; omega) b.1 b.2 h) ?_)))
    rw [w64 (x := k + 1) (by omega) (by omega)]
    have e := ih (k + 1) (es ++ [Int.tmod (mixOf [key, 1000, k]) C]) (by omega) (by omega) (by simp; omega) (fun x hx => (List.mem_append.1 hx).elim (hes x) (fun q => by rw [List.mem_singleton.1 q]; exact b))
    rw [endsR_snoc] at e
    refine Ev.cast e ?_
    rw [keysGo, List.append_assoc]; rfl
theorem specKey_l0 (key R C : Int) (n : Nat) (hn : n ≤ 1000) (r : Int × Int × List S78 × List Int × List Int × Bool) : ∀ (m i : Nat) (p : List S78), i + m = n → p.length = n → Ev (fun k => spec_ChallengeByKey.l1 k key C 0 R C parts3 [] [] R C (hidGo key m i p)) r → Ev (fun k => spec_ChallengeByKey.l0 k key C (n : Int) i R C parts3 R C p) r := by
  intro m
  induction m with
  | zero =>
    intro i p hi hp hr
    refine Ev.succ ?_
    simp only [spec_ChallengeByKey.l0]
    exact Ev.neg (by omega) hr
  | succ m ih =>
    intro i p hi hp hr
    refine Ev.succ ?_
    simp only [spec_ChallengeByKey.l0]
    refine Ev.pos (by omega) (Ev.bind (chMix_ev _ (by simp)) ?_)
    rw [hidGo] at hr
    rw [w64 (x := (i : Int) + 1) (by omega) (by omega), Int.toNat_natCast]
    have b := kind_mod (mixOf [key, (i : Int)])
    by_cases a : Int.tmod (mixOf [key, (i : Int)]) 4 > 0
    · rw [if_pos a] at hr
      rw [w64 (x := Int.tmod (mixOf [key, (i : Int)]) 4 - 1) (by omega) (by omega), part_at a b]
      exact Ev.pos a (Ev.pos (by omega) (Ev.pos (by simp only [parts3, List.length_cons, List.length_nil]; omega) (Ev.pos (by omega) (Ev.pos (by omega) (ih (i + 1) _ (by omega) (by rw [List.length_set]; exact hp) hr)))))
    · rw [if_neg a] at hr
      exact Ev.neg a (ih (i + 1) p (by omega) hp hr)
theorem specKey_ev (key R C : Int) : Ev (fun k => spec_ChallengeByKey.f k key R C) (keyA key R C) := by
  unfold spec_ChallengeByKey.f
  have bad : keyOk key R C = false → Ev (fun k => spec_ChallengeByKey.j0 k key R C true) (keyA key R C) := by
    intro h
    refine Ev.succ ?_
    simp only [spec_ChallengeByKey.j0]
    exact Ev.pos trivial (Ev.ret (by rw [keyA, if_neg (by rw [h]; simp)]))
  refine Ev.bind (Ev.val (l1In_ok _ _ _)) ?_
  by_cases a1 : inR key 0 1000000000 = true
  case neg => exact Ev.neg a1 (bad (by rw [Bool.not_eq_true] at a1; rw [keyOk, a1]; rfl))
  refine Ev.pos a1 (Ev.bind (Ev.val (l1In_ok _ _ _)) ?_)
  by_cases a2 : inR R 1 3 = true
  case neg => exact Ev.neg a2 (bad (by rw [Bool.not_eq_true] at a2; rw [keyOk, a2, Bool.false_and, Bool.and_false]))
  refine Ev.pos a2 (Ev.bind (Ev.val (l1In_ok _ _ _)) ?_)
  by_cases a3 : inR C 1 2 = true
  case neg =>
    rw [Bool.not_eq_true] at a3
    rw [a3]
    exact bad (by rw [keyOk, a3, Bool.and_false, Bool.and_false])
  rw [a3]
  have hk : keyOk key R C = true := by rw [keyOk, a1, a2, a3]; rfl
  have h := hidOf_good hk
  have b1 := inR_iff.1 a1
  have le := h.le
  have h90 : 0 ≤ R * C ∧ R * C ≤ 90 := ⟨by omega, by omega⟩
  refine Ev.succ ?_
  simp only [spec_ChallengeByKey.j0]
  rw [w64 (x := R * C) (by omega) (by omega)]
  refine Ev.neg (by simp) (Ev.pos (by omega) (Ev.pos (by omega) (Ev.bind (Ev.now _) ?_)))
  rw [List.length_replicate]
  have e := specKey_l1 b1.1 b1.2 h 4 0 [] (by omega) (by omega) rfl (fun x hx => by simp at hx)
  rw [keyA, if_pos hk]
  exact specKey_l0 key R C (R * C).toNat (by omega) _ (R * C).toNat 0 _ (by omega) (by simp) e
def fallsR (R C : Int) (g : List Int) (cs : List S78) : List Int → List S90
  | [] => []
  | e :: es => ⟨(fallGo R C g R.toNat 0 e 0 cs []).1, (fallGo R C g R.toNat 0 e 0 cs []).2.1, (fallGo R C g R.toNat 0 e 0 cs []).2.2.1⟩ :: fallsR R C g (fallGo R C g R.toNat 0 e 0 cs []).2.2.2.2 es
theorem fallsR_ends {R C : Int} {g : List Int} : ∀ (es : List Int) (cs : List S78), GoodB R C cs → g = groupsOf R C cs → (∀ e ∈ es, 0 ≤ e ∧ e < C) → (fallsR R C g cs es).map (fun f => endNum C f.f0 f.f2) = endsR R C cs es
  | [], cs, _, _, _ => rfl
  | e :: es, cs, h, hg, hes => by
    have b := hes e List.mem_cons_self
    have k := fallR_keep h b.1 b.2
    have hf : fallGo R C g R.toNat 0 e 0 cs [] = fallR R C cs e := by rw [hg]; rfl
    rw [fallsR, endsR, List.map_cons, hf]
    rw [fallsR_ends es _ k.1 (hg.trans (groupsOf_kinds k.2 R C).symm) (fun x hx => hes x (List.mem_cons_of_mem _ hx))]
theorem fallsR_len (R C : Int) (g : List Int) : ∀ (es : List Int) (cs : List S78), (fallsR R C g cs es).length = es.length
  | [], cs => rfl
  | e :: es, cs => by rw [fallsR, List.length_cons, List.length_cons, fallsR_len R C g es]
theorem dropAll_ev {R C : Int} {cs : List S78} (h : GoodB R C cs) (es : List Int) (hes : ∀ e ∈ es, 0 ≤ e ∧ e < C) (hl : es.length ≤ 1000) : ∃ x : Int × Int × List S78, Ev (fun k => impl_dropAll.f k R C cs es) (fallsR R C (groupsOf R C cs) cs es, x.1, x.2.1, x.2.2) := by
  have l90 := h.len90
  have hr := h.r1
  have key : ∀ (g : List Int) (m i : Nat) (o : List S90) (p : List S78), i + m = es.length → o.length = i → GoodB R C p → g.length = p.length → ∃ x : Int × Int × List S78, Ev (fun k => impl_dropAll.l0 k g o es (es.length : Int) i R C p) (o ++ fallsR R C g p (es.drop i), x.1, x.2.1, x.2.2) := by
    intro g m
    induction m with
    | zero =>
      intro i o p hi ho hp hg
      refine ⟨(R, C, p), Ev.succ ?_⟩
      simp only [impl_dropAll.l0]
      rw [List.drop_eq_nil_of_le (by omega)]
      exact Ev.neg (by omega) (Ev.ret (by simp [fallsR]))
    | succ m ih =>
      intro i o p hi ho hp hg
      have hlt : i < es.length := by omega
      have hb := hes _ (List.getElem_mem hlt)
      have k := fallGo_keep g R.toNat 0 es[i] 0 p [] hp (by omega) (by omega) hb.1 hb.2 (by omega) (by omega)
      have kl : (fallGo R C g R.toNat 0 es[i] 0 p []).2.2.2.2.length = p.length := by have := congrArg List.length k.2; simpa using this
      obtain ⟨x, hx⟩ := ih (i + 1) (o ++ [⟨(fallGo R C g R.toNat 0 es[i] 0 p []).1, (fallGo R C g R.toNat 0 es[i] 0 p []).2.1, (fallGo R C g R.toNat 0 es[i] 0 p []).2.2.1⟩]) _ (by omega) (by simp; omega) k.1 (by rw [kl]; exact hg)
      refine ⟨x, Ev.succ ?_⟩
      simp only [impl_dropAll.l0]
      rw [rd_at es i hlt, w64 (by omega) (by omega)]
      refine Ev.pos (by omega) (Ev.pos (by omega) (Ev.pos (by omega) (Ev.bind (drop_ev hp hg hb.1 hb.2) (Ev.pos (by omega) (Ev.cast hx ?_)))))
      rw [List.drop_eq_getElem_cons hlt, fallsR, List.append_assoc]; rfl
  obtain ⟨x, hx⟩ := key (groupsOf R C cs) es.length 0 [] cs (by omega) rfl h (groupsOf_len R C cs)
  refine ⟨x, ?_⟩
  unfold impl_dropAll.f
  exact Ev.bind (Ev.val (copyBoard_ok R C cs (by omega))) (Ev.bind (groupNumbers_ev h) hx)
theorem rdF_at (l : List S90) (i : Nat) (h : i < l.length) : rd_T90 l (i : Int) = l[i] := by
  unfold rd_T90
  rw [Int.toNat_natCast, List.getD_eq_getElem?_getD, List.getElem?_eq_getElem h]; rfl
theorem implKey_l2 (R C R' C' : Int) (h0 : 0 ≤ C') (h1 : C' ≤ 9) (cs : List S78) (P : List S78) (es : List Int) (F : List S90) (hF : F.length ≤ 1000) : ∀ (m i : Nat) (o : List Int), i + m = F.length → o.length = i → Ev (fun k => impl_ChallengeByKey.l2 k F (F.length : Int) i R C P es o R' C' cs) (R, C, P, es, o ++ (F.drop i).map (fun f => endNum C' f.f0 f.f2), true) := by
  intro m
  induction m with
  | zero =>
    intro i o hi ho
    refine Ev.succ ?_
    simp only [impl_ChallengeByKey.l2]
    rw [List.drop_eq_nil_of_le (by omega)]
    exact Ev.neg (by omega) (Ev.ret (by simp))
  | succ m ih =>
    intro i o hi ho
    have hlt : i < F.length := by omega
    refine Ev.succ ?_
    simp only [impl_ChallengeByKey.l2]
    rw [rdF_at F i hlt, w64 (by omega) (by omega), List.drop_eq_getElem_cons hlt]
    refine Ev.pos (by omega) (Ev.pos (by omega) (Ev.pos (by omega) (Ev.bind (Ev.val (endNumber_ok h0 h1 _ _ _ _ _)) (Ev.pos (by omega) (Ev.cast (ih (i + 1) (o ++ [endNum C' F[i].f0 F[i].f2]) (by omega) (by simp; omega)) ?_)))))
    rw [List.map_cons, List.append_assoc]; rfl
theorem implKey_l1 {key R C : Int} (hk0 : 0 ≤ key) (hk1 : key ≤ 1000000000) {cs : List S78} (h : GoodB R C cs) : ∀ (m : Nat) (k : Int) (es : List Int), k + m = 4 → 0 ≤ k → (es.length : Int) = k → (∀ e ∈ es, 0 ≤ e ∧ e < C) → Ev (fun r => impl_ChallengeByKey.l1 r key C k R C parts3 es R C cs) (R, C, parts3, es ++ keysGo key C m k, endsR R C cs (es ++ keysGo key C m k), true) := by
  have hc := h.c1
  intro m
  induction m with
  | zero =>
    intro k es hk h0 hl hes
    obtain ⟨x, hx⟩ := dropAll_ev h es hes (by omega)
    refine Ev.succ ?_
    simp only [impl_ChallengeByKey.l1]
    refine Ev.neg (by omega) (Ev.bind hx ?_)
    have e := implKey_l2 R C R C (by omega) h.c2 cs parts3 es (fallsR R C (groupsOf R C cs) cs es) (by rw [fallsR_len]; omega) (fallsR R C (groupsOf R C cs) cs es).length 0 [] (by omega) rfl
    rw [List.drop_zero, fallsR_ends es cs h rfl hes] at e
    rw [keysGo, List.append_nil]
    exact e
  | succ m ih =>
    intro k es hk h0 hl hes
    refine Ev.succ ?_
    simp only [impl_ChallengeByKey.l1]
    have b := key_in (C := C) hk0 hk1 h0 (show k ≤ 1000 by omega) hc
    refine Ev.pos (by omega) (Ev.bind (challengeMix_ev _ (by simp)) (Ev.neg (by omega) (Ev.pos (by omega) ?_)))
    rw [w64 (x := k + 1) (by omega) (by omega)]
    have e := ih (k + 1) (es ++ [Int.tmod (mixOf [key, 1000, k]) C]) (by omega) (by omega) (by simp; omega) (fun x hx => (List.mem_append.1 hx).elim (hes x) (fun q => by rw [List.mem_singleton.1 q]; exact b))
    refine Ev.cast e ?_
    rw [keysGo, List.append_assoc]; rfl
theorem implKey_l0 (key R C : Int) (n : Nat) (hn : n ≤ 1000) (r : Int × Int × List S78 × List Int × List Int × Bool) : ∀ (m i : Nat) (p : List S78), i + m = n → p.length = n → Ev (fun k => impl_ChallengeByKey.l1 k key C 0 R C parts3 [] R C (hidGo key m i p)) r → Ev (fun k => impl_ChallengeByKey.l0 k key C (n : Int) i R C parts3 R C p) r := by
  intro m
  induction m with
  | zero =>
    intro i p hi hp hr
    refine Ev.succ ?_
    simp only [impl_ChallengeByKey.l0]
    exact Ev.neg (by omega) hr
  | succ m ih =>
    intro i p hi hp hr
    refine Ev.succ ?_
    simp only [impl_ChallengeByKey.l0]
    refine Ev.pos (by omega) (Ev.bind (challengeMix_ev _ (by simp)) ?_)
    rw [hidGo] at hr
    rw [w64 (x := (i : Int) + 1) (by omega) (by omega), Int.toNat_natCast]
    have b := kind_mod (mixOf [key, (i : Int)])
    by_cases a : Int.tmod (mixOf [key, (i : Int)]) 4 > 0
    · rw [if_pos a] at hr
      rw [w64 (x := Int.tmod (mixOf [key, (i : Int)]) 4 - 1) (by omega) (by omega), part_at a b]
      exact Ev.pos a (Ev.pos (by omega) (Ev.pos (by simp only [parts3, List.length_cons, List.length_nil]; omega) (Ev.pos (by omega) (Ev.pos (by omega) (ih (i + 1) _ (by omega) (by rw [List.length_set]; exact hp) hr)))))
    · rw [if_neg a] at hr
      exact Ev.neg a (ih (i + 1) p (by omega) hp hr)
theorem implKey_ev (key R C : Int) : Ev (fun k => impl_ChallengeByKey.f k key R C) (keyA key R C) := by
  unfold impl_ChallengeByKey.f
  have bad : keyOk key R C = false → Ev (fun k => impl_ChallengeByKey.j0 k key R C true) (keyA key R C) := by
    intro h
    refine Ev.succ ?_
    simp only [impl_ChallengeByKey.j0]
    exact Ev.pos trivial (Ev.ret (by rw [keyA, if_neg (by rw [h]; simp)]))
  have off : ∀ q : ¬ (0 ≤ key ∧ key ≤ 1000000000 ∧ 1 ≤ R ∧ R ≤ 3 ∧ 1 ≤ C ∧ C ≤ 2), keyOk key R C = false := by
    intro q
    refine Bool.eq_false_iff.mpr (fun k => ?_)
    unfold keyOk at k
    simp only [Bool.and_eq_true, inR_iff] at k
    omega
  by_cases a1 : key < 0
  · exact Ev.pos a1 (bad (off (by omega)))
  refine Ev.neg a1 ?_
  by_cases a2 : key > 1000000000
  · exact Ev.pos a2 (bad (off (by omega)))
  refine Ev.neg a2 ?_
  by_cases a3 : R < 1
  · exact Ev.pos a3 (bad (off (by omega)))
  refine Ev.neg a3 ?_
  by_cases a4 : R > 3
  · exact Ev.pos a4 (bad (off (by omega)))
  refine Ev.neg a4 ?_
  by_cases a5 : C < 1
  · exact Ev.pos a5 (bad (off (by omega)))
  refine Ev.neg a5 ?_
  by_cases a6 : C > 2
  · rw [decide_eq_true a6]
    exact bad (off (by omega))
  rw [decide_eq_false a6]
  have hk : keyOk key R C = true := by
    unfold keyOk
    simp only [Bool.and_eq_true, inR_iff]
    omega
  have h := hidOf_good hk
  have le := h.le
  have h90 : 0 ≤ R * C ∧ R * C ≤ 90 := ⟨by omega, by omega⟩
  refine Ev.succ ?_
  simp only [impl_ChallengeByKey.j0]
  rw [w64 (x := R * C) (by omega) (by omega)]
  refine Ev.neg (by simp) (Ev.pos (by omega) (Ev.pos (by omega) (Ev.bind (Ev.now _) ?_)))
  rw [List.length_replicate]
  have e := implKey_l1 (show 0 ≤ key by omega) (show key ≤ 1000000000 by omega) h 4 0 [] (by omega) (by omega) rfl (fun x hx => by simp at hx)
  rw [keyA, if_pos hk]
  exact implKey_l0 key R C (R * C).toNat (by omega) _ (R * C).toNat 0 _ (by omega) (by simp) e
def mkI : Nat → Int → List Int
  | 0, _ => []
  | n + 1, k => k :: mkI n (k + 1)
def mkC : Nat → Int → List S78
  | 0, _ => []
  | n + 1, k => ⟨k, k + 1⟩ :: mkC n (k + 2)
theorem mkI_len : ∀ (n : Nat) (k : Int), (mkI n k).length = n
  | 0, _ => rfl
  | n + 1, k => by rw [mkI, List.length_cons, mkI_len n]
theorem mkC_len : ∀ (n : Nat) (k : Int), (mkC n k).length = n
  | 0, _ => rfl
  | n + 1, k => by rw [mkC, List.length_cons, mkC_len n]
theorem markIL_ev : ∀ (m : Nat) (pre l : List Int) (k : Int), l.length = m → pre.length + m ≤ 4294967296 → 0 ≤ k → k + m ≤ 4294967296 → Ev (fun r => laws_markIntS.l0 r (pre ++ l) k (pre.length : Int)) (k + m, pre ++ mkI m k) := by
  intro m
  induction m with
  | zero =>
    intro pre l k hl h1 h2 h3
    obtain rfl := List.eq_nil_of_length_eq_zero hl
    refine Ev.succ ?_
    simp only [laws_markIntS.l0]
    rw [List.append_nil]
    exact Ev.neg (by omega) (Ev.ret (by simp [mkI]))
  | succ m ih =>
    intro pre l k hl h1 h2 h3
    cases l with
    | nil => simp at hl
    | cons x l =>
      simp only [List.length_cons] at hl
      refine Ev.succ ?_
      simp only [laws_markIntS.l0]
      refine Ev.pos (by simp; omega) (Ev.pos (by omega) ?_)
      rw [Int.toNat_natCast, set_at _ _ _ _ _ rfl, w64 (x := k + 1) (by omega) (by omega), w64 (x := (pre.length : Int) + 1) (by omega) (by omega)]
      have e := ih (pre ++ [k]) l (k + 1) (by omega) (by simp; omega) (by omega) (by omega)
      rw [List.append_assoc, List.length_append] at e
      have e2 : (((pre.length + [k].length : Nat)) : Int) = (pre.length : Int) + 1 := by simp
      rw [e2] at e
      refine Ev.cast e ?_
      rw [mkI, List.append_assoc]
      refine Prod.ext ?_ rfl
      simp
      omega
theorem markIntS_ev (l : List Int) (k : Int) (h1 : l.length ≤ 2147483648) (h2 : 0 ≤ k) (h3 : k ≤ 2147483648) : Ev (fun r => laws_markIntS.f r l k) (k + l.length, mkI l.length k) := by
  have := markIL_ev l.length [] l k rfl (by simp; omega) h2 (by omega)
  exact this
theorem heldIL_ev : ∀ (m : Nat) (pre : List Int) (k : Int), pre.length + m ≤ 4294967296 → 0 ≤ k → k + m ≤ 4294967296 → Ev (fun r => laws_heldIntS.l0 r (pre ++ mkI m k) k (pre.length : Int)) (k + m) := by
  intro m
  induction m with
  | zero =>
    intro pre k h1 h2 h3
    refine Ev.succ ?_
    simp only [laws_heldIntS.l0, mkI]
    exact Ev.neg (by simp) (Ev.ret (by simp))
  | succ m ih =>
    intro pre k h1 h2 h3
    refine Ev.succ ?_
    simp only [laws_heldIntS.l0]
    have hr : rd (pre ++ mkI (m + 1) k) (pre.length : Int) = k := by
      rw [rd_at _ _ (by rw [List.length_append, mkI_len]; omega), List.getElem_append_right (Nat.le_refl _)]
      simp [mkI]
    rw [hr, w64 (x := k + 1) (by omega) (by omega), w64 (x := (pre.length : Int) + 1) (by omega) (by omega)]
    refine Ev.pos (by rw [List.length_append, mkI_len]; omega) (Ev.pos (by omega) (Ev.pos rfl ?_))
    have e := ih (pre ++ [k]) (k + 1) (by simp; omega) (by omega) (by omega)
    rw [List.append_assoc, List.length_append] at e
    have e2 : (((pre.length + [k].length : Nat)) : Int) = (pre.length : Int) + 1 := by simp
    rw [e2] at e
    exact Ev.cast e (by omega)
theorem heldIntS_ev (n : Nat) (k : Int) (h1 : n ≤ 2147483648) (h2 : 0 ≤ k) (h3 : k ≤ 2147483648) : Ev (fun r => laws_heldIntS.f r (mkI n k) k) (k + n) := by
  have := heldIL_ev n [] k (by simp; omega) h2 (by omega)
  exact this
theorem markCL_ev : ∀ (m : Nat) (pre l : List S78) (k : Int), l.length = m → pre.length + m ≤ 4294967296 → 0 ≤ k → k + 2 * m ≤ 4294967296 → Ev (fun r => laws_markCellS.l0 r (pre ++ l) k (pre.length : Int)) (k + 2 * m, pre ++ mkC m k) := by
  intro m
  induction m with
  | zero =>
    intro pre l k hl h1 h2 h3
    obtain rfl := List.eq_nil_of_length_eq_zero hl
    refine Ev.succ ?_
    simp only [laws_markCellS.l0]
    rw [List.append_nil]
    exact Ev.neg (by omega) (Ev.ret (by simp [mkC]))
  | succ m ih =>
    intro pre l k hl h1 h2 h3
    cases l with
    | nil => simp at hl
    | cons x l =>
      simp only [List.length_cons] at hl
      refine Ev.succ ?_
      simp only [laws_markCellS.l0]
      refine Ev.pos (by simp; omega) (Ev.pos (by omega) (Ev.bind (Ev.now _) ?_))
      rw [Int.toNat_natCast, set_at _ _ _ _ _ rfl, set_at _ _ _ _ _ rfl, w64 (x := k + 1) (by omega) (by omega), w64 (x := k + 1 + 1) (by omega) (by omega), w64 (x := (pre.length : Int) + 1) (by omega) (by omega)]
      have hr : (rd_T78 (pre ++ (⟨k, (rd_T78 (pre ++ x :: l) (pre.length : Int)).f1⟩ : S78) :: l) (pre.length : Int)).f0 = k := by
        rw [rdC_at _ _ (by simp), List.getElem_append_right (Nat.le_refl _)]
        simp
      rw [hr]
      have e := ih (pre ++ [⟨k, k + 1⟩]) l (k + 2) (by omega) (by simp; omega) (by omega) (by omega)
      rw [List.append_assoc, List.length_append] at e
      have e2 : (((pre.length + [(⟨k, k + 1⟩ : S78)].length : Nat)) : Int) = (pre.length : Int) + 1 := by simp
      rw [e2] at e
      have e3 : k + 1 + 1 = k + 2 := by omega
      rw [e3]
      refine Ev.cast e ?_
      rw [mkC, List.append_assoc]
      refine Prod.ext ?_ rfl
      simp
      omega
theorem markCellS_ev (l : List S78) (k : Int) (h1 : l.length ≤ 1073741824) (h2 : 0 ≤ k) (h3 : k ≤ 2147483648) : Ev (fun r => laws_markCellS.f r l k) (k + 2 * l.length, mkC l.length k) := by
  have := markCL_ev l.length [] l k rfl (by simp; omega) h2 (by omega)
  exact this
theorem heldCL_ev : ∀ (m : Nat) (pre : List S78) (k : Int), pre.length + m ≤ 4294967296 → 0 ≤ k → k + 2 * m ≤ 4294967296 → Ev (fun r => laws_heldCellS.l0 r (pre ++ mkC m k) k (pre.length : Int)) (k + 2 * m) := by
  intro m
  induction m with
  | zero =>
    intro pre k h1 h2 h3
    refine Ev.succ ?_
    simp only [laws_heldCellS.l0, mkC]
    exact Ev.neg (by simp) (Ev.ret (by simp))
  | succ m ih =>
    intro pre k h1 h2 h3
    refine Ev.succ ?_
    simp only [laws_heldCellS.l0]
    have hr : rd_T78 (pre ++ mkC (m + 1) k) (pre.length : Int) = ⟨k, k + 1⟩ := by
      rw [rdC_at _ _ (by rw [List.length_append, mkC_len]; omega), List.getElem_append_right (Nat.le_refl _)]
      simp [mkC]
    rw [hr, w64 (x := k + 1) (by omega) (by omega), w64 (x := k + 1 + 1) (by omega) (by omega), w64 (x := (pre.length : Int) + 1) (by omega) (by omega)]
    refine Ev.pos (by rw [List.length_append, mkC_len]; omega) (Ev.pos (by omega) (Ev.pos rfl (Ev.pos rfl ?_)))
    have e := ih (pre ++ [⟨k, k + 1⟩]) (k + 2) (by simp; omega) (by omega) (by omega)
    rw [List.append_assoc, List.length_append] at e
    have e2 : (((pre.length + [(⟨k, k + 1⟩ : S78)].length : Nat)) : Int) = (pre.length : Int) + 1 := by simp
    rw [e2] at e
    have e3 : k + 1 + 1 = k + 2 := by omega
    rw [e3]
    exact Ev.cast e (by omega)
theorem heldCellS_ev (n : Nat) (k : Int) (h1 : n ≤ 1073741824) (h2 : 0 ≤ k) (h3 : k ≤ 2147483648) : Ev (fun r => laws_heldCellS.f r (mkC n k) k) (k + 2 * n) := by
  have := heldCL_ev n [] k (by simp; omega) h2 (by omega)
  exact this
theorem markChallenge_ev (R C : Int) (p : List S78) (e n : List Int) (hp : p.length ≤ 1048576) (he : e.length ≤ 1048576) (hn : n.length ≤ 1048576) :
    Ev (fun k => laws_markChallenge.f k R C p e n 1) (1 + 2 * p.length + e.length + n.length, mkC p.length 1, mkI e.length (1 + 2 * p.length), mkI n.length (1 + 2 * p.length + e.length)) := by
  unfold laws_markChallenge.f
  exact Ev.bind (markCellS_ev p 1 (by omega) (by omega) (by omega)) (Ev.bind (markIntS_ev e _ (by omega) (by omega) (by omega)) (Ev.bind (markIntS_ev n _ (by omega) (by omega) (by omega)) (Ev.now _)))
theorem heldChallenge_ev (R C : Int) (a b c : Nat) (hp : a ≤ 1048576) (he : b ≤ 1048576) (hn : c ≤ 1048576) :
    Ev (fun k => laws_heldChallenge.f k R C (mkC a 1) (mkI b (1 + 2 * a)) (mkI c (1 + 2 * a + b)) 1) (1 + 2 * a + b + c) := by
  unfold laws_heldChallenge.f
  refine Ev.bind (heldCellS_ev a 1 (by omega) (by omega) (by omega)) (Ev.neg (by omega) (Ev.bind (heldIntS_ev b _ (by omega) (by omega) (by omega)) (Ev.neg (by omega) (Ev.bind (heldIntS_ev c _ (by omega) (by omega) (by omega)) (Ev.neg (by omega) (Ev.now _))))))
theorem eqChallenge_ev (r c r' c' : Int) (p p' : List S78) (e n e' n' : List Int) (hp : p.length ≤ 1048576) (he : e.length ≤ 1048576) (hn : n.length ≤ 1048576) :
    Ev (fun k => laws_eqChallenge.f k r c p e n r' c' p' e' n') (decide (r = r' ∧ c = c' ∧ p = p' ∧ e = e' ∧ n = n')) := by
  unfold laws_eqChallenge.f
  by_cases h1 : r = r'
  case neg => exact Ev.neg h1 (Ev.ret (by simp [h1]))
  refine Ev.pos h1 ?_
  by_cases h2 : c = c'
  case neg => exact Ev.neg h2 (Ev.ret (by simp [h2]))
  refine Ev.pos h2 (Ev.bind (eqCellS_ev p p' (by omega)) ?_)
  by_cases h3 : p = p'
  case neg => exact Ev.neg (by simp [h3]) (Ev.ret (by simp [h3]))
  refine Ev.pos (by simp [h3]) (Ev.bind (eqIntS_ev e e' (by omega)) ?_)
  by_cases h4 : e = e'
  case neg => exact Ev.neg (by simp [h4]) (Ev.ret (by simp [h4]))
  refine Ev.pos (by simp [h4]) (Ev.bind (eqIntS_ev n n' (by omega)) ?_)
  by_cases h5 : n = n'
  case neg => exact Ev.neg (by simp [h5]) (Ev.ret (by simp [h5]))
  exact Ev.pos (by simp [h5]) (Ev.ret (by simp [h1, h2, h3, h4, h5]))
theorem FnExactChallengeByKey : StmtFnExactChallengeByKey.Stmt := by
  intro key R C _ _ _
  refine Ev.rounds ?_
  unfold laws_FnExactChallengeByKey.f
  have hS := specKey_ev key R C
  have hI := implKey_ev key R C
  have hl : (keyA key R C).2.2.1.length ≤ 1048576 ∧ (keyA key R C).2.2.2.1.length ≤ 1048576 ∧ (keyA key R C).2.2.2.2.1.length ≤ 1048576 := by
    unfold keyA
    split
    · refine ⟨show parts3.length ≤ 1048576 from by decide, ?_, ?_⟩
      · simp [keysGo]
      · simp only [endsR_len]; simp [keysGo]
    · simp
  generalize keyA key R C = A at hS hI hl
  obtain ⟨l1, l2, l3⟩ := hl
  have heq : Ev (fun k => laws_eqChallenge.f k A.1 A.2.1 A.2.2.1 A.2.2.2.1 A.2.2.2.2.1 A.1 A.2.1 A.2.2.1 A.2.2.2.1 A.2.2.2.2.1) true := Ev.cast (eqChallenge_ev _ _ _ _ _ _ _ _ _ _ l1 l2 l3) (by simp)
  have hh := heldChallenge_ev A.1 A.2.1 A.2.2.1.length A.2.2.2.1.length A.2.2.2.2.1.length l1 l2 l3
  refine Ev.bind hS (Ev.bind hI (Ev.bind heq (Ev.pos rfl (Ev.succ ?_))))
  simp only [laws_FnExactChallengeByKey.j0]
  refine Ev.neg (by simp) (Ev.bind (markChallenge_ev _ _ _ _ _ l1 l2 l3) (Ev.bind hh (Ev.neg (by omega) (Ev.pos rfl ?_))))
  refine Ev.bind hI (Ev.bind heq (Ev.pos rfl (Ev.succ ?_)))
  simp only [laws_FnExactChallengeByKey.j1]
  exact Ev.neg (by simp) (Ev.bind hh (Ev.neg (by omega) (Ev.pos rfl (Ev.now _))))
end Go.Proofs.Ytjogiiobaakjkaa.Pure
