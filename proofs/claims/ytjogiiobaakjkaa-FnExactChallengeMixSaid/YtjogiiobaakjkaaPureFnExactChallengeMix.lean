/- Proved: the statement FnExactChallengeMix of the given program, for every input that the statement speaks of. No further conditions. -/
import Derived.Test.YtjogiiobaakjkaaPFnExactChallengeMixx2
import Derived.Test.YtjogiiobaakjkaaWSized
namespace Go.Proofs.Ytjogiiobaakjkaa.PrintWords
open Go.ChangeShapes Go.WideShapes Go.RowKit
theorem sized_ints {H : Type} {enc : TypeId × Value → H} {P : Program} {W : World} {base : Nat} {spare : Nat → Bool} {held : Bool} {t e : TypeId} {k : IntKind} {a : Option Addr} {len cap : Nat} {d : DataW H} {ps : List MemPlace} {ts : List TypeId} {ds : List (DataW H)} {j : Nat} (hsz : (DataW.weightsEach P ts ds).all (· ≤ reachBytes) = true) (ht : ts[j]? = some t) (hd : ds[j]? = some d) (hu : P.underlying t = some (.slice e)) (he : P.underlying e = some (.int k)) (hc : P.cellsOf e = 1) {B : Nat} (hB : P.bytesOf e = B) (h : DataW.Trod enc P W base spare held t (.slice a len cap) d ps) : len * B ≤ 140737488351232 := Go.Proofs.YtjogiiobaakjkaaW.PrintWords.sized_ints hsz ht hd hu he hc hB h
end Go.Proofs.Ytjogiiobaakjkaa.PrintWords
namespace Go.Proofs.Ytjogiiobaakjkaa.Pure
open Go.RowKit Go.Proofs.Ytjogiiobaakjkaa.PFnExactChallengeMix Go.Proofs.YtjogiiobaakjkaaW.PrintWords Go.Proofs.YtjogiiobaakjkaaW.PrintLast

/-! Ev: small words -/
theorem Ev.succ {α : Type} {g : Nat → Option α} {r : α} (h : Ev (fun k => g (k + 1)) r) : Ev g r := Ev.step (fun _ => rfl) h
theorem Ev.pos {α : Type} {c : Prop} [Decidable c] {f g : Nat → Option α} {r : α} (hc : c) (h : Ev f r) : Ev (fun k => if c then f k else g k) r := Ev.congr (fun _ => if_pos hc) h
theorem Ev.neg {α : Type} {c : Prop} [Decidable c] {f g : Nat → Option α} {r : α} (hc : ¬ c) (h : Ev g r) : Ev (fun k => if c then f k else g k) r := Ev.congr (fun _ => if_neg hc) h
theorem Ev.ite {α : Type} {c : Prop} [Decidable c] {f g : Nat → Option α} {r s : α} (h : c → Ev f r) (h' : ¬ c → Ev g s) : Ev (fun k => if c then f k else g k) (if c then r else s) := by
  by_cases hc : c
  · rw [if_pos hc]; exact Ev.pos hc (h hc)
  · rw [if_neg hc]; exact Ev.neg hc (h' hc)
theorem Ev.ret {α : Type} {r s : α} (h : s = r) : Ev (fun _ => some s) r := by subst h; exact Ev.now _
theorem Ev.val {α : Type} {o : Option α} {r : α} (h : o = some r) : Ev (fun _ => o) r := ⟨0, fun _ _ => h⟩
theorem Ev.cast {α : Type} {g : Nat → Option α} {r s : α} (h : Ev g s) (e : s = r) : Ev g r := e ▸ h
theorem Ev.uniq {α : Type} {g : Nat → Option α} {r s : α} (h : Ev g r) (h' : Ev g s) : r = s := by
  obtain ⟨K, h⟩ := h
  obtain ⟨K', h'⟩ := h'
  have a := h (max K K') (Nat.le_max_left _ _)
  have b := h' (max K K') (Nat.le_max_right _ _)
  rw [a] at b
  exact Option.some.inj b
theorem w64 {x : Int} (h : -9223372036854775808 ≤ x) (h' : x ≤ 9223372036854775807) : wrap64 x = x := by unfold wrap64; omega
theorem rd_at (l : List Int) (i : Nat) (h : i < l.length) : rd l (i : Int) = l[i] := by
  unfold rd
  rw [Int.toNat_natCast, List.getD_eq_getElem?_getD, List.getElem?_eq_getElem h]; rfl
theorem eqIntS_ev (a b : List Int) (ha : a.length ≤ 4611686018427387904) : Ev (fun k => laws_eqIntS.f k a b) (decide (a = b)) := by
  have key : ∀ (n i : Nat), a.length = b.length → i + n = a.length → Ev (fun k => laws_eqIntS.l0 k a b i) (decide (a.drop i = b.drop i)) := by
    intro n
    induction n with
    | zero =>
      intro i hl hi
      refine Ev.succ ?_
      simp only [laws_eqIntS.l0]
      refine Ev.neg (by omega) (Ev.ret ?_)
      rw [List.drop_eq_nil_of_le (by omega), List.drop_eq_nil_of_le (by omega)]; simp
    | succ n ih =>
      intro i hl hi
      refine Ev.succ ?_
      simp only [laws_eqIntS.l0]
      refine Ev.pos (by omega) (Ev.pos (by omega) (Ev.pos (by omega) ?_))
      rw [rd_at a i (by omega), rd_at b i (by omega), w64 (by omega) (by omega)]
      have e := ih (i + 1) hl (by omega)
      rw [List.drop_eq_getElem_cons (show i < a.length by omega), List.drop_eq_getElem_cons (show i < b.length by omega)]
      by_cases hc : a[i] = b[i]
      · refine Ev.pos hc (Ev.cast e ?_)
        rw [hc]
        simp only [List.cons.injEq, true_and]
      · exact Ev.neg hc (Ev.ret (by simp only [List.cons.injEq, hc, false_and, decide_false]))
  show Ev (fun k => if (a.length : Int) = (b.length : Int) then laws_eqIntS.l0 k a b 0 else some false) _
  by_cases hl : a.length = b.length
  · exact Ev.pos (by omega) (key a.length 0 hl (by omega))
  · refine Ev.neg (by omega) (Ev.ret ?_)
    have : a ≠ b := fun h => hl (by rw [h])
    simp [this]
theorem set_at {α : Type} (p q : List α) (x y : α) (i : Nat) (hi : p.length = i) : (p ++ x :: q).set i y = p ++ y :: q := by
  subst hi; simp
theorem toIntS_ev (a : List Int) (ha : a.length ≤ 17592186044415) : Ev (fun k => laws_toIntS.f k a) a := by
  have key : ∀ (n i : Nat), i + n = a.length → Ev (fun k => laws_toIntS.l0 k a (a.take i ++ List.replicate n 0) i) a := by
    intro n
    induction n with
    | zero =>
      intro i hi
      refine Ev.succ ?_
      simp only [laws_toIntS.l0]
      refine Ev.neg (by omega) (Ev.ret ?_)
      rw [List.take_of_length_le (by omega)]; simp
    | succ n ih =>
      intro i hi
      refine Ev.succ ?_
      simp only [laws_toIntS.l0]
      have hl : (a.take i ++ List.replicate (n + 1) (0 : Int)).length = a.length := by simp; omega
      refine Ev.pos (by omega) (Ev.pos (by omega) (Ev.pos (by rw [hl]; omega) ?_))
      rw [rd_at a i (by omega), w64 (by omega) (by omega)]
      have e : (a.take i ++ List.replicate (n + 1) (0 : Int)).set (i : Int).toNat a[i] = a.take (i + 1) ++ List.replicate n 0 := by
        rw [List.replicate_succ, set_at _ _ _ _ _ (by simp; omega), List.take_succ_eq_append_getElem (by omega), List.append_assoc]; rfl
      rw [e]
      exact ih (i + 1) (by omega)
  show Ev (fun k => if 0 ≤ (a.length : Int) then (if ((a.length : Int) : Int).toNat ≤ 35184372088832 then (laws_toIntS.l0 k a (List.replicate ((a.length : Int) : Int).toNat 0) 0) else none) else none) a
  refine Ev.pos (by omega) (Ev.pos (by omega) ?_)
  have := key a.length 0 (by omega)
  simpa using this
def mixRound (a x : Int) : Int := Int.tmod (wrap64 ((Int.tmod (wrap64 ((wrap64 ((wrap64 (23 * a)) + x)) + 31)) 1000003) * (wrap64 ((wrap64 (Int.tdiv (Int.tmod (wrap64 ((wrap64 ((wrap64 (23 * a)) + x)) + 31)) 1000003) 16)) + 7)))) 1000003
def mixOf (l : List Int) : Int := (l ++ [4, 9]).foldl mixRound (wrap64 (5107 + (l.length : Int)))
theorem l1All_ev (l : List Int) (lo hi : Int) (hl : l.length ≤ 4611686018427387904) : Ev (fun k => spec_l1All.f k l lo hi) (l.all fun x => decide (lo ≤ x) && decide (x ≤ hi)) := by
  have key : ∀ (n i : Nat), i + n = l.length → Ev (fun k => spec_l1All.l0 k lo hi l (l.length : Int) i) ((l.drop i).all fun x => decide (lo ≤ x) && decide (x ≤ hi)) := by
    intro n
    induction n with
    | zero =>
      intro i hi
      refine Ev.succ ?_
      simp only [spec_l1All.l0]
      refine Ev.neg (by omega) (Ev.ret ?_)
      rw [List.drop_eq_nil_of_le (by omega)]; rfl
    | succ n ih =>
      intro i hi'
      refine Ev.succ ?_
      simp only [spec_l1All.l0]
      refine Ev.pos (by omega) (Ev.pos (by omega) (Ev.pos (by omega) ?_))
      rw [rd_at l i (by omega), w64 (by omega) (by omega), List.drop_eq_getElem_cons (show i < l.length by omega)]
      have e := ih (i + 1) (by omega)
      simp only [spec_l1In.f]
      refine Ev.bind (a := decide (lo ≤ l[i]) && decide (l[i] ≤ hi)) (Ev.val ?_) ?_
      · by_cases h : lo ≤ l[i]
        · rw [if_pos (by omega)]; simp [h]
        · rw [if_neg (by omega)]; simp [h]
      · by_cases h : (decide (lo ≤ l[i]) && decide (l[i] ≤ hi)) = true
        · refine Ev.pos h (Ev.cast e ?_)
          rw [List.all_cons, h, Bool.true_and]
        · refine Ev.neg h (Ev.ret ?_)
          rw [List.all_cons, Bool.eq_false_iff.mpr h]; rfl
  exact key l.length 0 (by omega)
theorem chMixL_ev (l : List Int) (hl : l.length ≤ 4611686018427387904) : ∀ (n i : Nat) (a : Int), i + n = l.length → Ev (fun k => spec_chMix.l0 k a l (l.length : Int) i) ((l.drop i).foldl mixRound a) := by
  intro n
  induction n with
  | zero =>
    intro i a hi
    refine Ev.succ ?_
    simp only [spec_chMix.l0]
    refine Ev.neg (by omega) (Ev.ret ?_)
    rw [List.drop_eq_nil_of_le (by omega)]; rfl
  | succ n ih =>
    intro i a hi
    refine Ev.succ ?_
    simp only [spec_chMix.l0]
    refine Ev.pos (by omega) (Ev.pos (by omega) (Ev.pos (by omega) ?_))
    rw [rd_at l i (by omega), w64 (x := (i : Int) + 1) (by omega) (by omega), List.drop_eq_getElem_cons (show i < l.length by omega)]
    exact ih (i + 1) _ (by omega)
theorem challengeMixL_ev (l : List Int) (hl : l.length ≤ 4611686018427387904) : ∀ (n i : Nat) (a : Int), i + n = l.length → Ev (fun k => impl_challengeMix.l0 k a l (l.length : Int) i) ((l.drop i).foldl mixRound a) := by
  intro n
  induction n with
  | zero =>
    intro i a hi
    refine Ev.succ ?_
    simp only [impl_challengeMix.l0]
    refine Ev.neg (by omega) (Ev.ret ?_)
    rw [List.drop_eq_nil_of_le (by omega)]; rfl
  | succ n ih =>
    intro i a hi
    refine Ev.succ ?_
    simp only [impl_challengeMix.l0]
    refine Ev.pos (by omega) (Ev.pos (by omega) (Ev.pos (by omega) ?_))
    rw [rd_at l i (by omega), w64 (x := (i : Int) + 1) (by omega) (by omega), List.drop_eq_getElem_cons (show i < l.length by omega)]
    exact ih (i + 1) _ (by omega)
theorem chMix_ev (l : List Int) (hl : l.length ≤ 1048576) : Ev (fun k => spec_chMix.f k l) (mixOf l) := by
  unfold spec_chMix.f spec_l1Own.f
  refine Ev.bind (a := l) (Ev.val ?_) ?_
  · simp only [Option.bind_some]
    rw [if_pos (by simp; omega)]; rfl
  · refine Ev.bind (Ev.now _) (Ev.pos (by simp; omega) (Ev.bind (Ev.now _) ?_))
    exact chMixL_ev (l ++ [4, 9]) (by simp; omega) _ 0 _ (Nat.zero_add _)
theorem challengeMix_ev (l : List Int) (hl : l.length ≤ 1048576) : Ev (fun k => impl_challengeMix.f k l) (mixOf l) := by
  unfold impl_challengeMix.f
  refine Ev.bind (Ev.now _) (Ev.pos (by simp; omega) (Ev.bind (Ev.now _) (Ev.bind (Ev.now _) (Ev.pos (by simp; omega) (Ev.bind (Ev.now _) ?_)))))
  exact challengeMixL_ev (l ++ [4, 9]) (by simp; omega) _ 0 _ (Nat.zero_add _)
def mixGood (l : List Int) : Bool := decide (l.length ≤ 5) && l.all fun x => decide (0 ≤ x) && decide (x ≤ 1000000000)
def mixAns (l : List Int) : Int × Bool := if mixGood l then (mixOf l, true) else (0, false)
theorem ChallengeMix_spec (l : List Int) (hl : l.length ≤ 1048576) : Ev (fun k => spec_ChallengeMix.f k l) (mixAns l) := by
  unfold spec_ChallengeMix.f mixAns mixGood
  by_cases h : (l.length : Int) > 5
  · refine Ev.pos h (Ev.ret ?_)
    rw [decide_eq_false (show ¬ l.length ≤ 5 by omega)]; rfl
  · refine Ev.neg h ?_
    rw [decide_eq_true (show l.length ≤ 5 by omega), Bool.true_and]
    refine Ev.bind (l1All_ev l 0 1000000000 (by omega)) ?_
    by_cases g : (l.all fun x => decide (0 ≤ x) && decide (x ≤ 1000000000)) = true
    · rw [if_pos g]
      exact Ev.pos g (Ev.bind (chMix_ev l hl) (Ev.now _))
    · rw [if_neg g]
      exact Ev.neg g (Ev.now _)
theorem ChallengeMix_impl (l : List Int) (hl : l.length ≤ 1048576) : Ev (fun k => impl_ChallengeMix.f k l) (mixAns l) := by
  have key : ∀ (n i : Nat), i + n = l.length → Ev (fun k => impl_ChallengeMix.l0 k l l (l.length : Int) i) (if ((l.drop i).all fun x => decide (0 ≤ x) && decide (x ≤ 1000000000)) = true then (mixOf l, true) else (0, false)) := by
    intro n
    induction n with
    | zero =>
      intro i hi
      refine Ev.succ ?_
      simp only [impl_ChallengeMix.l0]
      refine Ev.neg (by omega) ?_
      rw [List.drop_eq_nil_of_le (by omega), List.all_nil, if_pos rfl]
      exact Ev.bind (challengeMix_ev l hl) (Ev.now _)
    | succ n ih =>
      intro i hi
      refine Ev.succ ?_
      simp only [impl_ChallengeMix.l0]
      refine Ev.pos (by omega) (Ev.pos (by omega) (Ev.pos (by omega) ?_))
      rw [rd_at l i (by omega), w64 (x := (i : Int) + 1) (by omega) (by omega), List.drop_eq_getElem_cons (show i < l.length by omega), List.all_cons]
      by_cases h : l[i] < 0
      · refine Ev.pos h (Ev.ret ?_)
        rw [decide_eq_false (show ¬ 0 ≤ l[i] by omega)]; rfl
      · refine Ev.neg h ?_
        rw [decide_eq_true (show 0 ≤ l[i] by omega), Bool.true_and]
        by_cases g : l[i] > 1000000000
        · refine Ev.pos g (Ev.ret ?_)
          rw [decide_eq_false (show ¬ l[i] ≤ 1000000000 by omega)]; rfl
        · refine Ev.neg g ?_
          rw [decide_eq_true (show l[i] ≤ 1000000000 by omega), Bool.true_and]
          exact ih (i + 1) (by omega)
  unfold impl_ChallengeMix.f mixAns mixGood
  by_cases h : (l.length : Int) > 5
  · refine Ev.pos h (Ev.ret ?_)
    rw [decide_eq_false (show ¬ l.length ≤ 5 by omega)]; rfl
  · refine Ev.neg h ?_
    rw [decide_eq_true (show l.length ≤ 5 by omega), Bool.true_and]
    exact key l.length 0 (by omega)
theorem FnExactChallengeMix : laws_FnExactChallengeMix.Pure := by
  intro l hm hs hw
  refine Ev.rounds ?_
  unfold laws_FnExactChallengeMix.f
  by_cases h : (l.length : Int) > 1048576
  · exact Ev.pos h (Ev.now _)
  · refine Ev.neg h ?_
    have hl : l.length ≤ 1048576 := by omega
    refine Ev.bind (toIntS_ev l (by omega)) (Ev.bind (ChallengeMix_spec l hl) (Ev.bind (toIntS_ev l (by omega)) (Ev.bind (ChallengeMix_impl l hl) ?_)))
    refine Ev.pos rfl (Ev.succ ?_)
    simp only [laws_FnExactChallengeMix.j0]
    refine Ev.neg (by simp) (Ev.bind (toIntS_ev l (by omega)) (Ev.bind (eqIntS_ev l l (by omega)) ?_))
    exact Ev.pos (by simp) (Ev.now _)
end Go.Proofs.Ytjogiiobaakjkaa.Pure
