-- Printed by a program; checked here.
import Derived.Test.YtipaimgpmgbkiaaF0
import Derived.Test.YtipaimgpmgbkiaaF5
import Derived.Test.YtipaimgpmgbkiaaF6
namespace Go.Proofs.Ytipaimgpmgbkiaa.F
open Go.RowKit Go.Proofs.YtipaimgpmgbkiaaV.PrintWords Go.Proofs.YtipaimgpmgbkiaaV.PrintLast Go.Proofs.YtipaimgpmgbkiaaV.PrintMore Go.Proofs.YtipaimgpmgbkiaaV.Sl Go.Proofs.YtipaimgpmgbkiaaV.Rf
attribute [local go_sem] max2_int min2_int max_two min_two max_three min_three max_four min_four ia_opt it_opt
attribute [local go_sem] Try.underlying23 Try.underlying25 Try.underlying29 Try.underlying31 Try.underlying42 Try.underlying50 Try.underlying85 Try.underlying88 Try.underlying89 Try.underlying106 Try.underlying122 Try.underlying127
set_option maxHeartbeats 8000000
set_option maxRecDepth 100000
set_option linter.unusedVariables false
set_option linter.unusedSimpArgs false

/-! ### impl_partsOf: function 65 -/
def impl_partsOf.l0 : Nat → Int → List (S88) → Int → Int → Option (Int)
  | 0, _, _, _, _ => none
  | k + 1, x3, x7, x8, x9 => if x9 < x8 then (if 0 ≤ x9 then (if x9 < (x7.length : Int) then (if ((rd_T88 x7 x9).f0) = 0 then (impl_partsOf.l0 k x3 x7 x8 (wrap64 (x9 + 1))) else (impl_partsOf.l0 k (wrap64 (x3 + 1)) x7 x8 (wrap64 (x9 + 1)))) else (none)) else (none)) else (some x3)
def impl_partsOf.f (k : Nat) (a0_0 : Int) (a0_1 : Int) (l0_2 : List (S88)) : Option (Int) := impl_partsOf.l0 k 0 l0_2 (l0_2.length : Int) 0
theorem impl_partsOf.calls (k : Nat) (a0_0 : Int) (a0_1 : Int) (A0_2 : Option Addr) (c0_2 : Nat) (l0_2 : List (S88)) (r : Int) (w : World) (hr0_2 : Kd.C k88 w A0_2 l0_2.length l0_2) (hc0_2 : l0_2.length ≤ c0_2) (h : impl_partsOf.f k a0_0 a0_1 l0_2 = some r) :
    Calls Try.prog 65 #[.agg #[.int .i64 a0_0, .int .i64 a0_1, .slice A0_2 l0_2.length c0_2]] w fun e w' => e = .returned (.int .i64 r) ∧ Below w.heap.size w w' := by
 have S := St.init (w := w) (dc k88_heap at88 hr0_2 hc0_2 dn)
 clear hr0_2 hc0_2
 have F := S.fc
 have H := h; clear h; unfold impl_partsOf.f at H
 go_enter Try.func65, Try.ntmps65
 go_wp2_with (first | ((with_reducible refine gd 1 rfl (L ?_)); refine bo 1 (.agg #[_, _, _]) S ?_; clear S F; intro gb359 W S; have F := S.fc) | ((with_reducible refine gs (t := 88) rfl (L ?_)); (first | refine sb (.agg #[_, _]) S sz88 ?_ | refine ro (.agg #[_, _]) S sz88 ?_ (ho := rfl) (hx := rfl) (hy := rfl)); (clear S F; intro W S; have F := S.fc)))
 go_loopg [3, 9] k (fun kq v3 v9 w' => ∃ (x3_1 : Int) (x9_1 : Int), v3 = .int .i64 x3_1 ∧ v9 = .int .i64 x9_1 ∧ impl_partsOf.l0 kq x3_1 l0_2 (l0_2.length : Int) x9_1 = some r ∧ kq ≤ k ∧ St w w (fun _ => False) [bor at88 A0_2 c0_2 l0_2] w'  [box gb359 50 [.int .i64 a0_0, .int .i64 a0_1, .slice A0_2 l0_2.length c0_2]])
 case atStart => exact ⟨0, 0, (by first | rfl | (simp; done) | (simp [*]; done) | (rw [w6_ (by omega) (by omega)])), (by first | rfl | (simp; done) | (simp [*]; done) | (rw [w6_ (by omega) (by omega)])), H, Nat.le_refl _, S⟩
 case round =>
  clear H S F
  obtain ⟨x3_1, x9_1, rfl, rfl, HA, HK1, S⟩ := hrel
  have F := S.fc
  cases gk with
  | zero => exact absurd HA (by simp [impl_partsOf.l0])
  | succ k1 =>
   have H := HA; clear HA; simp only [impl_partsOf.l0, F] at H
   replace H := sp_ H; rcases H with ⟨c4, H⟩ | ⟨c4, H⟩
   · skip
     replace H := np_ H; obtain ⟨c5, H⟩ := H
     replace H := np_ H; obtain ⟨c6, H⟩ := H
     replace H := sp_ H; rcases H with ⟨c7, H⟩ | ⟨c7, H⟩
     · skip
       replace c7 := ceq c7
       go_wp2_with (first | ((with_reducible refine gd 5 rfl (L ?_)); refine al 5 S zi88 ?_; clear S F; intro gb361 W S; have F := S.fc) | ((with_reducible refine gs (t := 88) rfl (L ?_)); (first | refine sb (.agg #[_, _]) S sz88 ?_ | refine ro (.agg #[_, _]) S sz88 ?_ (ho := rfl) (hx := rfl) (hy := rfl)); (clear S F; intro W S; have F := S.fc)))
       go_roundg k1
       case measure => omega
       case rel => exact ⟨x3_1, (wrap64 (x9_1 + 1)), (by first | rfl | (simp; done) | (simp [*]; done) | (rw [w6_ (by omega) (by omega)])), (by first | rfl | (simp; done) | (simp [*]; done) | (rw [w6_ (by omega) (by omega)])), H, (by first | omega | exact Nat.le_refl _), (S.pm [1])⟩
     · skip
       replace c7 := cne c7
       go_wp2_with (first | ((with_reducible refine gd 5 rfl (L ?_)); refine al 5 S zi88 ?_; clear S F; intro gb361 W S; have F := S.fc) | ((with_reducible refine gs (t := 88) rfl (L ?_)); (first | refine sb (.agg #[_, _]) S sz88 ?_ | refine ro (.agg #[_, _]) S sz88 ?_ (ho := rfl) (hx := rfl) (hy := rfl)); (clear S F; intro W S; have F := S.fc)))
       go_roundg k1
       case measure => omega
       case rel => exact ⟨(wrap64 (x3_1 + 1)), (wrap64 (x9_1 + 1)), (by first | rfl | (simp; done) | (simp [*]; done) | (rw [w6_ (by omega) (by omega)])), (by first | rfl | (simp; done) | (simp [*]; done) | (rw [w6_ (by omega) (by omega)])), H, (by first | omega | exact Nat.le_refl _), (S.pm [1])⟩
   · skip
     obtain rfl := Option.some.inj H
     go_wp2_with (first | ((with_reducible refine gs (t := 88) rfl (L ?_)); (first | refine sb (.agg #[_, _]) S sz88 ?_ | refine ro (.agg #[_, _]) S sz88 ?_ (ho := rfl) (hx := rfl) (hy := rfl)); (clear S F; intro W S; have F := S.fc)))
     go_ret
     exact ⟨(by first | rfl | (simp [e0_, e1_] <;> rfl) | (simp [*, e0_, e1_] <;> rfl)), S.below⟩

/-! ### impl_smallestOf: function 64 -/
def impl_smallestOf.l0 : Nat → Int → Int → Int → List (S88) → List Int → List Int → Int → Int → List (S88) → Option (Int × Int × (List (S88)) × Bool)
 | 0, _, _, _, _, _, _, _, _, _ => none
 | k + 1, x25, x474000, x474001, x474002, x474003, x474004, x476000, x476001, x476002 => (impl_boardsTried.f k x474000 x474001 x474002 x474003 x474004).bind fun t476 => (if x25 < t476 then ((impl_boardOf.f k x474000 x474001 x474002 x474003 x474004 x25).bind fun bt477 => ((impl_hasEnds.f k x474000 x474001 x474002 x474003 x474004 bt477.1 bt477.2.1 bt477.2.2).bind fun t483 => (if t483 = true then (if x476000 = 0 then (impl_smallestOf.l0 k (wrap64 (x25 + 1)) x474000 x474001 x474002 x474003 x474004 bt477.1 bt477.2.1 bt477.2.2) else ((impl_partsOf.f k bt477.1 bt477.2.1 bt477.2.2).bind fun t484 => ((impl_partsOf.f k x476000 x476001 x476002).bind fun t485 => (if t484 < t485 then (impl_smallestOf.l0 k (wrap64 (x25 + 1)) x474000 x474001 x474002 x474003 x474004 bt477.1 bt477.2.1 bt477.2.2) else (impl_smallestOf.l0 k (wrap64 (x25 + 1)) x474000 x474001 x474002 x474003 x474004 x476000 x476001 x476002))))) else (impl_smallestOf.l0 k (wrap64 (x25 + 1)) x474000 x474001 x474002 x474003 x474004 x476000 x476001 x476002)))) else (some (x476000, x476001, x476002, decide (x476000 > 0))))
def impl_smallestOf.f (k : Nat) (a0_0 : Int) (a0_1 : Int) (l0_2 : List (S88)) (l0_3 : List Int) (l0_4 : List Int) : Option (Int × Int × (List (S88)) × Bool) := impl_smallestOf.l0 k 0 a0_0 a0_1 l0_2 l0_3 l0_4 0 0 ([] : List (S88))
def smallStep (k : Nat) (s : Int × Int × List S88) (r c : Int) (xs : List S88) : Option ((Int × Int × List S88) × Bool) := if s.1 = 0 then some ((r, c, xs), true) else (impl_partsOf.f k r c xs).bind fun t => (impl_partsOf.f k s.1 s.2.1 s.2.2).bind fun u => if t < u then some ((r, c, xs), true) else some (s, true)
theorem small_fold (r c : Int) (p : List S88) (e ns : List Int) : ∀ (k : Nat) (n a b : Int) (xs : List S88) (q1 q2 : Int) (q3 : List S88) (q4 : Bool), impl_smallestOf.l0 k n r c p e ns a b xs = some (q1, q2, q3, q4) → solFold smallStep r c p e ns k n (a, b, xs) = some ((q1, q2, q3), true) ∧ q4 = decide (q1 > 0)
 | 0, _, _, _, _, _, _, _, _, h => by simp [impl_smallestOf.l0] at h
 | k + 1, n, a, b, xs, q1, q2, q3, q4, h => by
  simp only [impl_smallestOf.l0] at h
  simp only [solFold]
  obtain ⟨t, h1, h⟩ := Option.bind_eq_some_iff.mp h
  rw [h1]
  simp only [Option.bind_some]
  split at h
  · rename_i ct
    rw [if_pos ct]
    obtain ⟨b2, h2, h⟩ := Option.bind_eq_some_iff.mp h
    obtain ⟨y, h3, h⟩ := Option.bind_eq_some_iff.mp h
    rw [h2]
    simp only [Option.bind_some]
    rw [h3]
    simp only [Option.bind_some]
    split at h
    · rename_i cy
      rw [if_pos cy]
      unfold smallStep
      split at h
      · rename_i c1
        rw [if_pos c1]
        simp only [Option.bind_some, if_true]
        exact small_fold r c p e ns k _ _ _ _ _ _ _ _ h
      · rename_i c1
        rw [if_neg c1]
        obtain ⟨t2, h5, h⟩ := Option.bind_eq_some_iff.mp h
        obtain ⟨u2, h6, h⟩ := Option.bind_eq_some_iff.mp h
        rw [h5]
        simp only [Option.bind_some]
        rw [h6]
        simp only [Option.bind_some]
        split at h
        · rename_i c2
          rw [if_pos c2]
          simp only [Option.bind_some, if_true]
          exact small_fold r c p e ns k _ _ _ _ _ _ _ _ h
        · rename_i c2
          rw [if_neg c2]
          simp only [Option.bind_some, if_true]
          exact small_fold r c p e ns k _ _ _ _ _ _ _ _ h
    · rename_i cy
      rw [if_neg cy]
      exact small_fold r c p e ns k _ _ _ _ _ _ _ _ h
  · rename_i ct
    rw [if_neg ct]
    simp only [Option.some.injEq, Prod.mk.injEq] at h
    obtain ⟨rfl, rfl, rfl, rfl⟩ := h
    exact ⟨rfl, rfl⟩
theorem impl_smallestOf.calls (k : Nat) (a0_0 : Int) (a0_1 : Int) (A0_2 : Option Addr) (c0_2 : Nat) (l0_2 : List (S88)) (A0_3 : Option Addr) (c0_3 : Nat) (l0_3 : List Int) (A0_4 : Option Addr) (c0_4 : Nat) (l0_4 : List Int) (r1 : Int) (r2 : Int) (r3 : List (S88)) (r4 : Bool) (w : World) (hr0_2 : Kd.C k88 w A0_2 l0_2.length l0_2) (hc0_2 : l0_2.length ≤ c0_2) (hr0_3 : Kd.C (Kd.int .i64) w A0_3 l0_3.length l0_3) (hc0_3 : l0_3.length ≤ c0_3) (hr0_4 : Kd.C (Kd.int .i64) w A0_4 l0_4.length l0_4) (hc0_4 : l0_4.length ≤ c0_4) (h : impl_smallestOf.f k a0_0 a0_1 l0_2 l0_3 l0_4 = some (r1, r2, r3, r4)) :
  Calls Try.prog 64 #[.agg #[.int .i64 a0_0, .int .i64 a0_1, .slice A0_2 l0_2.length c0_2, .slice A0_3 l0_3.length c0_3, .slice A0_4 l0_4.length c0_4]] w fun e w' => ∃ v2_ : Value, e = .returned (.tuple #[.agg #[.int .i64 r1, .int .i64 r2, v2_], .bool r4]) ∧ Kd.R k88 88 w' w.heap.size (fun _ => True) v2_ r3 ∧ Below w.heap.size w w' := by
 obtain ⟨hf, rfl⟩ := small_fold _ _ _ _ _ k _ _ _ _ _ _ _ _ h
 clear h
 have S := St.init (w := w) (dc k88_heap at88 hr0_2 hc0_2 (dc (Kd.heap_int .i64) (atI .i64) hr0_3 hc0_3 (dc (Kd.heap_int .i64) (atI .i64) hr0_4 hc0_4 dn)))
 have F := S.fc
 refine (callsIn_wide (n := 9)).1 ?_
 refine callsIn_of_wp_marks Try.func64 rfl trivial ?_ rfl
 simp only [Try.ntmps64, List.size_toArray, List.length_cons, List.length_nil, Nat.reduceAdd, Nat.reduceSub, Array.replicate_succ, Array.replicate_zero, List.push_toArray, List.append_toArray, List.nil_append, List.cons_append]
 refine wpIn_wide.2 ?_
 go_wp2_with (first | ((with_reducible refine gd 1 rfl (L ?_)); refine bo 1 (.agg #[_, _, _, _, _]) S ?_; clear S F; intro gb W S; have F := S.fc) | ((with_reducible refine gd 2 rfl (L ?_)); refine al 2 S zi50 ?_; clear S F; intro gr W S; have F := S.fc) | ((with_reducible refine gd 4 rfl (L ?_)); refine al 4 S zi50 ?_; clear S F; intro gB W S; have F := S.fc) | ((with_reducible refine gs (t := 50) rfl (L ?_)); (first | refine sb (.agg #[_, _, _]) S sz50 ?_ | refine ro (.agg #[_, _, _]) S sz50 ?_ (ho := rfl) (hx := rfl) (hy := rfl)); (clear S F; intro W S; have F := S.fc)) | ((with_reducible refine gate_callee (f := 72) rfl (L ?_)); refine cl (some 8) Try.func72 (impl_solutionsOf.calls _ _ _ _ _ _ _ _ _ _ _ W) (hargs := by (simp only [ma_, mb_, mc_, F] <;> rfl)) (h := ?_); rintro e W2 ⟨gc, rfl, hgc, hge, hb⟩; refine ⟨_, rfl, ?_⟩; have hl1 := blk_lt (bx_of S).1; replace S := S.go hb; clear F hb; have F := S.fc))
 (try simp only [Act.put, za_, zb_, zc_])
 have hB := S.below
 have hn := bx_all S 0 rfl
 have hr := bx_all S 1 rfl
 have nr := bx_ne S 1 0 rfl rfl
 have hlt := blk_lt hn.1
 have hlr := blk_lt hr.1
 have hlc := blk_lt hgc
 have hne : gc ≠ gB := by omega
 have hsz := hB.size
 clear F S
 refine (wpIn_wide (n := 9)).1 ?_
 obtain ⟨I, hI⟩ : ∃ I : Int × Int × List S88 → World → Prop, I = fun s W => (∃ A c, bxr gB 50 [.int .i64 s.1, .int .i64 s.2.1, .slice A s.2.2.length c] W ∧ Kd.R k88 88 W (W2.heap.size + 2) (fun j => W2.heap.size + 2 ≤ j) (.slice A s.2.2.length c) s.2.2) ∧ bxr gr 50 [.int .i64 0, .int .i64 0, .slice none 0 0] W ∧ Below w.heap.size w W := ⟨_, rfl⟩
 have hOw : Ow (W2.heap.size + 1) I := by
  subst hI
  rintro s W W' ⟨⟨A, c, h1, h2⟩, h3, h4⟩ hg
  exact ⟨⟨A, c, bxr_grown h1 hg (by omega), Kd.R_step h2 (fun j hj hl => hg.block j hl (by simp; omega))⟩, bxr_grown h3 hg (by omega), h4.grown hg h4.size (fun k e => by cases e; omega)⟩
 refine wpIn_folds (σ := Int × Int × List S88) (gf := 105) (lb := #[.pointer (some ⟨gc, 0, none⟩)]) (fin := fun s' go => ((r1, r2, r3), true) = (s', go)) (s0 := (0, 0, [])) rfl (by decide) rfl trivial (enters_ Try.func105 (by kernel_rfl) rfl)
  (fun Wl hb hz => sols_folds smallStep _ k gc a0_0 a0_1 A0_2 c0_2 l0_2 A0_3 c0_3 l0_3 A0_4 c0_4 l0_4 (0, 0, []) ((r1, r2, r3), true) (fun j => j = gB ∨ j = W2.heap.size + 1) (W2.heap.size + 2) Wl hz (fun W' hk => ?hq) hc0_2 hc0_3 hc0_4 hf)
  kept_trans (fun W o _ => kept_put _ _ (.inr rfl)) (fun s args W s' go hR => by obtain ⟨_, _, _, _, _, _, _, rfl, _⟩ := hR; rfl)
  I (fun _ _ _ => False) hOw (fun _ _ _ _ h _ => h)
  (by subst hI; exact ⟨⟨none, 0, hn.1, Kd.R_nil _ _ _ _ _⟩, hr.1, hB⟩)
  (fun s args a' s' go W => I s W ∧ ∃ gL R C xs A cap kk, smallStep kk s R C xs = some (s', go) ∧ gL ≠ gB ∧ gL ≠ W2.heap.size + 1 ∧ bxr gL 50 [.int .i64 R, .int .i64 C, .slice A xs.length cap] W ∧ Kd.R k88 88 W (W2.heap.size + 2) (fun j => W2.heap.size + 2 ≤ j) (.slice A xs.length cap) xs ∧ a' = { tmps := #[.agg #[.int .i64 a0_0, .int .i64 a0_1, .slice A0_2 l0_2.length c0_2, .slice A0_3 l0_3.length c0_3, .slice A0_4 l0_4.length c0_4], .pointer (some ⟨gb, 0, none⟩), .pointer (some ⟨gr, 0, none⟩), .bool false, .pointer (some ⟨gB, 0, none⟩), .pointer (some ⟨gL, 0, none⟩), .agg #[.int .i64 0, .int .i64 0, .slice none 0 0], .agg #[.int .i64 a0_0, .int .i64 a0_1, .slice A0_2 l0_2.length c0_2, .slice A0_3 l0_3.length c0_3, .slice A0_4 l0_4.length c0_4], .func (.func 105) #[] #[.pointer (some ⟨gc, 0, none⟩)], .agg #[.int .i64 R, .int .i64 C, .slice A xs.length cap], undef, undef, undef, undef, undef, undef, undef, undef, undef, undef, undef, undef, undef, undef, undef], defers := [] }) ?hA ?assign ?body ?done ?stop
 case hq =>
  have key : ∀ j, j < w.heap.size → W'.heap[j]? = w.heap[j]? := fun j hj => (hk.2 j (by have := hb.size; omega) (by have := hn.2; omega)).trans ((hb.block j (by omega)).trans (hB.block j hj))
  exact ⟨(hk.2 gc (by have := hb.size; omega) (by omega)).trans ((hb.block gc hlc).trans hgc), k88_heap.C key hr0_2, (Kd.heap_int .i64).C key hr0_3, (Kd.heap_int .i64).C key hr0_4⟩
 case hA =>
  rintro s args a' s' go _ W W' ⟨hs, gL, R, C, xs, A, cap, kk, h0, h1, h2, h3, h4, h5⟩ hg
  exact ⟨hOw _ _ _ hs hg, gL, R, C, xs, A, cap, kk, h0, h1, h2, bxr_grown h3 hg h2, Kd.R_step h4 (fun j hj hl => hg.block j hl (by simp; omega)), h5⟩
 case assign =>
  rintro l s args W s' go K hz hi ⟨kk, R, C, xs, hst, A, cap, rfl, hR⟩ hK
  have S := St.init (w := W) dn
  refine reg_in rfl (by rintro ⟨_, _, h⟩; exact h) ?_
  rw [zip1]
  simp only [za_, zb_, zc_]
  go_wp2_with (first | ((with_reducible refine gd 5 rfl (L ?_)); refine al 5 S zi50 ?_; clear S; intro gL W S) | ((with_reducible refine gs (t := 50) rfl (L ?_)); (first | refine sb (.agg #[_, _, _]) S sz50 ?_ | refine ro (.agg #[_, _, _]) S sz50 ?_ (ho := rfl) (hx := rfl) (hy := rfl)); clear S; intro W S))
  have hg := bx_of S
  refine hK _ _ (keeps_below S.below) (Kept.of_below S.below _) ⟨hOw.below hi S.below, gL, R, C, xs, A, cap, kk, hst, ?_, ?_, hg.1, Kd.R_mono (Kd.R_bound (Kd.R_below hR S.below)) (fun j hj => hj.2.1), rfl⟩
  · subst hI; obtain ⟨⟨_, _, h1, _⟩, _⟩ := hi; have := blk_lt h1; omega
  · omega
 case body =>
  subst hI
  rintro l s args a' W s' go ⟨⟨⟨Ab, cb, h1, hRb⟩, h2, hB3⟩, gL, R, C, xs, A, cap, kk, hst, n1, n2, hb, hR, rfl⟩
  obtain ⟨W_, hW_⟩ : ∃ W_, W_ = W := ⟨W, rfl⟩
  rw [← hW_] at h1 hRb h2 hB3 hb hR ⊢
  clear hW_
  have S := St_box hB3 hn.2 h1 (dbx hb n1 (dro at88 hR (fun j hj e => by omega) (dro at88 hRb (fun j hj e => by omega) dn)))
  have F := S.fc
  have fin : ∀ {V : World} {G : List Pc} {D : List (World → Prop)} (s2 : Int × Int × List S88) (A2 : Option Addr) (c2 : Nat), s' = s2 → go = true → St w W_ (fun j => j = gB) D V (box gB 50 [.int .i64 s2.1, .int .i64 s2.2.1, .slice A2 s2.2.2.length c2] :: G) → Kd.R k88 88 W_ (W2.heap.size + 2) (fun j => W2.heap.size + 2 ≤ j) (.slice A2 s2.2.2.length c2) s2.2.2 → fpost W2.heap.size (fun W W' => Kept W W' fun j => j = gB ∨ j = W2.heap.size + 1) (fun s W => (∃ A c, bxr gB 50 [.int .i64 s.1, .int .i64 s.2.1, .slice A s.2.2.length c] W ∧ Kd.R k88 88 W (W2.heap.size + 2) (fun j => W2.heap.size + 2 ≤ j) (.slice A s.2.2.length c) s.2.2) ∧ bxr gr 50 [.int .i64 0, .int .i64 0, .slice none 0 0] W ∧ Below w.heap.size w W) (fun _ _ _ => False) s' go W_ .normal { tmps := #[], defers := [] } V := fun s2 A2 c2 e1 e2 S hR2 => ⟨e2, keeps_of h1 S.kept, S.kept.mono (fun _ h => .inl h), e1 ▸ ⟨A2, c2, bx_at S 0 rfl, Kd.R_step hR2 (fun j hj hl => S.kept.2 j hl (by omega))⟩, (S.kept.2 _ (blk_lt h2) nr).trans h2, S.below⟩
  refine wpIn_block ?_
  apply wpIn_seq_k
  intro K hK
  unfold smallStep at hst
  split at hst
  · rename_i c1
    cases hst
    refine rgI S [(0, 0), (1, 1), (0, 2), (0, 3), (0, 4), (0, 5), (0, 6), (0, 7), (0, 8), (0, 9)] [] rfl (by rintro ⟨_, _, h⟩; exact h) (by kernel_rfl) (by kernel_rfl) (fun _ d _ _ _ h => by cases d <;> exact h) ?_
    clear S F; intro W S; have S0 := S; have F := S.fc
    repeat (first | (refine q0 (h := ?_)) | (refine q1 S0 (h := ?_)) | (refine q0n (h := ?_)) | (refine q1n S0 (h := ?_)))
    refine oz ?_
    refine hK _ _ (wpIn_cond_split rfl (fun ht => ?_) (fun ht => ?_))
    · clear ht
      refine reg_in rfl (by rintro ⟨_, _, h⟩; exact h) ?_
      go_wp2_with ((with_reducible refine gs (t := 50) rfl (L ?_)); (first | refine sb (.agg #[_, _, _]) S sz50 ?_ | refine ro (.agg #[_, _, _]) S sz50 ?_ (ho := rfl) (hx := rfl) (hy := rfl)); (clear S F; intro W S; have F := S.fc))
      exact fin (R, C, xs) A cap (by first | rfl | trivial) (by first | rfl | trivial) S hR
    · cases ht
  · rename_i c1
    replace c1 := cne c1
    obtain ⟨t, A32, hst⟩ := Option.bind_eq_some_iff.mp hst
    obtain ⟨u, A33, hst⟩ := Option.bind_eq_some_iff.mp hst
    refine rgI S [(0, 0), (1, 1), (0, 2), (0, 3), (1, 4), (1, 6), (2, 5), (2, 7), (0, 8), (0, 9)] [] rfl (by rintro ⟨_, _, h⟩; exact h) (by kernel_rfl) (by kernel_rfl) (fun _ d _ _ _ h => by cases d <;> exact h) ?_
    clear S F; intro W S; have S0 := S; have F := S.fc
    repeat (first | (refine q0 (h := ?_)) | (refine q1 S0 (h := ?_)) | (refine q0n (h := ?_)) | (refine q1n S0 (h := ?_)))
    refine lk2 (by rfl) (by exact (Eq.refl true)) ?_; refine cl (some 15) Try.func65 (impl_partsOf.calls _ _ _ _ _ _ _ _ S.c S.n A32) (hargs := by (simp only [ma_, mb_, mc_, F] <;> rfl)) (h := ?_); rintro e W ⟨rfl, hb⟩; refine ⟨_, rfl, ?_⟩; replace S := S.go hb; clear F hb; have F := S.fc
    clear S0; have S0 := S; refine ⟨S0, ?_⟩
    refine lk2 (by rfl) (by exact (Eq.refl true)) ?_; refine cl (some 17) Try.func65 (impl_partsOf.calls _ _ _ _ _ _ _ _ S.c S.n A33) (hargs := by (simp only [ma_, mb_, mc_, F] <;> rfl)) (h := ?_); rintro e W ⟨rfl, hb⟩; refine ⟨_, rfl, ?_⟩; replace S := S.go hb; clear F hb; have F := S.fc
    clear S0; have S0 := S; refine ⟨S0, ?_⟩
    repeat (first | (refine q0 (h := ?_)) | (refine q1 S0 (h := ?_)) | (refine q0n (h := ?_)) | (refine q1n S0 (h := ?_)))
    refine oz ?_
    refine hK _ _ (wpIn_cond_split rfl (fun ht => ?_) (fun ht => ?_))
    · rw [if_pos (by simpa using ht)] at hst
      cases hst
      clear ht
      refine reg_in rfl (by rintro ⟨_, _, h⟩; exact h) ?_
      go_wp2_with ((with_reducible refine gs (t := 50) rfl (L ?_)); (first | refine sb (.agg #[_, _, _]) S sz50 ?_ | refine ro (.agg #[_, _, _]) S sz50 ?_ (ho := rfl) (hx := rfl) (hy := rfl)); (clear S F; intro W S; have F := S.fc))
      exact fin (R, C, xs) A cap (by first | rfl | trivial) (by first | rfl | trivial) S hR
    · rw [if_neg (by simpa using ht)] at hst
      cases hst
      exact wpIn_skip (fin _ Ab cb rfl rfl S hRb)
 case done =>
  subst hI
  rintro s' W hs ⟨⟨Ab, cb, h1, hRb⟩, h2, hB3⟩ hD
  cases hs
  have hDl := blk_lt hD
  have S := St_box (g := gr) hB3 hr.2 h2 (dbx h1 (fun e => nr e.symm) (dro at88 hRb (fun j hj e => by omega) dn))
  have F := S.fc
  go_wp2_with ((with_reducible refine gs (t := 50) rfl (L ?_)); (first | refine sb (.agg #[_, _, _]) S sz50 ?_ | refine ro (.agg #[_, _, _]) S sz50 ?_ (ho := rfl) (hx := rfl) (hy := rfl)); (clear S F; intro W S; have F := S.fc))
  refine wp_calm ?_
  refine rgP S (fun _ S => (S.pm [])) [(0, 1), (1, 0), (1, 2), (0, 3), (2, 4), (0, 5)] [] (by kernel_rfl) (by kernel_rfl) (fun _ d _ _ _ h => by cases d <;> exact h) ?_
  clear S F; intro W S; have S0 := (S.pm []); have F := S.fc
  repeat (first | (refine q0 (h := ?_)) | (refine q1 S0 (h := ?_)) | (refine q0n (h := ?_)) | (refine q1n S0 (h := ?_)))
  refine lk2 (by rfl) (by exact (Eq.refl true)) ?_; (first | refine sb (.agg #[_, _, _]) S sz50 ?_ | refine ro (.agg #[_, _, _]) S sz50 ?_ (ho := rfl) (hx := rfl) (hy := rfl)); (clear S F; intro W S; have F := S.fc)
  clear S0; have S0 := (S.pm []); refine ⟨S0, ?_⟩
  repeat (first | (refine q0 (h := ?_)) | (refine q1 S0 (h := ?_)) | (refine q0n (h := ?_)) | (refine q1n S0 (h := ?_)))
  refine oz ?_
  go_wp2
  have hD2 := (S.kept.2 _ hDl (by omega)).trans hD
  refine ⟨by simp, .inl ⟨_, _, rfl, run_takeDeferred hD2, ?_⟩⟩
  have hg9 := grownBy_putObj' W W2.heap.size (.deferred none)
  exact ⟨_, results_ct rfl _ _ gr 50 #[.int .i64 r1, .int .i64 r2, .slice Ab r3.length cb] (0, 0) _ rfl (bxr_grown (bx_at S 0 rfl) hg9 (by omega)) Try.underlying50 rfl (by kernel_rfl), _, rfl, Kd.R_lower (Kd.R_mono (Kd.R_step hRb (fun j hj hl => (hg9.block j (Nat.lt_of_lt_of_le hl S.kept.1) (by simp; omega)).trans (S.kept.2 j hl (by omega)))) (fun _ _ => trivial)) (by omega), S.below.grown hg9 S.below.size (fun k e => by cases e; exact hsz)⟩
 case stop => exact fun c s' W _ h _ => h.elim
end Go.Proofs.Ytipaimgpmgbkiaa.F
