-- Printed by a program; checked here.
import Derived.Test.YtimeepcpgjnajaaF0
import Derived.Test.YtimeepcpgjnajaaF1
import Derived.Test.YtimeepcpgjnajaaF6
namespace Go.Proofs.Ytimeepcpgjnajaa.F
open Go.RowKit Go.Proofs.YtimeepcpgjnajaaV.PrintWords Go.Proofs.YtimeepcpgjnajaaV.PrintLast Go.Proofs.YtimeepcpgjnajaaV.PrintMore Go.Proofs.YtimeepcpgjnajaaV.Sl Go.Proofs.YtimeepcpgjnajaaV.Rf
attribute [local go_sem] max2_int min2_int max_two min_two max_three min_three max_four min_four ia_opt
attribute [local go_sem] Try.underlying25 Try.underlying27 Try.underlying62 Try.underlying66 Try.underlying80 Try.underlying137
set_option maxHeartbeats 8000000
set_option maxRecDepth 100000
set_option linter.unusedVariables false
set_option linter.unusedSimpArgs false

attribute [local go_sem high] eqA27
/-! ### impl_countSolutions: function 119 -/
def impl_countSolutions.l0 : Nat → Int → Int → Int → Int → List (S27) → List Int → List Int → Option (Int)
 | 0, _, _, _, _, _, _, _ => none
 | k + 1, x3, x4, x428000, x428001, x428002, x428003, x428004 => (impl_boardsTried.f k x428000 x428001 x428002 x428003 x428004).bind fun t428 => (if x4 < t428 then ((impl_boardOf.f k x428000 x428001 x428002 x428003 x428004 x4).bind fun bt429 => ((impl_hasEnds.f k x428000 x428001 x428002 x428003 x428004 bt429.1 bt429.2.1 bt429.2.2).bind fun t435 => (if t435 = true then (impl_countSolutions.l0 k (wrap64 (x3 + 1)) (wrap64 (x4 + 1)) x428000 x428001 x428002 x428003 x428004) else (impl_countSolutions.l0 k x3 (wrap64 (x4 + 1)) x428000 x428001 x428002 x428003 x428004)))) else (some x3))
def impl_countSolutions.f (k : Nat) (a0_0 : Int) (a0_1 : Int) (l0_2 : List (S27)) (l0_3 : List Int) (l0_4 : List Int) : Option (Int) := impl_countSolutions.l0 k 0 0 a0_0 a0_1 l0_2 l0_3 l0_4
theorem count_fold (r c : Int) (p : List S27) (e ns : List Int) : ∀ (k : Nat) (s n q : Int), impl_countSolutions.l0 k s n r c p e ns = some q → solFold (fun _ s _ _ _ => some (wrap64 (s + 1), true)) r c p e ns k n s = some (q, true)
 | 0, _, _, _, h => by simp [impl_countSolutions.l0] at h
 | k + 1, s, n, q, h => by
  simp only [impl_countSolutions.l0] at h
  simp only [solFold]
  obtain ⟨t, h1, h⟩ := Option.bind_eq_some_iff.mp h
  rw [h1]
  simp only [Option.bind_some]
  split at h
  · rename_i ct
    rw [if_pos ct]
    obtain ⟨b, h2, h⟩ := Option.bind_eq_some_iff.mp h
    obtain ⟨y, h3, h⟩ := Option.bind_eq_some_iff.mp h
    rw [h2]
    simp only [Option.bind_some]
    rw [h3]
    simp only [Option.bind_some]
    split at h
    · rename_i cy
      rw [if_pos cy, if_pos trivial]
      exact count_fold r c p e ns k _ _ _ h
    · rename_i cy
      rw [if_neg cy]
      exact count_fold r c p e ns k _ _ _ h
  · rename_i ct
    rw [if_neg ct]
    cases h; rfl
attribute [local go_sem] Oper.semAt_some in
theorem impl_countSolutions.calls (k : Nat) (a0_0 : Int) (a0_1 : Int) (A0_2 : Option Addr) (c0_2 : Nat) (l0_2 : List (S27)) (A0_3 : Option Addr) (c0_3 : Nat) (l0_3 : List Int) (A0_4 : Option Addr) (c0_4 : Nat) (l0_4 : List Int) (r : Int) (w : World) (hr0_2 : Kd.C k27 w A0_2 l0_2.length l0_2) (hc0_2 : l0_2.length ≤ c0_2) (hr0_3 : Kd.C (Kd.int .i64) w A0_3 l0_3.length l0_3) (hc0_3 : l0_3.length ≤ c0_3) (hr0_4 : Kd.C (Kd.int .i64) w A0_4 l0_4.length l0_4) (hc0_4 : l0_4.length ≤ c0_4) (h : impl_countSolutions.f k a0_0 a0_1 l0_2 l0_3 l0_4 = some r) :
  Calls Try.prog 119 #[.agg #[.int .i64 a0_0, .int .i64 a0_1, .slice A0_2 l0_2.length c0_2, .slice A0_3 l0_3.length c0_3, .slice A0_4 l0_4.length c0_4]] w fun e w' => e = .returned (.int .i64 r) ∧ Below w.heap.size w w' := by
 replace h := count_fold _ _ _ _ _ k _ _ _ h
 have S := St.init (w := w) (dc k27_heap at27 hr0_2 hc0_2 (dc (Kd.heap_int .i64) (atI .i64) hr0_3 hc0_3 (dc (Kd.heap_int .i64) (atI .i64) hr0_4 hc0_4 dn)))
 have F := S.fc
 refine (callsIn_wide (n := 9)).1 ?_
 refine callsIn_of_wp_marks Try.func119 rfl trivial ?_ rfl
 simp only [Try.ntmps119, List.size_toArray, List.length_cons, List.length_nil, Nat.reduceAdd, Nat.reduceSub, Array.replicate_succ, Array.replicate_zero, List.push_toArray, List.append_toArray, List.nil_append, List.cons_append]
 refine wpIn_wide.2 ?_
 go_wp2_with (first | ((with_reducible refine gd 1 rfl (L ?_)); refine bo 1 (.agg #[_, _, _, _, _]) S ?_; clear S F; intro gb W S; have F := S.fc) | ((with_reducible refine gd 3 rfl (L ?_)); refine al 3 S zi3 ?_; clear S F; intro gn W S; have F := S.fc) | ((with_reducible refine gs (t := 3) rfl (L ?_)); (first | refine sb (.int .i64 _) S sz3 ?_ | refine ro (.int .i64 _) S sz3 ?_ (ho := rfl) (hx := rfl) (hy := rfl)); (clear S F; intro W S; have F := S.fc)) | ((with_reducible refine gate_callee (f := 157) rfl (L ?_)); have hgn := bx_of S; refine cl (some 5) Try.func157 (impl_solutionsOf.calls _ _ _ _ _ _ _ _ _ _ _ W) (hargs := by (simp only [ma_, mb_, mc_, F] <;> rfl)) (h := ?_); rintro e W2 ⟨gc, rfl, hgc, hge, hb⟩; refine ⟨_, rfl, ?_⟩; replace S := S.go hb; clear F hb; have F := S.fc))
 simp only [Act.put, za_, zb_, zc_]
 have hB := S.below
 have hgn2 := bx_of S
 have hlt := blk_lt hgn2.1
 have hlc := blk_lt hgc
 have hne : gc ≠ gn := by have := blk_lt hgn.1; omega
 have hsz := hB.size
 clear F S hgn
 refine (wpIn_wide (n := 9)).1 ?_
 refine wpIn_folds (σ := Int) (gf := 178) (lb := #[.pointer (some ⟨gc, 0, none⟩)]) (fin := fun s' go => (r, true) = (s', go)) (s0 := 0) rfl (by decide) rfl trivial (fun args w => enters_ Try.func178 (by kernel_rfl) rfl args w)
  (fun Wl hb hz => sols_folds (fun _ s _ _ _ => some (wrap64 (s + 1), true)) _ k gc a0_0 a0_1 A0_2 c0_2 l0_2 A0_3 c0_3 l0_3 A0_4 c0_4 l0_4 0 (r, true) (fun j => j = gn ∨ j = W2.heap.size + 1) Wl (fun W' hk => ?hq) hc0_2 hc0_3 hc0_4 h)
  kept_trans (fun W o _ => kept_put _ _ (.inr rfl)) (fun s args W s' go hR => by obtain ⟨_, _, _, _, _, _, _, rfl, _⟩ := hR; rfl)
  (fun s W => (W.cell? ⟨gn, 0, none⟩ = some (.int .i64 s) ∧ W.frozen? ⟨gn, 0, none⟩ = false) ∧ Below w.heap.size w W) (fun _ _ _ => False)
  (OwnFrom.and (Own.from (fun s A B row hs hg hr => ⟨cell_kept hs.1 hg hr, (frozen_kept hs.1 hg hr).trans hs.2⟩) _) (ownFrom_below (Nat.le_refl _) hsz)) (fun c s A B row hs _ _ => hs)
  ⟨⟨(blk_cell hgn2.1 0).trans rfl, blk_frozen hgn2.1 0⟩, hB⟩
  (fun s args a' s' go W => ((W.cell? ⟨gn, 0, none⟩ = some (.int .i64 s) ∧ W.frozen? ⟨gn, 0, none⟩ = false) ∧ Below w.heap.size w W) ∧ s' = wrap64 (s + 1) ∧ go = true ∧ ∃ v, a' = { tmps := #[.agg #[.int .i64 a0_0, .int .i64 a0_1, .slice A0_2 l0_2.length c0_2, .slice A0_3 l0_3.length c0_3, .slice A0_4 l0_4.length c0_4], .pointer (some ⟨gb, 0, none⟩), .int .i64 0, .pointer (some ⟨gn, 0, none⟩), .agg #[.int .i64 a0_0, .int .i64 a0_1, .slice A0_2 l0_2.length c0_2, .slice A0_3 l0_3.length c0_3, .slice A0_4 l0_4.length c0_4], .func (.func 178) #[] #[.pointer (some ⟨gc, 0, none⟩)], v, undef, undef, undef], defers := [] }) ?hA ?assign ?body ?done ?stop
 case hq =>
  have key : ∀ j, j < w.heap.size → W'.heap[j]? = w.heap[j]? := fun j hj => (hk.2 j (by have := hb.size; omega) (by have := hgn2.2; omega)).trans ((hb.block j (by omega)).trans (hB.block j hj))
  exact ⟨(hk.2 gc (by have := hb.size; omega) (by omega)).trans ((hb.block gc hlc).trans hgc), k27_heap.C key hr0_2, (Kd.heap_int .i64).C key hr0_3, (Kd.heap_int .i64).C key hr0_4⟩
 case hA => exact fun s args a' s' go => OwnFrom.and (β := Unit) (OwnFrom.and (Own.from (fun s A B row hs hg hr => ⟨cell_kept hs.1 hg hr, (frozen_kept hs.1 hg hr).trans hs.2⟩) _) (ownFrom_below (Nat.le_refl _) hsz)) (ownFrom_pure _ _)
 case assign =>
  intro l s args W s' go K hi hR hK
  obtain ⟨_, bR, bC, bX, hst, A, cap, rfl, _⟩ := hR
  cases hst
  exact wpIn_skip (hK _ _ (KeepsFrom.refl _ _) (Kept.refl _ _) ⟨hi, rfl, rfl, .agg #[.int .i64 bR, .int .i64 bC, .slice A bX.length cap], by simp⟩)
 case body =>
  rintro l s args a' W s' go ⟨⟨⟨hc, hf⟩, hB3⟩, rfl, rfl, v, rfl⟩
  gi_wp2
  exact ⟨rfl, (KeepsOthers.setCell _ _ _).from _, kept_set _ _ (.inl rfl), ⟨World.cell?_setCell_same' _ _ _ (by rw [hc]; rfl), by rw [World.frozen?_setCell]; exact hf⟩, hB3.setCell (p := ⟨gn, 0, none⟩) hgn2.2 _⟩
 case done =>
  rintro s' W hs ⟨⟨hc, hf⟩, hB3⟩ hD
  cases hs
  go_wp2
  refine ⟨by simp, .inl ⟨_, _, rfl, run_takeDeferred hD, ?_⟩⟩
  exact ⟨_, results_tmp rfl _ _ _, rfl, hB3.grown (grownBy_putObj' W _ _) hB3.size (fun k e => by cases e; exact hsz)⟩
 case stop => exact fun c s' W _ h _ => h.elim
end Go.Proofs.Ytimeepcpgjnajaa.F
