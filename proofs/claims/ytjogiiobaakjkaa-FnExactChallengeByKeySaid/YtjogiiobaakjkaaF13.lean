-- Written by a program of this session (a patched print) out of the translation; Lean checks it.
import Derived.Test.YtjogiiobaakjkaaF0
import Derived.Test.YtjogiiobaakjkaaF7
import Derived.Test.YtjogiiobaakjkaaF8
namespace Go.Proofs.Ytjogiiobaakjkaa.F
open Go.RowKit Go.Proofs.YtjogiiobaakjkaaV.PrintWords Go.Proofs.YtjogiiobaakjkaaV.PrintLast Go.Proofs.YtjogiiobaakjkaaV.PrintMore
attribute [local go_sem] max2_int min2_int max_two min_two max_three min_three max_four min_four
attribute [local go_sem] Try.underlying30 Try.underlying35 Try.underlying44 Try.underlying48 Try.underlying62 Try.underlying66 Try.underlying78 Try.underlying90 Try.underlying112
set_option linter.unusedVariables false
set_option linter.unusedSimpArgs false

/-! ### spec_flRun: function 76 -/
def spec_flRun.f (k : Nat) (a0_0 : Int) (a0_1 : Int) (l0_2 : List (S78)) (a1 : Int) : Option (Int × Int × Int × Int × Int × (List (S78))) := (spec_ggGroups.f k a0_0 a0_1 l0_2).bind fun t626 => ((spec_flGo.f k a0_0 a0_1 l0_2 t626 a1).bind fun bt629 => (some (bt629.1, bt629.2.1, bt629.2.2.1, bt629.2.2.2.1, bt629.2.2.2.2.1, bt629.2.2.2.2.2.1)))
def spec_flRun.T1 : Bool × List (List Nat × List Nat) := (true, [([], []), ([], []), ([1], [1]), ([], []), ([0, 2, 3, 2], [0, 2, 3]), ([4], [4]), ([5], [5]), ([5], [5]), ([5], [5]), ([], []), ([], []), ([9, 6, 4, 0, 1, 2, 3, 4, 5, 6, 9, 10], [6, 9]), ([10, 7, 11, 0, 1, 2, 3, 4, 5, 6, 7, 9, 10, 11], [7, 10]), ([8, 12, 0, 1, 2, 3, 4, 5, 6, 7, 8, 9, 10, 11, 12], [8])])
def spec_flRun.B1 : List Nat := [0, 0, 2, 0, 15, 31, 63, 63, 63, 0, 0, 1663, 3839, 8191]
theorem spec_flRun.tab1 : rtab .any (opsOf Try.f76 1) = spec_flRun.T1 := by kernel_rfl
theorem spec_flRun.bits1 : waitsOk spec_flRun.T1.2 spec_flRun.B1 = true := by kernel_rfl
set_option maxHeartbeats 8000000 in
set_option maxRecDepth 100000 in
theorem spec_flRun.calls (k : Nat) (a0_0 : Int) (a0_1 : Int) (A0_2 : Option Addr) (c0_2 : Nat) (l0_2 : List (S78)) (a1 : Int) (r1 : Int) (r2 : Int) (r3 : Int) (r4 : Int) (r5 : Int) (r6 : List (S78)) (w : World) (hr0_2 : Kd.C k78 w A0_2 l0_2.length l0_2) (hc0_2 : l0_2.length ≤ c0_2) (h : spec_flRun.f k a0_0 a0_1 l0_2 a1 = some (r1, r2, r3, r4, r5, r6)) :
  Calls Try.prog 76 #[.agg #[.int .i64 a0_0, .int .i64 a0_1, .slice A0_2 l0_2.length c0_2], .int .i64 a1] w fun e w' => ∃ v5_ : Value, e = .returned (.tuple #[.agg #[.int .i64 r1, .int .i64 r2, .int .i64 r3], .agg #[.int .i64 r4, .int .i64 r5, v5_]]) ∧ Kd.R k78 78 w' w.heap.size (fun _ => True) v5_ r6 ∧ Below w.heap.size w w' := by
 have HR0_2 := Aside0.mk hr0_2;have HC0_2 := Aside0.mk hc0_2;clear hr0_2 hc0_2;have HB := Aside0.mk (Below.refl w.heap.size w);have H : ((spec_ggGroups.f k a0_0 a0_1 l0_2).bind fun t626 => ((spec_flGo.f k a0_0 a0_1 l0_2 t626 a1).bind fun bt629 => (some (bt629.1, bt629.2.1, bt629.2.2.1, bt629.2.2.2.1, bt629.2.2.2.2.1, bt629.2.2.2.2.2.1)))) = some (r1, r2, r3, r4, r5, r6) := h;clear h;replace H := Option.bind_eq_some_iff.mp H;obtain ⟨t626, A30, H⟩ := H;(try dsimp only at H)
 have A3 := Aside0.mk A30;clear A30;replace H := Option.bind_eq_some_iff.mp H;obtain ⟨⟨t629, t630, t631, t632, t633, t634, t637⟩, A40, H⟩ := H;(try dsimp only at H)
 have A4 := Aside0.mk A40;clear A40;simp only [Option.some.injEq, Prod.mk.injEq] at H;obtain ⟨rfl, rfl, rfl, rfl, rfl, rfl⟩ := H;go_enter Try.func76, Try.ntmps76;try go_wp2_with (first | ((with_reducible refine gate_dst (N := 2) rfl ?_); refine box_event ?hg (N := 2) ?hd (cs := #[.int .i64 a0_0, .int .i64 a0_1, .slice A0_2 l0_2.length c0_2]) (t := 48) ?hr ?_; (case hd => rfl); (case hg => rfl); (case hr => first | (go_simp; done) | (go_simp; rfl)); intro gb623 hg w5 hbox hb; refine ev4 (bs HB hb) (hbox) (gle hg HB) (gle hg HB) ?_; clear HB; intro HB BK623 GW623 GE623; clear hb hbox hg) | ((with_reducible refine gate_dst (N := 4) rfl ?_); refine box_event ?hg (N := 4) ?hd (cs := #[.int .i64 0, .int .i64 0, .int .i64 0]) (t := 90) ?hr ?_; (case hd => rfl); (case hg => rfl); (case hr => first | (go_simp; done) | (go_simp; rfl)); intro gb624 hg w6 hbox hb; refine ev7 (kb BK623 hb) (bs HB hb) (hbox) (gle hg HB) (gle hg HB) (gnf hg BK623) (gne hg BK623) ?_; clear BK623 HB; intro BK623 HB BK624 GW624 GE624 NB623_624 NB624_623; clear hb hbox hg) | ((with_reducible refine gate_dst (N := 5) rfl ?_); refine box_event ?hg (N := 5) ?hd (cs := #[.int .i64 0, .int .i64 0, .slice none 0 0]) (t := 48) ?hr ?_; (case hd => rfl); (case hg => rfl); (case hr => first | (go_simp; done) | (go_simp; rfl)); intro gb625 hg w7 hbox hb; refine ev10 (kb BK623 hb) (kb BK624 hb) (bs HB hb) (hbox) (gle hg HB) (gle hg HB) (gnf hg BK623) (gne hg BK623) (gnf hg BK624) (gne hg BK624) ?_; clear BK623 BK624 HB; intro BK623 BK624 HB BK625 GW625 GE625 NB623_625 NB625_623 NB624_625 NB625_624; clear hb hbox hg))
 refine ev4 (blk_drew BK623.out) (blk_drew BK624.out) (blk_drew BK625.out) (below_drew1 HB.out) ?_;clear BK623 BK624 BK625 HB;intro BK623 BK624 BK625 HB;refine start_ (n := 14) (S := fun w' => w'.cell? ⟨gb623, 0, none⟩ = some (.int .i64 a0_0) ∧ w'.cell? ⟨gb623, 1, none⟩ = some (.int .i64 a0_1) ∧ w'.cell? ⟨gb623, 2, none⟩ = some (.slice A0_2 l0_2.length c0_2)) (ds := []) #[false, false, false, false, false, false, false, false, false, false, false, false, false, false] (by kernel_rfl) rfl rfl ⟨(blk_cell BK623.out 0).trans rfl, (blk_cell BK623.out 1).trans rfl, (blk_cell BK623.out 2).trans rfl⟩ (fun hHeld => ?_); refine with_tabW spec_flRun.tab1 spec_flRun.bits1 (fun HT_ HW_ => ?_);generalize w7.drew = w8 at BK623 BK624 BK625 HB hHeld ⊢
 refine pure_ (i := 3) (N := some 13) (v := ?_) (a' := ?_) #[false, false, false, true, false, false, false, false, false, false, false, false, false, false] rfl rfl (any_of HT_.out (by kernel_rfl)) (fun _ _ _ h => h) (Or.inl ⟨by rfl, ?_⟩) ?_ ?_;rotate_left
 ·intro w'
  go_simp;with_reducible rfl
 rotate_left
 ·simp only [Act.put, za_, zb_, zc_, i64_w, i32_w]
  rfl
 refine take_ (i := 0) (N := some 10) (v := ?_) (a' := ?_) #[true, false, false, true, false, false, false, false, false, false, false, false, false, false] rfl rfl (take_ofW HT_.out HW_.out (by kernel_rfl)) (fun _ _ _ h => h) (Or.inl ⟨by rfl, ?_⟩) hHeld ?_ ?_;rotate_left
 ·rintro w' ⟨s0, s1, s2⟩
  go_simp;with_reducible rfl
 rotate_left
 ·simp only [Act.put, za_, zb_, zc_, i64_w, i32_w]
  rfl
 refine take_ (i := 1) (N := some 11) (v := ?_) (a' := ?_) #[true, true, false, true, false, false, false, false, false, false, false, false, false, false] rfl rfl (take_ofW HT_.out HW_.out (by kernel_rfl)) (fun _ _ _ h => h) (Or.inl ⟨by rfl, ?_⟩) hHeld ?_ ?_;rotate_left
 ·rintro w' ⟨s0, s1, s2⟩
  go_simp;with_reducible rfl
 rotate_left
 ·simp only [Act.put, za_, zb_, zc_, i64_w, i32_w]
  rfl
 refine join_ (σ := Value × Value × Value × Nat × Nat) 3 #[true, true, true, true, true, true, true, true, true, true, true, false, false, false] (fun s_ => [(12, s_.1), (14, .tuple #[.agg #[.int .i64 t629, .int .i64 t630, .int .i64 t631], .agg #[.int .i64 t632, .int .i64 t633, s_.2.1], s_.2.2.1]), (6, .pointer (some ⟨s_.2.2.2.1, 0, none⟩)), (7, .pointer (some ⟨s_.2.2.2.2, 0, none⟩)), (9, .tuple #[.agg #[.int .i64 t629, .int .i64 t630, .int .i64 t631], .agg #[.int .i64 t632, .int .i64 t633, s_.2.1], s_.2.2.1]), (15, .agg #[.int .i64 t629, .int .i64 t630, .int .i64 t631]), (16, .agg #[.int .i64 t632, .int .i64 t633, s_.2.1]), (17, s_.2.2.1)]) (fun s_ w' => (w'.cell? ⟨gb623, 0, none⟩ = some (.int .i64 a0_0) ∧ w'.cell? ⟨gb623, 1, none⟩ = some (.int .i64 a0_1) ∧ w'.cell? ⟨gb623, 2, none⟩ = some (.slice A0_2 l0_2.length c0_2)) ∧ (Kd.R (Kd.int .i64) 3 w' w.heap.size (fun _ => True) s_.1 t626) ∧ (Kd.R k78 78 w' w.heap.size (fun _ => True) s_.2.1 t634) ∧ (Kd.S (Kd.slice 3 (Kd.int .i64)) 22 w' w.heap.size (fun k_ => some k_ ≠ (s_.1 : Value).ownBlock) s_.2.2.1 t637) ∧ (w'.heap[gb623]? = some (.cells #[.int .i64 a0_0, .int .i64 a0_1, .slice A0_2 l0_2.length c0_2] 48 (0, 0))) ∧ (w'.heap[gb624]? = some (.cells #[.int .i64 0, .int .i64 0, .int .i64 0] 90 (0, 0))) ∧ (w'.heap[gb625]? = some (.cells #[.int .i64 0, .int .i64 0, .slice none 0 0] 48 (0, 0))) ∧ (w'.heap[s_.2.2.2.1]? = some (.cells #[.int .i64 0, .int .i64 0, .int .i64 0] 90 (0, 0))) ∧ (w'.heap[s_.2.2.2.2]? = some (.cells #[.int .i64 0, .int .i64 0, .slice none 0 0] 48 (0, 0))) ∧ (w.heap.size ≤ s_.2.2.2.1) ∧ (w.heap.size ≤ s_.2.2.2.1) ∧ (gb623 ≠ s_.2.2.2.1) ∧ (s_.2.2.2.1 ≠ gb623) ∧ (gb624 ≠ s_.2.2.2.1) ∧ (s_.2.2.2.1 ≠ gb624) ∧ (gb625 ≠ s_.2.2.2.1) ∧ (s_.2.2.2.1 ≠ gb625) ∧ (s_.2.2.2.2 ≠ s_.2.2.2.1) ∧ (s_.2.2.2.1 ≠ s_.2.2.2.2) ∧ (w.heap.size ≤ s_.2.2.2.2) ∧ (w.heap.size ≤ s_.2.2.2.2) ∧ (gb623 ≠ s_.2.2.2.2) ∧ (s_.2.2.2.2 ≠ gb623) ∧ (gb624 ≠ s_.2.2.2.2) ∧ (s_.2.2.2.2 ≠ gb624) ∧ (gb625 ≠ s_.2.2.2.2) ∧ (s_.2.2.2.2 ≠ gb625) ∧ (Below w.heap.size w w')) ?_ ?_;rotate_left
 ·intro hJ2_4_9_10
  refine join_ (σ := Value × Value × Value × Nat) 4 #[true, true, true, true, true, true, true, true, true, true, false, false, false, false] (fun s_ => [(12, s_.1), (14, .tuple #[.agg #[.int .i64 t629, .int .i64 t630, .int .i64 t631], .agg #[.int .i64 t632, .int .i64 t633, s_.2.1], s_.2.2.1]), (6, .pointer (some ⟨s_.2.2.2, 0, none⟩)), (9, .tuple #[.agg #[.int .i64 t629, .int .i64 t630, .int .i64 t631], .agg #[.int .i64 t632, .int .i64 t633, s_.2.1], s_.2.2.1]), (15, .agg #[.int .i64 t629, .int .i64 t630, .int .i64 t631]), (16, .agg #[.int .i64 t632, .int .i64 t633, s_.2.1]), (17, s_.2.2.1)]) (fun s_ w' => (w'.cell? ⟨gb623, 0, none⟩ = some (.int .i64 a0_0) ∧ w'.cell? ⟨gb623, 1, none⟩ = some (.int .i64 a0_1) ∧ w'.cell? ⟨gb623, 2, none⟩ = some (.slice A0_2 l0_2.length c0_2)) ∧ (Kd.R (Kd.int .i64) 3 w' w.heap.size (fun _ => True) s_.1 t626) ∧ (Kd.R k78 78 w' w.heap.size (fun _ => True) s_.2.1 t634) ∧ (Kd.S (Kd.slice 3 (Kd.int .i64)) 22 w' w.heap.size (fun k_ => some k_ ≠ (s_.1 : Value).ownBlock) s_.2.2.1 t637) ∧ (w'.heap[gb623]? = some (.cells #[.int .i64 a0_0, .int .i64 a0_1, .slice A0_2 l0_2.length c0_2] 48 (0, 0))) ∧ (w'.heap[gb624]? = some (.cells #[.int .i64 0, .int .i64 0, .int .i64 0] 90 (0, 0))) ∧ (w'.heap[gb625]? = some (.cells #[.int .i64 0, .int .i64 0, .slice none 0 0] 48 (0, 0))) ∧ (w'.heap[s_.2.2.2]? = some (.cells #[.int .i64 0, .int .i64 0, .int .i64 0] 90 (0, 0))) ∧ (w.heap.size ≤ s_.2.2.2) ∧ (w.heap.size ≤ s_.2.2.2) ∧ (gb623 ≠ s_.2.2.2) ∧ (s_.2.2.2 ≠ gb623) ∧ (gb624 ≠ s_.2.2.2) ∧ (s_.2.2.2 ≠ gb624) ∧ (gb625 ≠ s_.2.2.2) ∧ (s_.2.2.2 ≠ gb625) ∧ (Below w.heap.size w w')) ?_ ?_;rotate_left
  ·intro hJ2_4_9
   refine join_ (σ := Value × Value × Value × Nat) 4 #[true, true, true, true, true, true, true, true, true, false, true, false, false, false] (fun s_ => [(12, s_.1), (14, .tuple #[.agg #[.int .i64 t629, .int .i64 t630, .int .i64 t631], .agg #[.int .i64 t632, .int .i64 t633, s_.2.1], s_.2.2.1]), (7, .pointer (some ⟨s_.2.2.2, 0, none⟩)), (9, .tuple #[.agg #[.int .i64 t629, .int .i64 t630, .int .i64 t631], .agg #[.int .i64 t632, .int .i64 t633, s_.2.1], s_.2.2.1]), (15, .agg #[.int .i64 t629, .int .i64 t630, .int .i64 t631]), (16, .agg #[.int .i64 t632, .int .i64 t633, s_.2.1]), (17, s_.2.2.1)]) (fun s_ w' => (w'.cell? ⟨gb623, 0, none⟩ = some (.int .i64 a0_0) ∧ w'.cell? ⟨gb623, 1, none⟩ = some (.int .i64 a0_1) ∧ w'.cell? ⟨gb623, 2, none⟩ = some (.slice A0_2 l0_2.length c0_2)) ∧ (Kd.R (Kd.int .i64) 3 w' w.heap.size (fun _ => True) s_.1 t626) ∧ (Kd.R k78 78 w' w.heap.size (fun _ => True) s_.2.1 t634) ∧ (Kd.S (Kd.slice 3 (Kd.int .i64)) 22 w' w.heap.size (fun k_ => some k_ ≠ (s_.1 : Value).ownBlock) s_.2.2.1 t637) ∧ (w'.heap[gb623]? = some (.cells #[.int .i64 a0_0, .int .i64 a0_1, .slice A0_2 l0_2.length c0_2] 48 (0, 0))) ∧ (w'.heap[gb624]? = some (.cells #[.int .i64 0, .int .i64 0, .int .i64 0] 90 (0, 0))) ∧ (w'.heap[gb625]? = some (.cells #[.int .i64 0, .int .i64 0, .slice none 0 0] 48 (0, 0))) ∧ (w'.heap[s_.2.2.2]? = some (.cells #[.int .i64 0, .int .i64 0, .slice none 0 0] 48 (0, 0))) ∧ (w.heap.size ≤ s_.2.2.2) ∧ (w.heap.size ≤ s_.2.2.2) ∧ (gb623 ≠ s_.2.2.2) ∧ (s_.2.2.2 ≠ gb623) ∧ (gb624 ≠ s_.2.2.2) ∧ (s_.2.2.2 ≠ gb624) ∧ (gb625 ≠ s_.2.2.2) ∧ (s_.2.2.2 ≠ gb625) ∧ (Below w.heap.size w w')) ?_ ?_;rotate_left
   ·intro hJ2_4_10
    refine join_ (σ := Value × Nat × Nat) 8 #[true, true, true, true, false, false, false, false, false, true, true, false, false, false] (fun s_ => [(12, s_.1), (6, .pointer (some ⟨s_.2.1, 0, none⟩)), (7, .pointer (some ⟨s_.2.2, 0, none⟩))]) (fun s_ w' => (w'.cell? ⟨gb623, 0, none⟩ = some (.int .i64 a0_0) ∧ w'.cell? ⟨gb623, 1, none⟩ = some (.int .i64 a0_1) ∧ w'.cell? ⟨gb623, 2, none⟩ = some (.slice A0_2 l0_2.length c0_2)) ∧ (Kd.R (Kd.int .i64) 3 w' w.heap.size (fun _ => True) s_.1 t626) ∧ (w'.heap[gb623]? = some (.cells #[.int .i64 a0_0, .int .i64 a0_1, .slice A0_2 l0_2.length c0_2] 48 (0, 0))) ∧ (w'.heap[gb624]? = some (.cells #[.int .i64 0, .int .i64 0, .int .i64 0] 90 (0, 0))) ∧ (w'.heap[gb625]? = some (.cells #[.int .i64 0, .int .i64 0, .slice none 0 0] 48 (0, 0))) ∧ (w'.heap[s_.2.1]? = some (.cells #[.int .i64 0, .int .i64 0, .int .i64 0] 90 (0, 0))) ∧ (w'.heap[s_.2.2]? = some (.cells #[.int .i64 0, .int .i64 0, .slice none 0 0] 48 (0, 0))) ∧ (w.heap.size ≤ s_.2.1) ∧ (w.heap.size ≤ s_.2.1) ∧ (gb623 ≠ s_.2.1) ∧ (s_.2.1 ≠ gb623) ∧ (gb624 ≠ s_.2.1) ∧ (s_.2.1 ≠ gb624) ∧ (gb625 ≠ s_.2.1) ∧ (s_.2.1 ≠ gb625) ∧ (s_.2.2 ≠ s_.2.1) ∧ (s_.2.1 ≠ s_.2.2) ∧ (w.heap.size ≤ s_.2.2) ∧ (w.heap.size ≤ s_.2.2) ∧ (gb623 ≠ s_.2.2) ∧ (s_.2.2 ≠ gb623) ∧ (gb624 ≠ s_.2.2) ∧ (s_.2.2 ≠ gb624) ∧ (gb625 ≠ s_.2.2) ∧ (s_.2.2 ≠ gb625) ∧ (Below w.heap.size w w')) ?_ ?_;rotate_left
    ·intro hJ2_9_10
     refine join_ (σ := Value × Value × Value) 5 #[true, true, true, true, true, true, true, true, true, false, false, false, false, false] (fun s_ => [(12, s_.1), (14, .tuple #[.agg #[.int .i64 t629, .int .i64 t630, .int .i64 t631], .agg #[.int .i64 t632, .int .i64 t633, s_.2.1], s_.2.2]), (9, .tuple #[.agg #[.int .i64 t629, .int .i64 t630, .int .i64 t631], .agg #[.int .i64 t632, .int .i64 t633, s_.2.1], s_.2.2]), (15, .agg #[.int .i64 t629, .int .i64 t630, .int .i64 t631]), (16, .agg #[.int .i64 t632, .int .i64 t633, s_.2.1]), (17, s_.2.2)]) (fun s_ w' => (w'.cell? ⟨gb623, 0, none⟩ = some (.int .i64 a0_0) ∧ w'.cell? ⟨gb623, 1, none⟩ = some (.int .i64 a0_1) ∧ w'.cell? ⟨gb623, 2, none⟩ = some (.slice A0_2 l0_2.length c0_2)) ∧ (Kd.R (Kd.int .i64) 3 w' w.heap.size (fun _ => True) s_.1 t626) ∧ (Kd.R k78 78 w' w.heap.size (fun _ => True) s_.2.1 t634) ∧ (Kd.S (Kd.slice 3 (Kd.int .i64)) 22 w' w.heap.size (fun k_ => some k_ ≠ (s_.1 : Value).ownBlock) s_.2.2 t637) ∧ (w'.heap[gb623]? = some (.cells #[.int .i64 a0_0, .int .i64 a0_1, .slice A0_2 l0_2.length c0_2] 48 (0, 0))) ∧ (w'.heap[gb624]? = some (.cells #[.int .i64 0, .int .i64 0, .int .i64 0] 90 (0, 0))) ∧ (w'.heap[gb625]? = some (.cells #[.int .i64 0, .int .i64 0, .slice none 0 0] 48 (0, 0))) ∧ (Below w.heap.size w w')) ?_ ?_;rotate_left
     ·intro hJ2_4
      refine join_ (σ := Value × Nat) 9 #[true, true, true, true, false, false, false, false, false, true, false, false, false, false] (fun s_ => [(12, s_.1), (6, .pointer (some ⟨s_.2, 0, none⟩))]) (fun s_ w' => (w'.cell? ⟨gb623, 0, none⟩ = some (.int .i64 a0_0) ∧ w'.cell? ⟨gb623, 1, none⟩ = some (.int .i64 a0_1) ∧ w'.cell? ⟨gb623, 2, none⟩ = some (.slice A0_2 l0_2.length c0_2)) ∧ (Kd.R (Kd.int .i64) 3 w' w.heap.size (fun _ => True) s_.1 t626) ∧ (w'.heap[gb623]? = some (.cells #[.int .i64 a0_0, .int .i64 a0_1, .slice A0_2 l0_2.length c0_2] 48 (0, 0))) ∧ (w'.heap[gb624]? = some (.cells #[.int .i64 0, .int .i64 0, .int .i64 0] 90 (0, 0))) ∧ (w'.heap[gb625]? = some (.cells #[.int .i64 0, .int .i64 0, .slice none 0 0] 48 (0, 0))) ∧ (w'.heap[s_.2]? = some (.cells #[.int .i64 0, .int .i64 0, .int .i64 0] 90 (0, 0))) ∧ (w.heap.size ≤ s_.2) ∧ (w.heap.size ≤ s_.2) ∧ (gb623 ≠ s_.2) ∧ (s_.2 ≠ gb623) ∧ (gb624 ≠ s_.2) ∧ (s_.2 ≠ gb624) ∧ (gb625 ≠ s_.2) ∧ (s_.2 ≠ gb625) ∧ (Below w.heap.size w w')) ?_ ?_;rotate_left
      ·intro hJ2_9
       refine join_ (σ := Value × Nat) 9 #[true, true, true, true, false, false, false, false, false, false, true, false, false, false] (fun s_ => [(12, s_.1), (7, .pointer (some ⟨s_.2, 0, none⟩))]) (fun s_ w' => (w'.cell? ⟨gb623, 0, none⟩ = some (.int .i64 a0_0) ∧ w'.cell? ⟨gb623, 1, none⟩ = some (.int .i64 a0_1) ∧ w'.cell? ⟨gb623, 2, none⟩ = some (.slice A0_2 l0_2.length c0_2)) ∧ (Kd.R (Kd.int .i64) 3 w' w.heap.size (fun _ => True) s_.1 t626) ∧ (w'.heap[gb623]? = some (.cells #[.int .i64 a0_0, .int .i64 a0_1, .slice A0_2 l0_2.length c0_2] 48 (0, 0))) ∧ (w'.heap[gb624]? = some (.cells #[.int .i64 0, .int .i64 0, .int .i64 0] 90 (0, 0))) ∧ (w'.heap[gb625]? = some (.cells #[.int .i64 0, .int .i64 0, .slice none 0 0] 48 (0, 0))) ∧ (w'.heap[s_.2]? = some (.cells #[.int .i64 0, .int .i64 0, .slice none 0 0] 48 (0, 0))) ∧ (w.heap.size ≤ s_.2) ∧ (w.heap.size ≤ s_.2) ∧ (gb623 ≠ s_.2) ∧ (s_.2 ≠ gb623) ∧ (gb624 ≠ s_.2) ∧ (s_.2 ≠ gb624) ∧ (gb625 ≠ s_.2) ∧ (s_.2 ≠ gb625) ∧ (Below w.heap.size w w')) ?_ ?_;rotate_left
       ·intro hJ2_10
        refine join_ (σ := Nat × Nat) 9 #[true, true, false, true, false, false, false, false, false, true, true, false, false, false] (fun s_ => [(6, .pointer (some ⟨s_.1, 0, none⟩)), (7, .pointer (some ⟨s_.2, 0, none⟩))]) (fun s_ w' => (w'.cell? ⟨gb623, 0, none⟩ = some (.int .i64 a0_0) ∧ w'.cell? ⟨gb623, 1, none⟩ = some (.int .i64 a0_1) ∧ w'.cell? ⟨gb623, 2, none⟩ = some (.slice A0_2 l0_2.length c0_2)) ∧ (w'.heap[gb623]? = some (.cells #[.int .i64 a0_0, .int .i64 a0_1, .slice A0_2 l0_2.length c0_2] 48 (0, 0))) ∧ (w'.heap[gb624]? = some (.cells #[.int .i64 0, .int .i64 0, .int .i64 0] 90 (0, 0))) ∧ (w'.heap[gb625]? = some (.cells #[.int .i64 0, .int .i64 0, .slice none 0 0] 48 (0, 0))) ∧ (w'.heap[s_.1]? = some (.cells #[.int .i64 0, .int .i64 0, .int .i64 0] 90 (0, 0))) ∧ (w'.heap[s_.2]? = some (.cells #[.int .i64 0, .int .i64 0, .slice none 0 0] 48 (0, 0))) ∧ (w.heap.size ≤ s_.1) ∧ (w.heap.size ≤ s_.1) ∧ (gb623 ≠ s_.1) ∧ (s_.1 ≠ gb623) ∧ (gb624 ≠ s_.1) ∧ (s_.1 ≠ gb624) ∧ (gb625 ≠ s_.1) ∧ (s_.1 ≠ gb625) ∧ (s_.2 ≠ s_.1) ∧ (s_.1 ≠ s_.2) ∧ (w.heap.size ≤ s_.2) ∧ (w.heap.size ≤ s_.2) ∧ (gb623 ≠ s_.2) ∧ (s_.2 ≠ gb623) ∧ (gb624 ≠ s_.2) ∧ (s_.2 ≠ gb624) ∧ (gb625 ≠ s_.2) ∧ (s_.2 ≠ gb625) ∧ (Below w.heap.size w w')) ?_ ?_;rotate_left
        ·intro hJ9_10
         refine join_ (σ := Value) 10 #[true, true, true, true, false, false, false, false, false, false, false, false, false, false] (fun s_ => [(12, s_)]) (fun s_ w' => (w'.cell? ⟨gb623, 0, none⟩ = some (.int .i64 a0_0) ∧ w'.cell? ⟨gb623, 1, none⟩ = some (.int .i64 a0_1) ∧ w'.cell? ⟨gb623, 2, none⟩ = some (.slice A0_2 l0_2.length c0_2)) ∧ (Kd.R (Kd.int .i64) 3 w' w.heap.size (fun _ => True) s_ t626) ∧ (w'.heap[gb623]? = some (.cells #[.int .i64 a0_0, .int .i64 a0_1, .slice A0_2 l0_2.length c0_2] 48 (0, 0))) ∧ (w'.heap[gb624]? = some (.cells #[.int .i64 0, .int .i64 0, .int .i64 0] 90 (0, 0))) ∧ (w'.heap[gb625]? = some (.cells #[.int .i64 0, .int .i64 0, .slice none 0 0] 48 (0, 0))) ∧ (Below w.heap.size w w')) ?_ ?_;rotate_left
         ·intro hJ2
          refine join_ (σ := Nat) 10 #[true, true, false, true, false, false, false, false, false, true, false, false, false, false] (fun s_ => [(6, .pointer (some ⟨s_, 0, none⟩))]) (fun s_ w' => (w'.cell? ⟨gb623, 0, none⟩ = some (.int .i64 a0_0) ∧ w'.cell? ⟨gb623, 1, none⟩ = some (.int .i64 a0_1) ∧ w'.cell? ⟨gb623, 2, none⟩ = some (.slice A0_2 l0_2.length c0_2)) ∧ (w'.heap[gb623]? = some (.cells #[.int .i64 a0_0, .int .i64 a0_1, .slice A0_2 l0_2.length c0_2] 48 (0, 0))) ∧ (w'.heap[gb624]? = some (.cells #[.int .i64 0, .int .i64 0, .int .i64 0] 90 (0, 0))) ∧ (w'.heap[gb625]? = some (.cells #[.int .i64 0, .int .i64 0, .slice none 0 0] 48 (0, 0))) ∧ (w'.heap[s_]? = some (.cells #[.int .i64 0, .int .i64 0, .int .i64 0] 90 (0, 0))) ∧ (w.heap.size ≤ s_) ∧ (w.heap.size ≤ s_) ∧ (gb623 ≠ s_) ∧ (s_ ≠ gb623) ∧ (gb624 ≠ s_) ∧ (s_ ≠ gb624) ∧ (gb625 ≠ s_) ∧ (s_ ≠ gb625) ∧ (Below w.heap.size w w')) ?_ ?_;rotate_left
          ·intro hJ9
           refine join_ (σ := Nat) 10 #[true, true, false, true, false, false, false, false, false, false, true, false, false, false] (fun s_ => [(7, .pointer (some ⟨s_, 0, none⟩))]) (fun s_ w' => (w'.cell? ⟨gb623, 0, none⟩ = some (.int .i64 a0_0) ∧ w'.cell? ⟨gb623, 1, none⟩ = some (.int .i64 a0_1) ∧ w'.cell? ⟨gb623, 2, none⟩ = some (.slice A0_2 l0_2.length c0_2)) ∧ (w'.heap[gb623]? = some (.cells #[.int .i64 a0_0, .int .i64 a0_1, .slice A0_2 l0_2.length c0_2] 48 (0, 0))) ∧ (w'.heap[gb624]? = some (.cells #[.int .i64 0, .int .i64 0, .int .i64 0] 90 (0, 0))) ∧ (w'.heap[gb625]? = some (.cells #[.int .i64 0, .int .i64 0, .slice none 0 0] 48 (0, 0))) ∧ (w'.heap[s_]? = some (.cells #[.int .i64 0, .int .i64 0, .slice none 0 0] 48 (0, 0))) ∧ (w.heap.size ≤ s_) ∧ (w.heap.size ≤ s_) ∧ (gb623 ≠ s_) ∧ (s_ ≠ gb623) ∧ (gb624 ≠ s_) ∧ (s_ ≠ gb624) ∧ (gb625 ≠ s_) ∧ (s_ ≠ gb625) ∧ (Below w.heap.size w w')) ?_ ?_;rotate_left
           ·intro hJ10
            refine three_ (i := 2) (j := 9) (k := 10) (Ni := some 12) (Nj := some 6) (Nk := some 7) #[true, true, true, true, false, false, false, false, false, false, false, false, false, false] #[true, true, false, true, false, false, false, false, false, true, false, false, false, false] #[true, true, false, true, false, false, false, false, false, false, true, false, false, false] rfl rfl rfl rfl rfl rfl (three_of HT_.out (by kernel_rfl)) (by decide) (by decide) (by decide) (fun K hK => ?_) (fun K hK => ?_) (fun K hK => ?_)
            ·skip
             refine goes_ Try.func113 (by kernel_rfl) rfl #[.agg #[.int .i64 a0_0, .int .i64 a0_1, .slice A0_2 l0_2.length c0_2]] (by rfl) rfl rfl (by (try simp only [ma_, mb_, mc_]); first | done | rfl | (simp only [List.length_drop, List.length_take]; rfl)) ?_;with_reducible refine (spec_ggGroups.calls k a0_0 a0_1 _ _ l0_2 t626 _ ?side1 ?side2 A3.out).mono ?_
             (case side1 => exact Kd.C_mv (Kd.C_below HR0_2.out HB.out))
             (case side2 => exact HC0_2.out)
             rintro e w9 ⟨v627, rfl, ho0, hb⟩;refine ⟨_, rfl, ?_⟩;refine ev5 (Kd.R_lower ho0 (below_size (bm HB))) (kb BK623 hb) (kb BK624 hb) (kb BK625 hb) (bs HB hb) ?_;clear BK623 BK624 BK625 HB;intro HO628 BK623 BK624 BK625 HB;(try clear hb);(try clear hb2);(try clear hk);(try clear hi);(try clear ho0);refine hK.out _ _ ⟨(blk_cell BK623.out 0).trans rfl, (blk_cell BK623.out 1).trans rfl, (blk_cell BK623.out 2).trans rfl⟩ (fun hHeld => ?_);clear hK K;refine norm_ (a' := ?_) ?_ ?_;rotate_left
             ·show Act.put _ (some 12) _ = _
              simp only [Act.put, za_, zb_, zc_, i64_w, i32_w];rfl
             exact norm_ (by first | (simp only [putAll, Act.put, za_, zb_, zc_]; done) | (simp only [putAll, Act.put, za_, zb_, zc_]; rfl)) (hJ2 (v627) _ ⟨hHeld, (Kd.R_mv HO628.out), (km_ BK623), (km_ BK624), (km_ BK625), (bm HB)⟩)
            ·skip
             refine box_step ?hg (N := 6) ?hd (cs := #[.int .i64 0, .int .i64 0, .int .i64 0]) (t := 90) ?hr ?_; (case hd => rfl); (case hg => rfl); (case hr => first | (go_simp; done) | (go_simp; rfl));intro gb640 hg w9 hbox hb;refine ev12 (kb BK623 hb) (kb BK624 hb) (kb BK625 hb) (bs HB hb) (hbox) (gle hg HB) (gle hg HB) (gnf hg BK623) (gne hg BK623) (gnf hg BK624) (gne hg BK624) (gnf hg BK625) ?_; intro n0_ n1_ n2_ n3_ n4_ n5_ n6_ n7_ n8_ n9_ n10_ n11_;refine ev1 (gne hg BK625) ?_; intro n12_;clear BK623 BK624 BK625 HB;revert n0_ n1_ n2_ n3_ n4_ n5_ n6_ n7_ n8_ n9_ n10_ n11_ n12_;intro BK623 BK624 BK625 HB BK640 GW640 GE640 NB623_640 NB640_623 NB624_640 NB640_624 NB625_640 NB640_625;clear hb hbox hg;refine hK.out _ _ ⟨(blk_cell BK623.out 0).trans rfl, (blk_cell BK623.out 1).trans rfl, (blk_cell BK623.out 2).trans rfl⟩ (fun hHeld => ?_);clear hK K;refine norm_ (a' := ?_) ?_ ?_;rotate_left
             ·show Act.put _ (some 6) _ = _
              simp only [Act.put, za_, zb_, zc_, i64_w, i32_w];rfl
             exact norm_ (by first | (simp only [putAll, Act.put, za_, zb_, zc_]; done) | (simp only [putAll, Act.put, za_, zb_, zc_]; rfl)) (hJ9 (gb640) _ ⟨hHeld, (km_ BK623), (km_ BK624), (km_ BK625), (km_ BK640), GW640.out, GE640.out, NB623_640.out, NB640_623.out, NB624_640.out, NB640_624.out, NB625_640.out, NB640_625.out, (bm HB)⟩)
            ·skip
             refine box_step ?hg (N := 7) ?hd (cs := #[.int .i64 0, .int .i64 0, .slice none 0 0]) (t := 48) ?hr ?_; (case hd => rfl); (case hg => rfl); (case hr => first | (go_simp; done) | (go_simp; rfl));intro gb641 hg w9 hbox hb;refine ev12 (kb BK623 hb) (kb BK624 hb) (kb BK625 hb) (bs HB hb) (hbox) (gle hg HB) (gle hg HB) (gnf hg BK623) (gne hg BK623) (gnf hg BK624) (gne hg BK624) (gnf hg BK625) ?_; intro n0_ n1_ n2_ n3_ n4_ n5_ n6_ n7_ n8_ n9_ n10_ n11_;refine ev1 (gne hg BK625) ?_; intro n12_;clear BK623 BK624 BK625 HB;revert n0_ n1_ n2_ n3_ n4_ n5_ n6_ n7_ n8_ n9_ n10_ n11_ n12_;intro BK623 BK624 BK625 HB BK641 GW641 GE641 NB623_641 NB641_623 NB624_641 NB641_624 NB625_641 NB641_625;clear hb hbox hg;refine hK.out _ _ ⟨(blk_cell BK623.out 0).trans rfl, (blk_cell BK623.out 1).trans rfl, (blk_cell BK623.out 2).trans rfl⟩ (fun hHeld => ?_);clear hK K;refine norm_ (a' := ?_) ?_ ?_;rotate_left
             ·show Act.put _ (some 7) _ = _
              simp only [Act.put, za_, zb_, zc_, i64_w, i32_w];rfl
             exact norm_ (by first | (simp only [putAll, Act.put, za_, zb_, zc_]; done) | (simp only [putAll, Act.put, za_, zb_, zc_]; rfl)) (hJ10 (gb641) _ ⟨hHeld, (km_ BK623), (km_ BK624), (km_ BK625), (km_ BK641), GW641.out, GE641.out, NB623_641.out, NB641_623.out, NB624_641.out, NB641_624.out, NB625_641.out, NB641_625.out, (bm HB)⟩)
           ·skip
            rintro gb641 w10 ⟨hS_, h0_, h1_, h2_, h3_, h4_, h5_, h6_, h7_, h8_, h9_, h10_, h11_, h12_⟩;have n0_ : Aside0 (w10.heap[gb623]? = some (.cells #[.int .i64 a0_0, .int .i64 a0_1, .slice A0_2 l0_2.length c0_2] 48 (0, 0))) := ⟨h0_⟩
            have n1_ : Aside0 (w10.heap[gb624]? = some (.cells #[.int .i64 0, .int .i64 0, .int .i64 0] 90 (0, 0))) := ⟨h1_⟩
            have n2_ : Aside0 (w10.heap[gb625]? = some (.cells #[.int .i64 0, .int .i64 0, .slice none 0 0] 48 (0, 0))) := ⟨h2_⟩
            have n3_ : Aside0 (w10.heap[gb641]? = some (.cells #[.int .i64 0, .int .i64 0, .slice none 0 0] 48 (0, 0))) := ⟨h3_⟩
            have n4_ : Aside0 (w.heap.size ≤ gb641) := ⟨h4_⟩
            have n5_ : Aside0 (w.heap.size ≤ gb641) := ⟨h5_⟩
            have n6_ : Aside0 (gb623 ≠ gb641) := ⟨h6_⟩
            have n7_ : Aside0 (gb641 ≠ gb623) := ⟨h7_⟩
            have n8_ : Aside0 (gb624 ≠ gb641) := ⟨h8_⟩
            have n9_ : Aside0 (gb641 ≠ gb624) := ⟨h9_⟩
            have n10_ : Aside0 (gb625 ≠ gb641) := ⟨h10_⟩
            have n11_ : Aside0 (gb641 ≠ gb625) := ⟨h11_⟩
            have n12_ : Aside0 (Below w.heap.size w w10) := ⟨h12_⟩
            clear BK623;clear BK624;clear BK625;clear HB;clear h0_ h1_ h2_ h3_ h4_ h5_ h6_ h7_ h8_ h9_ h10_ h11_ h12_;have BK623 := n0_;have BK624 := n1_;have BK625 := n2_;have BK641 := n3_;have GW641 := n4_;have GE641 := n5_;have NB623_641 := n6_;have NB641_623 := n7_;have NB624_641 := n8_;have NB641_624 := n9_;have NB625_641 := n10_;have NB641_625 := n11_;have HB := n12_;clear n0_ n1_ n2_ n3_ n4_ n5_ n6_ n7_ n8_ n9_ n10_ n11_ n12_;have hHeld : w10.cell? ⟨gb623, 0, none⟩ = some (.int .i64 a0_0) ∧ w10.cell? ⟨gb623, 1, none⟩ = some (.int .i64 a0_1) ∧ w10.cell? ⟨gb623, 2, none⟩ = some (.slice A0_2 l0_2.length c0_2) := hS_;refine norm_ (a' := ?_) ?_ ?_;rotate_left
            ·simp only [putAll, Act.put, za_, zb_, zc_]
             rfl
            refine two_ (i := 2) (j := 9) (Ni := some 12) (Nj := some 6) #[true, true, true, true, false, false, false, false, false, false, true, false, false, false] #[true, true, false, true, false, false, false, false, false, true, true, false, false, false] rfl rfl rfl rfl (two_of HT_.out (by kernel_rfl)) (by decide) (by decide) (fun K hK => ?_) (fun K hK => ?_)
            ·skip
             refine goes_ Try.func113 (by kernel_rfl) rfl #[.agg #[.int .i64 a0_0, .int .i64 a0_1, .slice A0_2 l0_2.length c0_2]] (by rfl) rfl rfl (by (try simp only [ma_, mb_, mc_]); first | done | rfl | (simp only [List.length_drop, List.length_take]; rfl)) ?_;with_reducible refine (spec_ggGroups.calls k a0_0 a0_1 _ _ l0_2 t626 _ ?side1 ?side2 A3.out).mono ?_
             (case side1 => exact Kd.C_mv (Kd.C_below HR0_2.out HB.out))
             (case side2 => exact HC0_2.out)
             rintro e w11 ⟨v627, rfl, ho0, hb⟩;refine ⟨_, rfl, ?_⟩;refine ev6 (Kd.R_lower ho0 (below_size (bm HB))) (kb BK623 hb) (kb BK624 hb) (kb BK625 hb) (kb BK641 hb) (bs HB hb) ?_;clear BK623 BK624 BK625 BK641 HB;intro HO628 BK623 BK624 BK625 BK641 HB;(try clear hb);(try clear hb2);(try clear hk);(try clear hi);(try clear ho0);refine hK.out _ _ ⟨(blk_cell BK623.out 0).trans rfl, (blk_cell BK623.out 1).trans rfl, (blk_cell BK623.out 2).trans rfl⟩ (fun hHeld => ?_);clear hK K;refine norm_ (a' := ?_) ?_ ?_;rotate_left
             ·show Act.put _ (some 12) _ = _
              simp only [Act.put, za_, zb_, zc_, i64_w, i32_w];rfl
             exact norm_ (by first | (simp only [putAll, Act.put, za_, zb_, zc_]; done) | (simp only [putAll, Act.put, za_, zb_, zc_]; rfl)) (hJ2_10 (v627, gb641) _ ⟨hHeld, (Kd.R_mv HO628.out), (km_ BK623), (km_ BK624), (km_ BK625), (km_ BK641), GW641.out, GE641.out, NB623_641.out, NB641_623.out, NB624_641.out, NB641_624.out, NB625_641.out, NB641_625.out, (bm HB)⟩)
            ·skip
             refine box_step ?hg (N := 6) ?hd (cs := #[.int .i64 0, .int .i64 0, .int .i64 0]) (t := 90) ?hr ?_; (case hd => rfl); (case hg => rfl); (case hr => first | (go_simp; done) | (go_simp; rfl));intro gb640 hg w11 hbox hb;refine ev12 (kb BK623 hb) (kb BK624 hb) (kb BK625 hb) (kb BK641 hb) (bs HB hb) (hbox) (gle hg HB) (gle hg HB) (gnf hg BK623) (gne hg BK623) (gnf hg BK624) (gne hg BK624) ?_; intro n0_ n1_ n2_ n3_ n4_ n5_ n6_ n7_ n8_ n9_ n10_ n11_;refine ev4 (gnf hg BK625) (gne hg BK625) (gnf hg BK641) (gne hg BK641) ?_; intro n12_ n13_ n14_ n15_;clear BK623 BK624 BK625 BK641 HB;revert n0_ n1_ n2_ n3_ n4_ n5_ n6_ n7_ n8_ n9_ n10_ n11_ n12_ n13_ n14_ n15_;intro BK623 BK624 BK625 BK641 HB BK640 GW640 GE640 NB623_640 NB640_623 NB624_640 NB640_624 NB625_640 NB640_625 NB641_640 NB640_641;clear hb hbox hg;refine hK.out _ _ ⟨(blk_cell BK623.out 0).trans rfl, (blk_cell BK623.out 1).trans rfl, (blk_cell BK623.out 2).trans rfl⟩ (fun hHeld => ?_);clear hK K;refine norm_ (a' := ?_) ?_ ?_;rotate_left
             ·show Act.put _ (some 6) _ = _
              simp only [Act.put, za_, zb_, zc_, i64_w, i32_w];rfl
             exact norm_ (by first | (simp only [putAll, Act.put, za_, zb_, zc_]; done) | (simp only [putAll, Act.put, za_, zb_, zc_]; rfl)) (hJ9_10 (gb640, gb641) _ ⟨hHeld, (km_ BK623), (km_ BK624), (km_ BK625), (km_ BK640), (km_ BK641), GW640.out, GE640.out, NB623_640.out, NB640_623.out, NB624_640.out, NB640_624.out, NB625_640.out, NB640_625.out, NB641_640.out, NB640_641.out, GW641.out, GE641.out, NB623_641.out, NB641_623.out, NB624_641.out, NB641_624.out, NB625_641.out, NB641_625.out, (bm HB)⟩)
          ·skip
           rintro gb640 w10 ⟨hS_, h0_, h1_, h2_, h3_, h4_, h5_, h6_, h7_, h8_, h9_, h10_, h11_, h12_⟩;have n0_ : Aside0 (w10.heap[gb623]? = some (.cells #[.int .i64 a0_0, .int .i64 a0_1, .slice A0_2 l0_2.length c0_2] 48 (0, 0))) := ⟨h0_⟩
           have n1_ : Aside0 (w10.heap[gb624]? = some (.cells #[.int .i64 0, .int .i64 0, .int .i64 0] 90 (0, 0))) := ⟨h1_⟩
           have n2_ : Aside0 (w10.heap[gb625]? = some (.cells #[.int .i64 0, .int .i64 0, .slice none 0 0] 48 (0, 0))) := ⟨h2_⟩
           have n3_ : Aside0 (w10.heap[gb640]? = some (.cells #[.int .i64 0, .int .i64 0, .int .i64 0] 90 (0, 0))) := ⟨h3_⟩
           have n4_ : Aside0 (w.heap.size ≤ gb640) := ⟨h4_⟩
           have n5_ : Aside0 (w.heap.size ≤ gb640) := ⟨h5_⟩
           have n6_ : Aside0 (gb623 ≠ gb640) := ⟨h6_⟩
           have n7_ : Aside0 (gb640 ≠ gb623) := ⟨h7_⟩
           have n8_ : Aside0 (gb624 ≠ gb640) := ⟨h8_⟩
           have n9_ : Aside0 (gb640 ≠ gb624) := ⟨h9_⟩
           have n10_ : Aside0 (gb625 ≠ gb640) := ⟨h10_⟩
           have n11_ : Aside0 (gb640 ≠ gb625) := ⟨h11_⟩
           have n12_ : Aside0 (Below w.heap.size w w10) := ⟨h12_⟩
           clear BK623;clear BK624;clear BK625;clear HB;clear h0_ h1_ h2_ h3_ h4_ h5_ h6_ h7_ h8_ h9_ h10_ h11_ h12_;have BK623 := n0_;have BK624 := n1_;have BK625 := n2_;have BK640 := n3_;have GW640 := n4_;have GE640 := n5_;have NB623_640 := n6_;have NB640_623 := n7_;have NB624_640 := n8_;have NB640_624 := n9_;have NB625_640 := n10_;have NB640_625 := n11_;have HB := n12_;clear n0_ n1_ n2_ n3_ n4_ n5_ n6_ n7_ n8_ n9_ n10_ n11_ n12_;have hHeld : w10.cell? ⟨gb623, 0, none⟩ = some (.int .i64 a0_0) ∧ w10.cell? ⟨gb623, 1, none⟩ = some (.int .i64 a0_1) ∧ w10.cell? ⟨gb623, 2, none⟩ = some (.slice A0_2 l0_2.length c0_2) := hS_;refine norm_ (a' := ?_) ?_ ?_;rotate_left
           ·simp only [putAll, Act.put, za_, zb_, zc_]
            rfl
           refine two_ (i := 2) (j := 10) (Ni := some 12) (Nj := some 7) #[true, true, true, true, false, false, false, false, false, true, false, false, false, false] #[true, true, false, true, false, false, false, false, false, true, true, false, false, false] rfl rfl rfl rfl (two_of HT_.out (by kernel_rfl)) (by decide) (by decide) (fun K hK => ?_) (fun K hK => ?_)
           ·skip
            refine goes_ Try.func113 (by kernel_rfl) rfl #[.agg #[.int .i64 a0_0, .int .i64 a0_1, .slice A0_2 l0_2.length c0_2]] (by rfl) rfl rfl (by (try simp only [ma_, mb_, mc_]); first | done | rfl | (simp only [List.length_drop, List.length_take]; rfl)) ?_;with_reducible refine (spec_ggGroups.calls k a0_0 a0_1 _ _ l0_2 t626 _ ?side1 ?side2 A3.out).mono ?_
            (case side1 => exact Kd.C_mv (Kd.C_below HR0_2.out HB.out))
            (case side2 => exact HC0_2.out)
            rintro e w11 ⟨v627, rfl, ho0, hb⟩;refine ⟨_, rfl, ?_⟩;refine ev6 (Kd.R_lower ho0 (below_size (bm HB))) (kb BK623 hb) (kb BK624 hb) (kb BK625 hb) (kb BK640 hb) (bs HB hb) ?_;clear BK623 BK624 BK625 BK640 HB;intro HO628 BK623 BK624 BK625 BK640 HB;(try clear hb);(try clear hb2);(try clear hk);(try clear hi);(try clear ho0);refine hK.out _ _ ⟨(blk_cell BK623.out 0).trans rfl, (blk_cell BK623.out 1).trans rfl, (blk_cell BK623.out 2).trans rfl⟩ (fun hHeld => ?_);clear hK K;refine norm_ (a' := ?_) ?_ ?_;rotate_left
            ·show Act.put _ (some 12) _ = _
             simp only [Act.put, za_, zb_, zc_, i64_w, i32_w];rfl
            exact norm_ (by first | (simp only [putAll, Act.put, za_, zb_, zc_]; done) | (simp only [putAll, Act.put, za_, zb_, zc_]; rfl)) (hJ2_9 (v627, gb640) _ ⟨hHeld, (Kd.R_mv HO628.out), (km_ BK623), (km_ BK624), (km_ BK625), (km_ BK640), GW640.out, GE640.out, NB623_640.out, NB640_623.out, NB624_640.out, NB640_624.out, NB625_640.out, NB640_625.out, (bm HB)⟩)
           ·skip
            refine box_step ?hg (N := 7) ?hd (cs := #[.int .i64 0, .int .i64 0, .slice none 0 0]) (t := 48) ?hr ?_; (case hd => rfl); (case hg => rfl); (case hr => first | (go_simp; done) | (go_simp; rfl));intro gb641 hg w11 hbox hb;refine ev12 (kb BK623 hb) (kb BK624 hb) (kb BK625 hb) (kb BK640 hb) (bs HB hb) (hbox) (gle hg HB) (gle hg HB) (gnf hg BK623) (gne hg BK623) (gnf hg BK624) (gne hg BK624) ?_; intro n0_ n1_ n2_ n3_ n4_ n5_ n6_ n7_ n8_ n9_ n10_ n11_;refine ev4 (gnf hg BK625) (gne hg BK625) (gnf hg BK640) (gne hg BK640) ?_; intro n12_ n13_ n14_ n15_;clear BK623 BK624 BK625 BK640 HB;revert n0_ n1_ n2_ n3_ n4_ n5_ n6_ n7_ n8_ n9_ n10_ n11_ n12_ n13_ n14_ n15_;intro BK623 BK624 BK625 BK640 HB BK641 GW641 GE641 NB623_641 NB641_623 NB624_641 NB641_624 NB625_641 NB641_625 NB640_641 NB641_640;clear hb hbox hg;refine hK.out _ _ ⟨(blk_cell BK623.out 0).trans rfl, (blk_cell BK623.out 1).trans rfl, (blk_cell BK623.out 2).trans rfl⟩ (fun hHeld => ?_);clear hK K;refine norm_ (a' := ?_) ?_ ?_;rotate_left
            ·show Act.put _ (some 7) _ = _
             simp only [Act.put, za_, zb_, zc_, i64_w, i32_w];rfl
            exact norm_ (by first | (simp only [putAll, Act.put, za_, zb_, zc_]; done) | (simp only [putAll, Act.put, za_, zb_, zc_]; rfl)) (hJ9_10 (gb640, gb641) _ ⟨hHeld, (km_ BK623), (km_ BK624), (km_ BK625), (km_ BK640), (km_ BK641), GW640.out, GE640.out, NB623_640.out, NB640_623.out, NB624_640.out, NB640_624.out, NB625_640.out, NB640_625.out, NB641_640.out, NB640_641.out, GW641.out, GE641.out, NB623_641.out, NB641_623.out, NB624_641.out, NB641_624.out, NB625_641.out, NB641_625.out, (bm HB)⟩)
         ·skip
          rintro v627 w10 ⟨hS_, h0_, h1_, h2_, h3_, h4_⟩;have n0_ : Aside0 (Kd.R (Kd.int .i64) 3 w10 w.heap.size (fun _ => True) v627 t626) := ⟨h0_⟩
          have n1_ : Aside0 (w10.heap[gb623]? = some (.cells #[.int .i64 a0_0, .int .i64 a0_1, .slice A0_2 l0_2.length c0_2] 48 (0, 0))) := ⟨h1_⟩
          have n2_ : Aside0 (w10.heap[gb624]? = some (.cells #[.int .i64 0, .int .i64 0, .int .i64 0] 90 (0, 0))) := ⟨h2_⟩
          have n3_ : Aside0 (w10.heap[gb625]? = some (.cells #[.int .i64 0, .int .i64 0, .slice none 0 0] 48 (0, 0))) := ⟨h3_⟩
          have n4_ : Aside0 (Below w.heap.size w w10) := ⟨h4_⟩
          clear BK623;clear BK624;clear BK625;clear HB;clear h0_ h1_ h2_ h3_ h4_;have HO628 := n0_;have BK623 := n1_;have BK624 := n2_;have BK625 := n3_;have HB := n4_;clear n0_ n1_ n2_ n3_ n4_;have hHeld : w10.cell? ⟨gb623, 0, none⟩ = some (.int .i64 a0_0) ∧ w10.cell? ⟨gb623, 1, none⟩ = some (.int .i64 a0_1) ∧ w10.cell? ⟨gb623, 2, none⟩ = some (.slice A0_2 l0_2.length c0_2) := hS_;obtain ⟨Ao11, co11, eo11⟩ := Kd.R_slice HO628.out;(first | subst eo11 | (injection eo11 with f1_ f2_ f3_; have f4_ := f1_.symm; have f5_ := f3_.symm; clear f1_ f2_ f3_; subst f4_; subst f5_))
          refine norm_ (a' := ?_) ?_ ?_;rotate_left
          ·simp only [putAll, Act.put, za_, zb_, zc_]
           rfl
          refine three_ (i := 4) (j := 9) (k := 10) (Ni := some 14) (Nj := some 6) (Nk := some 7) #[true, true, true, true, true, false, false, false, false, false, false, false, false, false] #[true, true, true, true, false, false, false, false, false, true, false, false, false, false] #[true, true, true, true, false, false, false, false, false, false, true, false, false, false] rfl rfl rfl rfl rfl rfl (three_of HT_.out (by kernel_rfl)) (by decide) (by decide) (by decide) (fun K hK => ?_) (fun K hK => ?_) (fun K hK => ?_)
          ·skip
           refine goes_ Try.func112 (by kernel_rfl) rfl #[.agg #[.int .i64 a0_0, .int .i64 a0_1, .slice A0_2 l0_2.length c0_2], .slice Ao11 t626.length co11, .int .i64 a1] (by rfl) rfl rfl (by (try simp only [ma_, mb_, mc_]); first | done | rfl | (simp only [List.length_drop, List.length_take]; rfl)) ?_;with_reducible refine (spec_flGo.calls k a0_0 a0_1 _ _ l0_2 _ _ t626 a1 t629 t630 t631 t632 t633 t634 t637 _ ?side1 ?side2 ?side3 ?side4 A4.out).mono ?_
           (case side1 => exact Kd.C_mv (Kd.C_below HR0_2.out HB.out))
           (case side2 => exact HC0_2.out)
           (case side3 => exact Kd.C_mv (Kd.R_reads' HO628.out).2.2)
           (case side4 => exact (Kd.R_reads' HO628.out).2.1)
           rintro e w12 ⟨v635, v638, rfl, ho0, ho1, hb⟩;refine ⟨_, rfl, ?_⟩;refine ev7 (Kd.R_below (Kd.R_mv HO628.out) hb) (Kd.R_lower ho0 (below_size (bm HB))) (Kd.S_lower (Kd.S_new' ho1 (Kd.R_lt (Kd.R_mv HO628.out))) (below_size (bm HB))) (kb BK623 hb) (kb BK624 hb) (kb BK625 hb) (bs HB hb) ?_;clear HO628 BK623 BK624 BK625 HB;intro HO628 HO636 HO639 BK623 BK624 BK625 HB;(try clear hb);(try clear hb2);(try clear hk);(try clear hi);(try clear ho0);(try clear ho1);refine hK.out _ _ ⟨(blk_cell BK623.out 0).trans rfl, (blk_cell BK623.out 1).trans rfl, (blk_cell BK623.out 2).trans rfl⟩ (fun hHeld => ?_);clear hK K;refine norm_ (a' := ?_) ?_ ?_;rotate_left
           ·show Act.put _ (some 14) _ = _
            simp only [Act.put, za_, zb_, zc_, i64_w, i32_w];rfl
           refine pure_ (i := 5) (N := some 9) (v := ?_) (a' := ?_) #[true, true, true, true, true, true, false, false, false, false, false, false, false, false] rfl rfl (any_of HT_.out (by kernel_rfl)) (fun _ _ _ h => h) (Or.inl ⟨by rfl, ?_⟩) ?_ ?_;rotate_left
           ·intro w'
            go_simp;with_reducible rfl
           rotate_left
           ·simp only [Act.put, za_, zb_, zc_, i64_w, i32_w]
            rfl
           refine pure_ (i := 6) (N := some 15) (v := ?_) (a' := ?_) #[true, true, true, true, true, true, true, false, false, false, false, false, false, false] rfl rfl (any_of HT_.out (by kernel_rfl)) (fun _ _ _ h => h) (Or.inl ⟨by rfl, ?_⟩) ?_ ?_;rotate_left
           ·intro w'
            go_simp;with_reducible rfl
           rotate_left
           ·simp only [Act.put, za_, zb_, zc_, i64_w, i32_w]
            rfl
           refine pure_ (i := 7) (N := some 16) (v := ?_) (a' := ?_) #[true, true, true, true, true, true, true, true, false, false, false, false, false, false] rfl rfl (any_of HT_.out (by kernel_rfl)) (fun _ _ _ h => h) (Or.inl ⟨by rfl, ?_⟩) ?_ ?_;rotate_left
           ·intro w'
            go_simp;with_reducible rfl
           rotate_left
           ·simp only [Act.put, za_, zb_, zc_, i64_w, i32_w]
            rfl
           refine pure_ (i := 8) (N := some 17) (v := ?_) (a' := ?_) #[true, true, true, true, true, true, true, true, true, false, false, false, false, false] rfl rfl (any_of HT_.out (by kernel_rfl)) (fun _ _ _ h => h) (Or.inl ⟨by rfl, ?_⟩) ?_ ?_;rotate_left
           ·intro w'
            go_simp;with_reducible rfl
           rotate_left
           ·simp only [Act.put, za_, zb_, zc_, i64_w, i32_w]
            rfl
           exact norm_ (by first | (simp only [putAll, Act.put, za_, zb_, zc_]; done) | (simp only [putAll, Act.put, za_, zb_, zc_]; rfl)) (hJ2_4 (.slice Ao11 t626.length co11, v635, v638) _ ⟨hHeld, (Kd.R_mv HO628.out), (Kd.R_mv HO636.out), (Kd.S_mv (Kd.S_mono HO639.out (fun _ hk => hk.2))), (km_ BK623), (km_ BK624), (km_ BK625), (bm HB)⟩)
          ·skip
           refine box_step ?hg (N := 6) ?hd (cs := #[.int .i64 0, .int .i64 0, .int .i64 0]) (t := 90) ?hr ?_; (case hd => rfl); (case hg => rfl); (case hr => first | (go_simp; done) | (go_simp; rfl));intro gb640 hg w11 hbox hb;refine ev12 (Kd.R_below (Kd.R_mv HO628.out) hb) (kb BK623 hb) (kb BK624 hb) (kb BK625 hb) (bs HB hb) (hbox) (gle hg HB) (gle hg HB) (gnf hg BK623) (gne hg BK623) (gnf hg BK624) (gne hg BK624) ?_; intro n0_ n1_ n2_ n3_ n4_ n5_ n6_ n7_ n8_ n9_ n10_ n11_;refine ev2 (gnf hg BK625) (gne hg BK625) ?_; intro n12_ n13_;clear HO628 BK623 BK624 BK625 HB;revert n0_ n1_ n2_ n3_ n4_ n5_ n6_ n7_ n8_ n9_ n10_ n11_ n12_ n13_;intro HO628 BK623 BK624 BK625 HB BK640 GW640 GE640 NB623_640 NB640_623 NB624_640 NB640_624 NB625_640 NB640_625;clear hb hbox hg;refine hK.out _ _ ⟨(blk_cell BK623.out 0).trans rfl, (blk_cell BK623.out 1).trans rfl, (blk_cell BK623.out 2).trans rfl⟩ (fun hHeld => ?_);clear hK K;refine norm_ (a' := ?_) ?_ ?_;rotate_left
           ·show Act.put _ (some 6) _ = _
            simp only [Act.put, za_, zb_, zc_, i64_w, i32_w];rfl
           exact norm_ (by first | (simp only [putAll, Act.put, za_, zb_, zc_]; done) | (simp only [putAll, Act.put, za_, zb_, zc_]; rfl)) (hJ2_9 (.slice Ao11 t626.length co11, gb640) _ ⟨hHeld, (Kd.R_mv HO628.out), (km_ BK623), (km_ BK624), (km_ BK625), (km_ BK640), GW640.out, GE640.out, NB623_640.out, NB640_623.out, NB624_640.out, NB640_624.out, NB625_640.out, NB640_625.out, (bm HB)⟩)
          ·skip
           refine box_step ?hg (N := 7) ?hd (cs := #[.int .i64 0, .int .i64 0, .slice none 0 0]) (t := 48) ?hr ?_; (case hd => rfl); (case hg => rfl); (case hr => first | (go_simp; done) | (go_simp; rfl));intro gb641 hg w11 hbox hb;refine ev12 (Kd.R_below (Kd.R_mv HO628.out) hb) (kb BK623 hb) (kb BK624 hb) (kb BK625 hb) (bs HB hb) (hbox) (gle hg HB) (gle hg HB) (gnf hg BK623) (gne hg BK623) (gnf hg BK624) (gne hg BK624) ?_; intro n0_ n1_ n2_ n3_ n4_ n5_ n6_ n7_ n8_ n9_ n10_ n11_;refine ev2 (gnf hg BK625) (gne hg BK625) ?_; intro n12_ n13_;clear HO628 BK623 BK624 BK625 HB;revert n0_ n1_ n2_ n3_ n4_ n5_ n6_ n7_ n8_ n9_ n10_ n11_ n12_ n13_;intro HO628 BK623 BK624 BK625 HB BK641 GW641 GE641 NB623_641 NB641_623 NB624_641 NB641_624 NB625_641 NB641_625;clear hb hbox hg;refine hK.out _ _ ⟨(blk_cell BK623.out 0).trans rfl, (blk_cell BK623.out 1).trans rfl, (blk_cell BK623.out 2).trans rfl⟩ (fun hHeld => ?_);clear hK K;refine norm_ (a' := ?_) ?_ ?_;rotate_left
           ·show Act.put _ (some 7) _ = _
            simp only [Act.put, za_, zb_, zc_, i64_w, i32_w];rfl
           exact norm_ (by first | (simp only [putAll, Act.put, za_, zb_, zc_]; done) | (simp only [putAll, Act.put, za_, zb_, zc_]; rfl)) (hJ2_10 (.slice Ao11 t626.length co11, gb641) _ ⟨hHeld, (Kd.R_mv HO628.out), (km_ BK623), (km_ BK624), (km_ BK625), (km_ BK641), GW641.out, GE641.out, NB623_641.out, NB641_623.out, NB624_641.out, NB641_624.out, NB625_641.out, NB641_625.out, (bm HB)⟩)
        ·skip
         rintro ⟨gb640, gb641⟩ w11 ⟨hS_, h0_, h1_, h2_, h3_, h4_, h5_, h6_, h7_, h8_, h9_, h10_, h11_, h12_, h13_, h14_, h15_, h16_, h17_, h18_, h19_, h20_, h21_, h22_, h23_⟩;have n0_ : Aside0 (w11.heap[gb623]? = some (.cells #[.int .i64 a0_0, .int .i64 a0_1, .slice A0_2 l0_2.length c0_2] 48 (0, 0))) := ⟨h0_⟩
         have n1_ : Aside0 (w11.heap[gb624]? = some (.cells #[.int .i64 0, .int .i64 0, .int .i64 0] 90 (0, 0))) := ⟨h1_⟩
         have n2_ : Aside0 (w11.heap[gb625]? = some (.cells #[.int .i64 0, .int .i64 0, .slice none 0 0] 48 (0, 0))) := ⟨h2_⟩
         have n3_ : Aside0 (w11.heap[gb640]? = some (.cells #[.int .i64 0, .int .i64 0, .int .i64 0] 90 (0, 0))) := ⟨h3_⟩
         have n4_ : Aside0 (w11.heap[gb641]? = some (.cells #[.int .i64 0, .int .i64 0, .slice none 0 0] 48 (0, 0))) := ⟨h4_⟩
         have n5_ : Aside0 (w.heap.size ≤ gb640) := ⟨h5_⟩
         have n6_ : Aside0 (w.heap.size ≤ gb640) := ⟨h6_⟩
         have n7_ : Aside0 (gb623 ≠ gb640) := ⟨h7_⟩
         have n8_ : Aside0 (gb640 ≠ gb623) := ⟨h8_⟩
         have n9_ : Aside0 (gb624 ≠ gb640) := ⟨h9_⟩
         have n10_ : Aside0 (gb640 ≠ gb624) := ⟨h10_⟩
         have n11_ : Aside0 (gb625 ≠ gb640) := ⟨h11_⟩
         have n12_ : Aside0 (gb640 ≠ gb625) := ⟨h12_⟩
         have n13_ : Aside0 (gb641 ≠ gb640) := ⟨h13_⟩
         have n14_ : Aside0 (gb640 ≠ gb641) := ⟨h14_⟩
         have n15_ : Aside0 (w.heap.size ≤ gb641) := ⟨h15_⟩
         have n16_ : Aside0 (w.heap.size ≤ gb641) := ⟨h16_⟩
         have n17_ : Aside0 (gb623 ≠ gb641) := ⟨h17_⟩
         have n18_ : Aside0 (gb641 ≠ gb623) := ⟨h18_⟩
         have n19_ : Aside0 (gb624 ≠ gb641) := ⟨h19_⟩
         have n20_ : Aside0 (gb641 ≠ gb624) := ⟨h20_⟩
         have n21_ : Aside0 (gb625 ≠ gb641) := ⟨h21_⟩
         have n22_ : Aside0 (gb641 ≠ gb625) := ⟨h22_⟩
         have n23_ : Aside0 (Below w.heap.size w w11) := ⟨h23_⟩
         clear BK623;clear BK624;clear BK625;clear HB;clear h0_ h1_ h2_ h3_ h4_ h5_ h6_ h7_ h8_ h9_ h10_ h11_ h12_ h13_ h14_ h15_ h16_ h17_ h18_ h19_ h20_ h21_ h22_ h23_;have BK623 := n0_;have BK624 := n1_;have BK625 := n2_;have BK640 := n3_;have BK641 := n4_;have GW640 := n5_;have GE640 := n6_;have NB623_640 := n7_;have NB640_623 := n8_;have NB624_640 := n9_;have NB640_624 := n10_;have NB625_640 := n11_;have NB640_625 := n12_;have NB641_640 := n13_;have NB640_641 := n14_;have GW641 := n15_;have GE641 := n16_;have NB623_641 := n17_;have NB641_623 := n18_;have NB624_641 := n19_;have NB641_624 := n20_;have NB625_641 := n21_;have NB641_625 := n22_;have HB := n23_;clear n0_ n1_ n2_ n3_ n4_ n5_ n6_ n7_ n8_ n9_ n10_ n11_ n12_ n13_ n14_ n15_ n16_ n17_ n18_ n19_ n20_ n21_ n22_ n23_;have hHeld : w11.cell? ⟨gb623, 0, none⟩ = some (.int .i64 a0_0) ∧ w11.cell? ⟨gb623, 1, none⟩ = some (.int .i64 a0_1) ∧ w11.cell? ⟨gb623, 2, none⟩ = some (.slice A0_2 l0_2.length c0_2) := hS_;refine norm_ (a' := ?_) ?_ ?_;rotate_left
         ·simp only [putAll, Act.put, za_, zb_, zc_]
          rfl
         refine one_ (i := 2) (N := some 12) #[true, true, true, true, false, false, false, false, false, true, true, false, false, false] rfl rfl (one_of HT_.out (by kernel_rfl)) (by decide) (fun K hK => ?_);refine goes_ Try.func113 (by kernel_rfl) rfl #[.agg #[.int .i64 a0_0, .int .i64 a0_1, .slice A0_2 l0_2.length c0_2]] (by rfl) rfl rfl (by (try simp only [ma_, mb_, mc_]); first | done | rfl | (simp only [List.length_drop, List.length_take]; rfl)) ?_;with_reducible refine (spec_ggGroups.calls k a0_0 a0_1 _ _ l0_2 t626 _ ?side1 ?side2 A3.out).mono ?_
         (case side1 => exact Kd.C_mv (Kd.C_below HR0_2.out HB.out))
         (case side2 => exact HC0_2.out)
         rintro e w12 ⟨v627, rfl, ho0, hb⟩;refine ⟨_, rfl, ?_⟩;refine ev7 (Kd.R_lower ho0 (below_size (bm HB))) (kb BK623 hb) (kb BK624 hb) (kb BK625 hb) (kb BK640 hb) (kb BK641 hb) (bs HB hb) ?_;clear BK623 BK624 BK625 BK640 BK641 HB;intro HO628 BK623 BK624 BK625 BK640 BK641 HB;(try clear hb);(try clear hb2);(try clear hk);(try clear hi);(try clear ho0);refine hK.out _ _ ⟨(blk_cell BK623.out 0).trans rfl, (blk_cell BK623.out 1).trans rfl, (blk_cell BK623.out 2).trans rfl⟩ (fun hHeld => ?_);clear hK K;refine norm_ (a' := ?_) ?_ ?_;rotate_left
         ·show Act.put _ (some 12) _ = _
          simp only [Act.put, za_, zb_, zc_, i64_w, i32_w];rfl
         exact norm_ (by first | (simp only [putAll, Act.put, za_, zb_, zc_]; done) | (simp only [putAll, Act.put, za_, zb_, zc_]; rfl)) (hJ2_9_10 (v627, gb640, gb641) _ ⟨hHeld, (Kd.R_mv HO628.out), (km_ BK623), (km_ BK624), (km_ BK625), (km_ BK640), (km_ BK641), GW640.out, GE640.out, NB623_640.out, NB640_623.out, NB624_640.out, NB640_624.out, NB625_640.out, NB640_625.out, NB641_640.out, NB640_641.out, GW641.out, GE641.out, NB623_641.out, NB641_623.out, NB624_641.out, NB641_624.out, NB625_641.out, NB641_625.out, (bm HB)⟩)
       ·skip
        rintro ⟨v627, gb641⟩ w11 ⟨hS_, h0_, h1_, h2_, h3_, h4_, h5_, h6_, h7_, h8_, h9_, h10_, h11_, h12_, h13_⟩;have n0_ : Aside0 (Kd.R (Kd.int .i64) 3 w11 w.heap.size (fun _ => True) v627 t626) := ⟨h0_⟩
        have n1_ : Aside0 (w11.heap[gb623]? = some (.cells #[.int .i64 a0_0, .int .i64 a0_1, .slice A0_2 l0_2.length c0_2] 48 (0, 0))) := ⟨h1_⟩
        have n2_ : Aside0 (w11.heap[gb624]? = some (.cells #[.int .i64 0, .int .i64 0, .int .i64 0] 90 (0, 0))) := ⟨h2_⟩
        have n3_ : Aside0 (w11.heap[gb625]? = some (.cells #[.int .i64 0, .int .i64 0, .slice none 0 0] 48 (0, 0))) := ⟨h3_⟩
        have n4_ : Aside0 (w11.heap[gb641]? = some (.cells #[.int .i64 0, .int .i64 0, .slice none 0 0] 48 (0, 0))) := ⟨h4_⟩
        have n5_ : Aside0 (w.heap.size ≤ gb641) := ⟨h5_⟩
        have n6_ : Aside0 (w.heap.size ≤ gb641) := ⟨h6_⟩
        have n7_ : Aside0 (gb623 ≠ gb641) := ⟨h7_⟩
        have n8_ : Aside0 (gb641 ≠ gb623) := ⟨h8_⟩
        have n9_ : Aside0 (gb624 ≠ gb641) := ⟨h9_⟩
        have n10_ : Aside0 (gb641 ≠ gb624) := ⟨h10_⟩
        have n11_ : Aside0 (gb625 ≠ gb641) := ⟨h11_⟩
        have n12_ : Aside0 (gb641 ≠ gb625) := ⟨h12_⟩
        have n13_ : Aside0 (Below w.heap.size w w11) := ⟨h13_⟩
        clear BK623;clear BK624;clear BK625;clear HB;clear h0_ h1_ h2_ h3_ h4_ h5_ h6_ h7_ h8_ h9_ h10_ h11_ h12_ h13_;have HO628 := n0_;have BK623 := n1_;have BK624 := n2_;have BK625 := n3_;have BK641 := n4_;have GW641 := n5_;have GE641 := n6_;have NB623_641 := n7_;have NB641_623 := n8_;have NB624_641 := n9_;have NB641_624 := n10_;have NB625_641 := n11_;have NB641_625 := n12_;have HB := n13_;clear n0_ n1_ n2_ n3_ n4_ n5_ n6_ n7_ n8_ n9_ n10_ n11_ n12_ n13_;have hHeld : w11.cell? ⟨gb623, 0, none⟩ = some (.int .i64 a0_0) ∧ w11.cell? ⟨gb623, 1, none⟩ = some (.int .i64 a0_1) ∧ w11.cell? ⟨gb623, 2, none⟩ = some (.slice A0_2 l0_2.length c0_2) := hS_;obtain ⟨Ao12, co12, eo12⟩ := Kd.R_slice HO628.out;(first | subst eo12 | (injection eo12 with f1_ f2_ f3_; have f4_ := f1_.symm; have f5_ := f3_.symm; clear f1_ f2_ f3_; subst f4_; subst f5_))
        refine norm_ (a' := ?_) ?_ ?_;rotate_left
        ·simp only [putAll, Act.put, za_, zb_, zc_]
         rfl
        refine two_ (i := 4) (j := 9) (Ni := some 14) (Nj := some 6) #[true, true, true, true, true, false, false, false, false, false, true, false, false, false] #[true, true, true, true, false, false, false, false, false, true, true, false, false, false] rfl rfl rfl rfl (two_of HT_.out (by kernel_rfl)) (by decide) (by decide) (fun K hK => ?_) (fun K hK => ?_)
        ·skip
         refine goes_ Try.func112 (by kernel_rfl) rfl #[.agg #[.int .i64 a0_0, .int .i64 a0_1, .slice A0_2 l0_2.length c0_2], .slice Ao12 t626.length co12, .int .i64 a1] (by rfl) rfl rfl (by (try simp only [ma_, mb_, mc_]); first | done | rfl | (simp only [List.length_drop, List.length_take]; rfl)) ?_;with_reducible refine (spec_flGo.calls k a0_0 a0_1 _ _ l0_2 _ _ t626 a1 t629 t630 t631 t632 t633 t634 t637 _ ?side1 ?side2 ?side3 ?side4 A4.out).mono ?_
         (case side1 => exact Kd.C_mv (Kd.C_below HR0_2.out HB.out))
         (case side2 => exact HC0_2.out)
         (case side3 => exact Kd.C_mv (Kd.R_reads' HO628.out).2.2)
         (case side4 => exact (Kd.R_reads' HO628.out).2.1)
         rintro e w13 ⟨v635, v638, rfl, ho0, ho1, hb⟩;refine ⟨_, rfl, ?_⟩;refine ev8 (Kd.R_below (Kd.R_mv HO628.out) hb) (Kd.R_lower ho0 (below_size (bm HB))) (Kd.S_lower (Kd.S_new' ho1 (Kd.R_lt (Kd.R_mv HO628.out))) (below_size (bm HB))) (kb BK623 hb) (kb BK624 hb) (kb BK625 hb) (kb BK641 hb) (bs HB hb) ?_;clear HO628 BK623 BK624 BK625 BK641 HB;intro HO628 HO636 HO639 BK623 BK624 BK625 BK641 HB;(try clear hb);(try clear hb2);(try clear hk);(try clear hi);(try clear ho0);(try clear ho1);refine hK.out _ _ ⟨(blk_cell BK623.out 0).trans rfl, (blk_cell BK623.out 1).trans rfl, (blk_cell BK623.out 2).trans rfl⟩ (fun hHeld => ?_);clear hK K;refine norm_ (a' := ?_) ?_ ?_;rotate_left
         ·show Act.put _ (some 14) _ = _
          simp only [Act.put, za_, zb_, zc_, i64_w, i32_w];rfl
         refine pure_ (i := 5) (N := some 9) (v := ?_) (a' := ?_) #[true, true, true, true, true, true, false, false, false, false, true, false, false, false] rfl rfl (any_of HT_.out (by kernel_rfl)) (fun _ _ _ h => h) (Or.inl ⟨by rfl, ?_⟩) ?_ ?_;rotate_left
         ·intro w'
          go_simp;with_reducible rfl
         rotate_left
         ·simp only [Act.put, za_, zb_, zc_, i64_w, i32_w]
          rfl
         refine pure_ (i := 6) (N := some 15) (v := ?_) (a' := ?_) #[true, true, true, true, true, true, true, false, false, false, true, false, false, false] rfl rfl (any_of HT_.out (by kernel_rfl)) (fun _ _ _ h => h) (Or.inl ⟨by rfl, ?_⟩) ?_ ?_;rotate_left
         ·intro w'
          go_simp;with_reducible rfl
         rotate_left
         ·simp only [Act.put, za_, zb_, zc_, i64_w, i32_w]
          rfl
         refine pure_ (i := 7) (N := some 16) (v := ?_) (a' := ?_) #[true, true, true, true, true, true, true, true, false, false, true, false, false, false] rfl rfl (any_of HT_.out (by kernel_rfl)) (fun _ _ _ h => h) (Or.inl ⟨by rfl, ?_⟩) ?_ ?_;rotate_left
         ·intro w'
          go_simp;with_reducible rfl
         rotate_left
         ·simp only [Act.put, za_, zb_, zc_, i64_w, i32_w]
          rfl
         refine pure_ (i := 8) (N := some 17) (v := ?_) (a' := ?_) #[true, true, true, true, true, true, true, true, true, false, true, false, false, false] rfl rfl (any_of HT_.out (by kernel_rfl)) (fun _ _ _ h => h) (Or.inl ⟨by rfl, ?_⟩) ?_ ?_;rotate_left
         ·intro w'
          go_simp;with_reducible rfl
         rotate_left
         ·simp only [Act.put, za_, zb_, zc_, i64_w, i32_w]
          rfl
         exact norm_ (by first | (simp only [putAll, Act.put, za_, zb_, zc_]; done) | (simp only [putAll, Act.put, za_, zb_, zc_]; rfl)) (hJ2_4_10 (.slice Ao12 t626.length co12, v635, v638, gb641) _ ⟨hHeld, (Kd.R_mv HO628.out), (Kd.R_mv HO636.out), (Kd.S_mv (Kd.S_mono HO639.out (fun _ hk => hk.2))), (km_ BK623), (km_ BK624), (km_ BK625), (km_ BK641), GW641.out, GE641.out, NB623_641.out, NB641_623.out, NB624_641.out, NB641_624.out, NB625_641.out, NB641_625.out, (bm HB)⟩)
        ·skip
         refine box_step ?hg (N := 6) ?hd (cs := #[.int .i64 0, .int .i64 0, .int .i64 0]) (t := 90) ?hr ?_; (case hd => rfl); (case hg => rfl); (case hr => first | (go_simp; done) | (go_simp; rfl));intro gb640 hg w12 hbox hb;refine ev12 (Kd.R_below (Kd.R_mv HO628.out) hb) (kb BK623 hb) (kb BK624 hb) (kb BK625 hb) (kb BK641 hb) (bs HB hb) (hbox) (gle hg HB) (gle hg HB) (gnf hg BK623) (gne hg BK623) (gnf hg BK624) ?_; intro n0_ n1_ n2_ n3_ n4_ n5_ n6_ n7_ n8_ n9_ n10_ n11_;refine ev5 (gne hg BK624) (gnf hg BK625) (gne hg BK625) (gnf hg BK641) (gne hg BK641) ?_; intro n12_ n13_ n14_ n15_ n16_;clear HO628 BK623 BK624 BK625 BK641 HB;revert n0_ n1_ n2_ n3_ n4_ n5_ n6_ n7_ n8_ n9_ n10_ n11_ n12_ n13_ n14_ n15_ n16_;intro HO628 BK623 BK624 BK625 BK641 HB BK640 GW640 GE640 NB623_640 NB640_623 NB624_640 NB640_624 NB625_640 NB640_625 NB641_640 NB640_641;clear hb hbox hg;refine hK.out _ _ ⟨(blk_cell BK623.out 0).trans rfl, (blk_cell BK623.out 1).trans rfl, (blk_cell BK623.out 2).trans rfl⟩ (fun hHeld => ?_);clear hK K;refine norm_ (a' := ?_) ?_ ?_;rotate_left
         ·show Act.put _ (some 6) _ = _
          simp only [Act.put, za_, zb_, zc_, i64_w, i32_w];rfl
         exact norm_ (by first | (simp only [putAll, Act.put, za_, zb_, zc_]; done) | (simp only [putAll, Act.put, za_, zb_, zc_]; rfl)) (hJ2_9_10 (.slice Ao12 t626.length co12, gb640, gb641) _ ⟨hHeld, (Kd.R_mv HO628.out), (km_ BK623), (km_ BK624), (km_ BK625), (km_ BK640), (km_ BK641), GW640.out, GE640.out, NB623_640.out, NB640_623.out, NB624_640.out, NB640_624.out, NB625_640.out, NB640_625.out, NB641_640.out, NB640_641.out, GW641.out, GE641.out, NB623_641.out, NB641_623.out, NB624_641.out, NB641_624.out, NB625_641.out, NB641_625.out, (bm HB)⟩)
      ·skip
       rintro ⟨v627, gb640⟩ w11 ⟨hS_, h0_, h1_, h2_, h3_, h4_, h5_, h6_, h7_, h8_, h9_, h10_, h11_, h12_, h13_⟩;have n0_ : Aside0 (Kd.R (Kd.int .i64) 3 w11 w.heap.size (fun _ => True) v627 t626) := ⟨h0_⟩
       have n1_ : Aside0 (w11.heap[gb623]? = some (.cells #[.int .i64 a0_0, .int .i64 a0_1, .slice A0_2 l0_2.length c0_2] 48 (0, 0))) := ⟨h1_⟩
       have n2_ : Aside0 (w11.heap[gb624]? = some (.cells #[.int .i64 0, .int .i64 0, .int .i64 0] 90 (0, 0))) := ⟨h2_⟩
       have n3_ : Aside0 (w11.heap[gb625]? = some (.cells #[.int .i64 0, .int .i64 0, .slice none 0 0] 48 (0, 0))) := ⟨h3_⟩
       have n4_ : Aside0 (w11.heap[gb640]? = some (.cells #[.int .i64 0, .int .i64 0, .int .i64 0] 90 (0, 0))) := ⟨h4_⟩
       have n5_ : Aside0 (w.heap.size ≤ gb640) := ⟨h5_⟩
       have n6_ : Aside0 (w.heap.size ≤ gb640) := ⟨h6_⟩
       have n7_ : Aside0 (gb623 ≠ gb640) := ⟨h7_⟩
       have n8_ : Aside0 (gb640 ≠ gb623) := ⟨h8_⟩
       have n9_ : Aside0 (gb624 ≠ gb640) := ⟨h9_⟩
       have n10_ : Aside0 (gb640 ≠ gb624) := ⟨h10_⟩
       have n11_ : Aside0 (gb625 ≠ gb640) := ⟨h11_⟩
       have n12_ : Aside0 (gb640 ≠ gb625) := ⟨h12_⟩
       have n13_ : Aside0 (Below w.heap.size w w11) := ⟨h13_⟩
       clear BK623;clear BK624;clear BK625;clear HB;clear h0_ h1_ h2_ h3_ h4_ h5_ h6_ h7_ h8_ h9_ h10_ h11_ h12_ h13_;have HO628 := n0_;have BK623 := n1_;have BK624 := n2_;have BK625 := n3_;have BK640 := n4_;have GW640 := n5_;have GE640 := n6_;have NB623_640 := n7_;have NB640_623 := n8_;have NB624_640 := n9_;have NB640_624 := n10_;have NB625_640 := n11_;have NB640_625 := n12_;have HB := n13_;clear n0_ n1_ n2_ n3_ n4_ n5_ n6_ n7_ n8_ n9_ n10_ n11_ n12_ n13_;have hHeld : w11.cell? ⟨gb623, 0, none⟩ = some (.int .i64 a0_0) ∧ w11.cell? ⟨gb623, 1, none⟩ = some (.int .i64 a0_1) ∧ w11.cell? ⟨gb623, 2, none⟩ = some (.slice A0_2 l0_2.length c0_2) := hS_;obtain ⟨Ao12, co12, eo12⟩ := Kd.R_slice HO628.out;(first | subst eo12 | (injection eo12 with f1_ f2_ f3_; have f4_ := f1_.symm; have f5_ := f3_.symm; clear f1_ f2_ f3_; subst f4_; subst f5_))
       refine norm_ (a' := ?_) ?_ ?_;rotate_left
       ·simp only [putAll, Act.put, za_, zb_, zc_]
        rfl
       refine two_ (i := 4) (j := 10) (Ni := some 14) (Nj := some 7) #[true, true, true, true, true, false, false, false, false, true, false, false, false, false] #[true, true, true, true, false, false, false, false, false, true, true, false, false, false] rfl rfl rfl rfl (two_of HT_.out (by kernel_rfl)) (by decide) (by decide) (fun K hK => ?_) (fun K hK => ?_)
       ·skip
        refine goes_ Try.func112 (by kernel_rfl) rfl #[.agg #[.int .i64 a0_0, .int .i64 a0_1, .slice A0_2 l0_2.length c0_2], .slice Ao12 t626.length co12, .int .i64 a1] (by rfl) rfl rfl (by (try simp only [ma_, mb_, mc_]); first | done | rfl | (simp only [List.length_drop, List.length_take]; rfl)) ?_;with_reducible refine (spec_flGo.calls k a0_0 a0_1 _ _ l0_2 _ _ t626 a1 t629 t630 t631 t632 t633 t634 t637 _ ?side1 ?side2 ?side3 ?side4 A4.out).mono ?_
        (case side1 => exact Kd.C_mv (Kd.C_below HR0_2.out HB.out))
        (case side2 => exact HC0_2.out)
        (case side3 => exact Kd.C_mv (Kd.R_reads' HO628.out).2.2)
        (case side4 => exact (Kd.R_reads' HO628.out).2.1)
        rintro e w13 ⟨v635, v638, rfl, ho0, ho1, hb⟩;refine ⟨_, rfl, ?_⟩;refine ev8 (Kd.R_below (Kd.R_mv HO628.out) hb) (Kd.R_lower ho0 (below_size (bm HB))) (Kd.S_lower (Kd.S_new' ho1 (Kd.R_lt (Kd.R_mv HO628.out))) (below_size (bm HB))) (kb BK623 hb) (kb BK624 hb) (kb BK625 hb) (kb BK640 hb) (bs HB hb) ?_;clear HO628 BK623 BK624 BK625 BK640 HB;intro HO628 HO636 HO639 BK623 BK624 BK625 BK640 HB;(try clear hb);(try clear hb2);(try clear hk);(try clear hi);(try clear ho0);(try clear ho1);refine hK.out _ _ ⟨(blk_cell BK623.out 0).trans rfl, (blk_cell BK623.out 1).trans rfl, (blk_cell BK623.out 2).trans rfl⟩ (fun hHeld => ?_);clear hK K;refine norm_ (a' := ?_) ?_ ?_;rotate_left
        ·show Act.put _ (some 14) _ = _
         simp only [Act.put, za_, zb_, zc_, i64_w, i32_w];rfl
        refine pure_ (i := 5) (N := some 9) (v := ?_) (a' := ?_) #[true, true, true, true, true, true, false, false, false, true, false, false, false, false] rfl rfl (any_of HT_.out (by kernel_rfl)) (fun _ _ _ h => h) (Or.inl ⟨by rfl, ?_⟩) ?_ ?_;rotate_left
        ·intro w'
         go_simp;with_reducible rfl
        rotate_left
        ·simp only [Act.put, za_, zb_, zc_, i64_w, i32_w]
         rfl
        refine pure_ (i := 6) (N := some 15) (v := ?_) (a' := ?_) #[true, true, true, true, true, true, true, false, false, true, false, false, false, false] rfl rfl (any_of HT_.out (by kernel_rfl)) (fun _ _ _ h => h) (Or.inl ⟨by rfl, ?_⟩) ?_ ?_;rotate_left
        ·intro w'
         go_simp;with_reducible rfl
        rotate_left
        ·simp only [Act.put, za_, zb_, zc_, i64_w, i32_w]
         rfl
        refine pure_ (i := 7) (N := some 16) (v := ?_) (a' := ?_) #[true, true, true, true, true, true, true, true, false, true, false, false, false, false] rfl rfl (any_of HT_.out (by kernel_rfl)) (fun _ _ _ h => h) (Or.inl ⟨by rfl, ?_⟩) ?_ ?_;rotate_left
        ·intro w'
         go_simp;with_reducible rfl
        rotate_left
        ·simp only [Act.put, za_, zb_, zc_, i64_w, i32_w]
         rfl
        refine pure_ (i := 8) (N := some 17) (v := ?_) (a' := ?_) #[true, true, true, true, true, true, true, true, true, true, false, false, false, false] rfl rfl (any_of HT_.out (by kernel_rfl)) (fun _ _ _ h => h) (Or.inl ⟨by rfl, ?_⟩) ?_ ?_;rotate_left
        ·intro w'
         go_simp;with_reducible rfl
        rotate_left
        ·simp only [Act.put, za_, zb_, zc_, i64_w, i32_w]
         rfl
        exact norm_ (by first | (simp only [putAll, Act.put, za_, zb_, zc_]; done) | (simp only [putAll, Act.put, za_, zb_, zc_]; rfl)) (hJ2_4_9 (.slice Ao12 t626.length co12, v635, v638, gb640) _ ⟨hHeld, (Kd.R_mv HO628.out), (Kd.R_mv HO636.out), (Kd.S_mv (Kd.S_mono HO639.out (fun _ hk => hk.2))), (km_ BK623), (km_ BK624), (km_ BK625), (km_ BK640), GW640.out, GE640.out, NB623_640.out, NB640_623.out, NB624_640.out, NB640_624.out, NB625_640.out, NB640_625.out, (bm HB)⟩)
       ·skip
        refine box_step ?hg (N := 7) ?hd (cs := #[.int .i64 0, .int .i64 0, .slice none 0 0]) (t := 48) ?hr ?_; (case hd => rfl); (case hg => rfl); (case hr => first | (go_simp; done) | (go_simp; rfl));intro gb641 hg w12 hbox hb;refine ev12 (Kd.R_below (Kd.R_mv HO628.out) hb) (kb BK623 hb) (kb BK624 hb) (kb BK625 hb) (kb BK640 hb) (bs HB hb) (hbox) (gle hg HB) (gle hg HB) (gnf hg BK623) (gne hg BK623) (gnf hg BK624) ?_; intro n0_ n1_ n2_ n3_ n4_ n5_ n6_ n7_ n8_ n9_ n10_ n11_;refine ev5 (gne hg BK624) (gnf hg BK625) (gne hg BK625) (gnf hg BK640) (gne hg BK640) ?_; intro n12_ n13_ n14_ n15_ n16_;clear HO628 BK623 BK624 BK625 BK640 HB;revert n0_ n1_ n2_ n3_ n4_ n5_ n6_ n7_ n8_ n9_ n10_ n11_ n12_ n13_ n14_ n15_ n16_;intro HO628 BK623 BK624 BK625 BK640 HB BK641 GW641 GE641 NB623_641 NB641_623 NB624_641 NB641_624 NB625_641 NB641_625 NB640_641 NB641_640;clear hb hbox hg;refine hK.out _ _ ⟨(blk_cell BK623.out 0).trans rfl, (blk_cell BK623.out 1).trans rfl, (blk_cell BK623.out 2).trans rfl⟩ (fun hHeld => ?_);clear hK K;refine norm_ (a' := ?_) ?_ ?_;rotate_left
        ·show Act.put _ (some 7) _ = _
         simp only [Act.put, za_, zb_, zc_, i64_w, i32_w];rfl
        exact norm_ (by first | (simp only [putAll, Act.put, za_, zb_, zc_]; done) | (simp only [putAll, Act.put, za_, zb_, zc_]; rfl)) (hJ2_9_10 (.slice Ao12 t626.length co12, gb640, gb641) _ ⟨hHeld, (Kd.R_mv HO628.out), (km_ BK623), (km_ BK624), (km_ BK625), (km_ BK640), (km_ BK641), GW640.out, GE640.out, NB623_640.out, NB640_623.out, NB624_640.out, NB640_624.out, NB625_640.out, NB640_625.out, NB641_640.out, NB640_641.out, GW641.out, GE641.out, NB623_641.out, NB641_623.out, NB624_641.out, NB641_624.out, NB625_641.out, NB641_625.out, (bm HB)⟩)
     ·skip
      rintro ⟨v627, v635, v638⟩ w12 ⟨hS_, h0_, h1_, h2_, h3_, h4_, h5_, h6_⟩;have n0_ : Aside0 (Kd.R (Kd.int .i64) 3 w12 w.heap.size (fun _ => True) v627 t626) := ⟨h0_⟩
      have n1_ : Aside0 (Kd.R k78 78 w12 w.heap.size (fun _ => True) v635 t634) := ⟨h1_⟩
      have n2_ : Aside0 (Kd.S (Kd.slice 3 (Kd.int .i64)) 22 w12 w.heap.size (fun k_ => some k_ ≠ (v627 : Value).ownBlock) v638 t637) := ⟨h2_⟩
      have n3_ : Aside0 (w12.heap[gb623]? = some (.cells #[.int .i64 a0_0, .int .i64 a0_1, .slice A0_2 l0_2.length c0_2] 48 (0, 0))) := ⟨h3_⟩
      have n4_ : Aside0 (w12.heap[gb624]? = some (.cells #[.int .i64 0, .int .i64 0, .int .i64 0] 90 (0, 0))) := ⟨h4_⟩
      have n5_ : Aside0 (w12.heap[gb625]? = some (.cells #[.int .i64 0, .int .i64 0, .slice none 0 0] 48 (0, 0))) := ⟨h5_⟩
      have n6_ : Aside0 (Below w.heap.size w w12) := ⟨h6_⟩
      clear BK623;clear BK624;clear BK625;clear HB;clear h0_ h1_ h2_ h3_ h4_ h5_ h6_;have HO628 := n0_;have HO636 := n1_;have HO639 := n2_;have BK623 := n3_;have BK624 := n4_;have BK625 := n5_;have HB := n6_;clear n0_ n1_ n2_ n3_ n4_ n5_ n6_;have hHeld : w12.cell? ⟨gb623, 0, none⟩ = some (.int .i64 a0_0) ∧ w12.cell? ⟨gb623, 1, none⟩ = some (.int .i64 a0_1) ∧ w12.cell? ⟨gb623, 2, none⟩ = some (.slice A0_2 l0_2.length c0_2) := hS_;refine norm_ (a' := ?_) ?_ ?_;rotate_left
      ·simp only [putAll, Act.put, za_, zb_, zc_]
       rfl
      refine two_ (i := 9) (j := 10) (Ni := some 6) (Nj := some 7) #[true, true, true, true, true, true, true, true, true, true, false, false, false, false] #[true, true, true, true, true, true, true, true, true, false, true, false, false, false] rfl rfl rfl rfl (two_of HT_.out (by kernel_rfl)) (by decide) (by decide) (fun K hK => ?_) (fun K hK => ?_)
      ·skip
       refine box_step ?hg (N := 6) ?hd (cs := #[.int .i64 0, .int .i64 0, .int .i64 0]) (t := 90) ?hr ?_; (case hd => rfl); (case hg => rfl); (case hr => first | (go_simp; done) | (go_simp; rfl));intro gb640 hg w13 hbox hb;refine ev12 (Kd.R_below (Kd.R_mv HO628.out) hb) (Kd.R_below (Kd.R_mv HO636.out) hb) (Kd.S_below (Kd.S_mv HO639.out) hb) (kb BK623 hb) (kb BK624 hb) (kb BK625 hb) (bs HB hb) (hbox) (gle hg HB) (gle hg HB) (gnf hg BK623) (gne hg BK623) ?_; intro n0_ n1_ n2_ n3_ n4_ n5_ n6_ n7_ n8_ n9_ n10_ n11_;refine ev4 (gnf hg BK624) (gne hg BK624) (gnf hg BK625) (gne hg BK625) ?_; intro n12_ n13_ n14_ n15_;clear HO628 HO636 HO639 BK623 BK624 BK625 HB;revert n0_ n1_ n2_ n3_ n4_ n5_ n6_ n7_ n8_ n9_ n10_ n11_ n12_ n13_ n14_ n15_;intro HO628 HO636 HO639 BK623 BK624 BK625 HB BK640 GW640 GE640 NB623_640 NB640_623 NB624_640 NB640_624 NB625_640 NB640_625;clear hb hbox hg;refine hK.out _ _ ⟨(blk_cell BK623.out 0).trans rfl, (blk_cell BK623.out 1).trans rfl, (blk_cell BK623.out 2).trans rfl⟩ (fun hHeld => ?_);clear hK K;refine norm_ (a' := ?_) ?_ ?_;rotate_left
       ·show Act.put _ (some 6) _ = _
        simp only [Act.put, za_, zb_, zc_, i64_w, i32_w];rfl
       exact norm_ (by first | (simp only [putAll, Act.put, za_, zb_, zc_]; done) | (simp only [putAll, Act.put, za_, zb_, zc_]; rfl)) (hJ2_4_9 (v627, v635, v638, gb640) _ ⟨hHeld, (Kd.R_mv HO628.out), (Kd.R_mv HO636.out), (Kd.S_mv HO639.out), (km_ BK623), (km_ BK624), (km_ BK625), (km_ BK640), GW640.out, GE640.out, NB623_640.out, NB640_623.out, NB624_640.out, NB640_624.out, NB625_640.out, NB640_625.out, (bm HB)⟩)
      ·skip
       refine box_step ?hg (N := 7) ?hd (cs := #[.int .i64 0, .int .i64 0, .slice none 0 0]) (t := 48) ?hr ?_; (case hd => rfl); (case hg => rfl); (case hr => first | (go_simp; done) | (go_simp; rfl));intro gb641 hg w13 hbox hb;refine ev12 (Kd.R_below (Kd.R_mv HO628.out) hb) (Kd.R_below (Kd.R_mv HO636.out) hb) (Kd.S_below (Kd.S_mv HO639.out) hb) (kb BK623 hb) (kb BK624 hb) (kb BK625 hb) (bs HB hb) (hbox) (gle hg HB) (gle hg HB) (gnf hg BK623) (gne hg BK623) ?_; intro n0_ n1_ n2_ n3_ n4_ n5_ n6_ n7_ n8_ n9_ n10_ n11_;refine ev4 (gnf hg BK624) (gne hg BK624) (gnf hg BK625) (gne hg BK625) ?_; intro n12_ n13_ n14_ n15_;clear HO628 HO636 HO639 BK623 BK624 BK625 HB;revert n0_ n1_ n2_ n3_ n4_ n5_ n6_ n7_ n8_ n9_ n10_ n11_ n12_ n13_ n14_ n15_;intro HO628 HO636 HO639 BK623 BK624 BK625 HB BK641 GW641 GE641 NB623_641 NB641_623 NB624_641 NB641_624 NB625_641 NB641_625;clear hb hbox hg;refine hK.out _ _ ⟨(blk_cell BK623.out 0).trans rfl, (blk_cell BK623.out 1).trans rfl, (blk_cell BK623.out 2).trans rfl⟩ (fun hHeld => ?_);clear hK K;refine norm_ (a' := ?_) ?_ ?_;rotate_left
       ·show Act.put _ (some 7) _ = _
        simp only [Act.put, za_, zb_, zc_, i64_w, i32_w];rfl
       exact norm_ (by first | (simp only [putAll, Act.put, za_, zb_, zc_]; done) | (simp only [putAll, Act.put, za_, zb_, zc_]; rfl)) (hJ2_4_10 (v627, v635, v638, gb641) _ ⟨hHeld, (Kd.R_mv HO628.out), (Kd.R_mv HO636.out), (Kd.S_mv HO639.out), (km_ BK623), (km_ BK624), (km_ BK625), (km_ BK641), GW641.out, GE641.out, NB623_641.out, NB641_623.out, NB624_641.out, NB641_624.out, NB625_641.out, NB641_625.out, (bm HB)⟩)
    ·skip
     rintro ⟨v627, gb640, gb641⟩ w12 ⟨hS_, h0_, h1_, h2_, h3_, h4_, h5_, h6_, h7_, h8_, h9_, h10_, h11_, h12_, h13_, h14_, h15_, h16_, h17_, h18_, h19_, h20_, h21_, h22_, h23_, h24_⟩;have n0_ : Aside0 (Kd.R (Kd.int .i64) 3 w12 w.heap.size (fun _ => True) v627 t626) := ⟨h0_⟩
     have n1_ : Aside0 (w12.heap[gb623]? = some (.cells #[.int .i64 a0_0, .int .i64 a0_1, .slice A0_2 l0_2.length c0_2] 48 (0, 0))) := ⟨h1_⟩
     have n2_ : Aside0 (w12.heap[gb624]? = some (.cells #[.int .i64 0, .int .i64 0, .int .i64 0] 90 (0, 0))) := ⟨h2_⟩
     have n3_ : Aside0 (w12.heap[gb625]? = some (.cells #[.int .i64 0, .int .i64 0, .slice none 0 0] 48 (0, 0))) := ⟨h3_⟩
     have n4_ : Aside0 (w12.heap[gb640]? = some (.cells #[.int .i64 0, .int .i64 0, .int .i64 0] 90 (0, 0))) := ⟨h4_⟩
     have n5_ : Aside0 (w12.heap[gb641]? = some (.cells #[.int .i64 0, .int .i64 0, .slice none 0 0] 48 (0, 0))) := ⟨h5_⟩
     have n6_ : Aside0 (w.heap.size ≤ gb640) := ⟨h6_⟩
     have n7_ : Aside0 (w.heap.size ≤ gb640) := ⟨h7_⟩
     have n8_ : Aside0 (gb623 ≠ gb640) := ⟨h8_⟩
     have n9_ : Aside0 (gb640 ≠ gb623) := ⟨h9_⟩
     have n10_ : Aside0 (gb624 ≠ gb640) := ⟨h10_⟩
     have n11_ : Aside0 (gb640 ≠ gb624) := ⟨h11_⟩
     have n12_ : Aside0 (gb625 ≠ gb640) := ⟨h12_⟩
     have n13_ : Aside0 (gb640 ≠ gb625) := ⟨h13_⟩
     have n14_ : Aside0 (gb641 ≠ gb640) := ⟨h14_⟩
     have n15_ : Aside0 (gb640 ≠ gb641) := ⟨h15_⟩
     have n16_ : Aside0 (w.heap.size ≤ gb641) := ⟨h16_⟩
     have n17_ : Aside0 (w.heap.size ≤ gb641) := ⟨h17_⟩
     have n18_ : Aside0 (gb623 ≠ gb641) := ⟨h18_⟩
     have n19_ : Aside0 (gb641 ≠ gb623) := ⟨h19_⟩
     have n20_ : Aside0 (gb624 ≠ gb641) := ⟨h20_⟩
     have n21_ : Aside0 (gb641 ≠ gb624) := ⟨h21_⟩
     have n22_ : Aside0 (gb625 ≠ gb641) := ⟨h22_⟩
     have n23_ : Aside0 (gb641 ≠ gb625) := ⟨h23_⟩
     have n24_ : Aside0 (Below w.heap.size w w12) := ⟨h24_⟩
     clear BK623;clear BK624;clear BK625;clear HB;clear h0_ h1_ h2_ h3_ h4_ h5_ h6_ h7_ h8_ h9_ h10_ h11_ h12_ h13_ h14_ h15_ h16_ h17_ h18_ h19_ h20_ h21_ h22_ h23_ h24_;have HO628 := n0_;have BK623 := n1_;have BK624 := n2_;have BK625 := n3_;have BK640 := n4_;have BK641 := n5_;have GW640 := n6_;have GE640 := n7_;have NB623_640 := n8_;have NB640_623 := n9_;have NB624_640 := n10_;have NB640_624 := n11_;have NB625_640 := n12_;have NB640_625 := n13_;have NB641_640 := n14_;have NB640_641 := n15_;have GW641 := n16_;have GE641 := n17_;have NB623_641 := n18_;have NB641_623 := n19_;have NB624_641 := n20_;have NB641_624 := n21_;have NB625_641 := n22_;have NB641_625 := n23_;have HB := n24_;clear n0_ n1_ n2_ n3_ n4_ n5_ n6_ n7_ n8_ n9_ n10_ n11_ n12_ n13_ n14_ n15_ n16_ n17_ n18_ n19_ n20_ n21_ n22_ n23_ n24_;have hHeld : w12.cell? ⟨gb623, 0, none⟩ = some (.int .i64 a0_0) ∧ w12.cell? ⟨gb623, 1, none⟩ = some (.int .i64 a0_1) ∧ w12.cell? ⟨gb623, 2, none⟩ = some (.slice A0_2 l0_2.length c0_2) := hS_;obtain ⟨Ao13, co13, eo13⟩ := Kd.R_slice HO628.out;(first | subst eo13 | (injection eo13 with f1_ f2_ f3_; have f4_ := f1_.symm; have f5_ := f3_.symm; clear f1_ f2_ f3_; subst f4_; subst f5_))
     refine norm_ (a' := ?_) ?_ ?_;rotate_left
     ·simp only [putAll, Act.put, za_, zb_, zc_]
      rfl
     refine one_ (i := 4) (N := some 14) #[true, true, true, true, true, false, false, false, false, true, true, false, false, false] rfl rfl (one_of HT_.out (by kernel_rfl)) (by decide) (fun K hK => ?_);refine goes_ Try.func112 (by kernel_rfl) rfl #[.agg #[.int .i64 a0_0, .int .i64 a0_1, .slice A0_2 l0_2.length c0_2], .slice Ao13 t626.length co13, .int .i64 a1] (by rfl) rfl rfl (by (try simp only [ma_, mb_, mc_]); first | done | rfl | (simp only [List.length_drop, List.length_take]; rfl)) ?_;with_reducible refine (spec_flGo.calls k a0_0 a0_1 _ _ l0_2 _ _ t626 a1 t629 t630 t631 t632 t633 t634 t637 _ ?side1 ?side2 ?side3 ?side4 A4.out).mono ?_
     (case side1 => exact Kd.C_mv (Kd.C_below HR0_2.out HB.out))
     (case side2 => exact HC0_2.out)
     (case side3 => exact Kd.C_mv (Kd.R_reads' HO628.out).2.2)
     (case side4 => exact (Kd.R_reads' HO628.out).2.1)
     rintro e w14 ⟨v635, v638, rfl, ho0, ho1, hb⟩;refine ⟨_, rfl, ?_⟩;refine ev9 (Kd.R_below (Kd.R_mv HO628.out) hb) (Kd.R_lower ho0 (below_size (bm HB))) (Kd.S_lower (Kd.S_new' ho1 (Kd.R_lt (Kd.R_mv HO628.out))) (below_size (bm HB))) (kb BK623 hb) (kb BK624 hb) (kb BK625 hb) (kb BK640 hb) (kb BK641 hb) (bs HB hb) ?_;clear HO628 BK623 BK624 BK625 BK640 BK641 HB;intro HO628 HO636 HO639 BK623 BK624 BK625 BK640 BK641 HB;(try clear hb);(try clear hb2);(try clear hk);(try clear hi);(try clear ho0);(try clear ho1);refine hK.out _ _ ⟨(blk_cell BK623.out 0).trans rfl, (blk_cell BK623.out 1).trans rfl, (blk_cell BK623.out 2).trans rfl⟩ (fun hHeld => ?_);clear hK K;refine norm_ (a' := ?_) ?_ ?_;rotate_left
     ·show Act.put _ (some 14) _ = _
      simp only [Act.put, za_, zb_, zc_, i64_w, i32_w];rfl
     refine pure_ (i := 5) (N := some 9) (v := ?_) (a' := ?_) #[true, true, true, true, true, true, false, false, false, true, true, false, false, false] rfl rfl (any_of HT_.out (by kernel_rfl)) (fun _ _ _ h => h) (Or.inl ⟨by rfl, ?_⟩) ?_ ?_;rotate_left
     ·intro w'
      go_simp;with_reducible rfl
     rotate_left
     ·simp only [Act.put, za_, zb_, zc_, i64_w, i32_w]
      rfl
     refine pure_ (i := 6) (N := some 15) (v := ?_) (a' := ?_) #[true, true, true, true, true, true, true, false, false, true, true, false, false, false] rfl rfl (any_of HT_.out (by kernel_rfl)) (fun _ _ _ h => h) (Or.inl ⟨by rfl, ?_⟩) ?_ ?_;rotate_left
     ·intro w'
      go_simp;with_reducible rfl
     rotate_left
     ·simp only [Act.put, za_, zb_, zc_, i64_w, i32_w]
      rfl
     refine pure_ (i := 7) (N := some 16) (v := ?_) (a' := ?_) #[true, true, true, true, true, true, true, true, false, true, true, false, false, false] rfl rfl (any_of HT_.out (by kernel_rfl)) (fun _ _ _ h => h) (Or.inl ⟨by rfl, ?_⟩) ?_ ?_;rotate_left
     ·intro w'
      go_simp;with_reducible rfl
     rotate_left
     ·simp only [Act.put, za_, zb_, zc_, i64_w, i32_w]
      rfl
     refine pure_ (i := 8) (N := some 17) (v := ?_) (a' := ?_) #[true, true, true, true, true, true, true, true, true, true, true, false, false, false] rfl rfl (any_of HT_.out (by kernel_rfl)) (fun _ _ _ h => h) (Or.inl ⟨by rfl, ?_⟩) ?_ ?_;rotate_left
     ·intro w'
      go_simp;with_reducible rfl
     rotate_left
     ·simp only [Act.put, za_, zb_, zc_, i64_w, i32_w]
      rfl
     exact norm_ (by first | (simp only [putAll, Act.put, za_, zb_, zc_]; done) | (simp only [putAll, Act.put, za_, zb_, zc_]; rfl)) (hJ2_4_9_10 (.slice Ao13 t626.length co13, v635, v638, gb640, gb641) _ ⟨hHeld, (Kd.R_mv HO628.out), (Kd.R_mv HO636.out), (Kd.S_mv (Kd.S_mono HO639.out (fun _ hk => hk.2))), (km_ BK623), (km_ BK624), (km_ BK625), (km_ BK640), (km_ BK641), GW640.out, GE640.out, NB623_640.out, NB640_623.out, NB624_640.out, NB640_624.out, NB625_640.out, NB640_625.out, NB641_640.out, NB640_641.out, GW641.out, GE641.out, NB623_641.out, NB641_623.out, NB624_641.out, NB641_624.out, NB625_641.out, NB641_625.out, (bm HB)⟩)
   ·skip
    rintro ⟨v627, v635, v638, gb641⟩ w13 ⟨hS_, h0_, h1_, h2_, h3_, h4_, h5_, h6_, h7_, h8_, h9_, h10_, h11_, h12_, h13_, h14_, h15_⟩;have n0_ : Aside0 (Kd.R (Kd.int .i64) 3 w13 w.heap.size (fun _ => True) v627 t626) := ⟨h0_⟩
    have n1_ : Aside0 (Kd.R k78 78 w13 w.heap.size (fun _ => True) v635 t634) := ⟨h1_⟩
    have n2_ : Aside0 (Kd.S (Kd.slice 3 (Kd.int .i64)) 22 w13 w.heap.size (fun k_ => some k_ ≠ (v627 : Value).ownBlock) v638 t637) := ⟨h2_⟩
    have n3_ : Aside0 (w13.heap[gb623]? = some (.cells #[.int .i64 a0_0, .int .i64 a0_1, .slice A0_2 l0_2.length c0_2] 48 (0, 0))) := ⟨h3_⟩
    have n4_ : Aside0 (w13.heap[gb624]? = some (.cells #[.int .i64 0, .int .i64 0, .int .i64 0] 90 (0, 0))) := ⟨h4_⟩
    have n5_ : Aside0 (w13.heap[gb625]? = some (.cells #[.int .i64 0, .int .i64 0, .slice none 0 0] 48 (0, 0))) := ⟨h5_⟩
    have n6_ : Aside0 (w13.heap[gb641]? = some (.cells #[.int .i64 0, .int .i64 0, .slice none 0 0] 48 (0, 0))) := ⟨h6_⟩
    have n7_ : Aside0 (w.heap.size ≤ gb641) := ⟨h7_⟩
    have n8_ : Aside0 (w.heap.size ≤ gb641) := ⟨h8_⟩
    have n9_ : Aside0 (gb623 ≠ gb641) := ⟨h9_⟩
    have n10_ : Aside0 (gb641 ≠ gb623) := ⟨h10_⟩
    have n11_ : Aside0 (gb624 ≠ gb641) := ⟨h11_⟩
    have n12_ : Aside0 (gb641 ≠ gb624) := ⟨h12_⟩
    have n13_ : Aside0 (gb625 ≠ gb641) := ⟨h13_⟩
    have n14_ : Aside0 (gb641 ≠ gb625) := ⟨h14_⟩
    have n15_ : Aside0 (Below w.heap.size w w13) := ⟨h15_⟩
    clear BK623;clear BK624;clear BK625;clear HB;clear h0_ h1_ h2_ h3_ h4_ h5_ h6_ h7_ h8_ h9_ h10_ h11_ h12_ h13_ h14_ h15_;have HO628 := n0_;have HO636 := n1_;have HO639 := n2_;have BK623 := n3_;have BK624 := n4_;have BK625 := n5_;have BK641 := n6_;have GW641 := n7_;have GE641 := n8_;have NB623_641 := n9_;have NB641_623 := n10_;have NB624_641 := n11_;have NB641_624 := n12_;have NB625_641 := n13_;have NB641_625 := n14_;have HB := n15_;clear n0_ n1_ n2_ n3_ n4_ n5_ n6_ n7_ n8_ n9_ n10_ n11_ n12_ n13_ n14_ n15_;have hHeld : w13.cell? ⟨gb623, 0, none⟩ = some (.int .i64 a0_0) ∧ w13.cell? ⟨gb623, 1, none⟩ = some (.int .i64 a0_1) ∧ w13.cell? ⟨gb623, 2, none⟩ = some (.slice A0_2 l0_2.length c0_2) := hS_;refine norm_ (a' := ?_) ?_ ?_;rotate_left
    ·simp only [putAll, Act.put, za_, zb_, zc_]
     rfl
    refine one_ (i := 9) (N := some 6) #[true, true, true, true, true, true, true, true, true, true, true, false, false, false] rfl rfl (one_of HT_.out (by kernel_rfl)) (by decide) (fun K hK => ?_);refine box_step ?hg (N := 6) ?hd (cs := #[.int .i64 0, .int .i64 0, .int .i64 0]) (t := 90) ?hr ?_; (case hd => rfl); (case hg => rfl); (case hr => first | (go_simp; done) | (go_simp; rfl));intro gb640 hg w14 hbox hb;refine ev12 (Kd.R_below (Kd.R_mv HO628.out) hb) (Kd.R_below (Kd.R_mv HO636.out) hb) (Kd.S_below (Kd.S_mv HO639.out) hb) (kb BK623 hb) (kb BK624 hb) (kb BK625 hb) (kb BK641 hb) (bs HB hb) (hbox) (gle hg HB) (gle hg HB) (gnf hg BK623) ?_; intro n0_ n1_ n2_ n3_ n4_ n5_ n6_ n7_ n8_ n9_ n10_ n11_;refine ev7 (gne hg BK623) (gnf hg BK624) (gne hg BK624) (gnf hg BK625) (gne hg BK625) (gnf hg BK641) (gne hg BK641) ?_; intro n12_ n13_ n14_ n15_ n16_ n17_ n18_;clear HO628 HO636 HO639 BK623 BK624 BK625 BK641 HB;revert n0_ n1_ n2_ n3_ n4_ n5_ n6_ n7_ n8_ n9_ n10_ n11_ n12_ n13_ n14_ n15_ n16_ n17_ n18_;intro HO628 HO636 HO639 BK623 BK624 BK625 BK641 HB BK640 GW640 GE640 NB623_640 NB640_623 NB624_640 NB640_624 NB625_640 NB640_625 NB641_640 NB640_641;clear hb hbox hg;refine hK.out _ _ ⟨(blk_cell BK623.out 0).trans rfl, (blk_cell BK623.out 1).trans rfl, (blk_cell BK623.out 2).trans rfl⟩ (fun hHeld => ?_);clear hK K;refine norm_ (a' := ?_) ?_ ?_;rotate_left
    ·show Act.put _ (some 6) _ = _
     simp only [Act.put, za_, zb_, zc_, i64_w, i32_w];rfl
    exact norm_ (by first | (simp only [putAll, Act.put, za_, zb_, zc_]; done) | (simp only [putAll, Act.put, za_, zb_, zc_]; rfl)) (hJ2_4_9_10 (v627, v635, v638, gb640, gb641) _ ⟨hHeld, (Kd.R_mv HO628.out), (Kd.R_mv HO636.out), (Kd.S_mv HO639.out), (km_ BK623), (km_ BK624), (km_ BK625), (km_ BK640), (km_ BK641), GW640.out, GE640.out, NB623_640.out, NB640_623.out, NB624_640.out, NB640_624.out, NB625_640.out, NB640_625.out, NB641_640.out, NB640_641.out, GW641.out, GE641.out, NB623_641.out, NB641_623.out, NB624_641.out, NB641_624.out, NB625_641.out, NB641_625.out, (bm HB)⟩)
  ·skip
   rintro ⟨v627, v635, v638, gb640⟩ w13 ⟨hS_, h0_, h1_, h2_, h3_, h4_, h5_, h6_, h7_, h8_, h9_, h10_, h11_, h12_, h13_, h14_, h15_⟩;have n0_ : Aside0 (Kd.R (Kd.int .i64) 3 w13 w.heap.size (fun _ => True) v627 t626) := ⟨h0_⟩
   have n1_ : Aside0 (Kd.R k78 78 w13 w.heap.size (fun _ => True) v635 t634) := ⟨h1_⟩
   have n2_ : Aside0 (Kd.S (Kd.slice 3 (Kd.int .i64)) 22 w13 w.heap.size (fun k_ => some k_ ≠ (v627 : Value).ownBlock) v638 t637) := ⟨h2_⟩
   have n3_ : Aside0 (w13.heap[gb623]? = some (.cells #[.int .i64 a0_0, .int .i64 a0_1, .slice A0_2 l0_2.length c0_2] 48 (0, 0))) := ⟨h3_⟩
   have n4_ : Aside0 (w13.heap[gb624]? = some (.cells #[.int .i64 0, .int .i64 0, .int .i64 0] 90 (0, 0))) := ⟨h4_⟩
   have n5_ : Aside0 (w13.heap[gb625]? = some (.cells #[.int .i64 0, .int .i64 0, .slice none 0 0] 48 (0, 0))) := ⟨h5_⟩
   have n6_ : Aside0 (w13.heap[gb640]? = some (.cells #[.int .i64 0, .int .i64 0, .int .i64 0] 90 (0, 0))) := ⟨h6_⟩
   have n7_ : Aside0 (w.heap.size ≤ gb640) := ⟨h7_⟩
   have n8_ : Aside0 (w.heap.size ≤ gb640) := ⟨h8_⟩
   have n9_ : Aside0 (gb623 ≠ gb640) := ⟨h9_⟩
   have n10_ : Aside0 (gb640 ≠ gb623) := ⟨h10_⟩
   have n11_ : Aside0 (gb624 ≠ gb640) := ⟨h11_⟩
   have n12_ : Aside0 (gb640 ≠ gb624) := ⟨h12_⟩
   have n13_ : Aside0 (gb625 ≠ gb640) := ⟨h13_⟩
   have n14_ : Aside0 (gb640 ≠ gb625) := ⟨h14_⟩
   have n15_ : Aside0 (Below w.heap.size w w13) := ⟨h15_⟩
   clear BK623;clear BK624;clear BK625;clear HB;clear h0_ h1_ h2_ h3_ h4_ h5_ h6_ h7_ h8_ h9_ h10_ h11_ h12_ h13_ h14_ h15_;have HO628 := n0_;have HO636 := n1_;have HO639 := n2_;have BK623 := n3_;have BK624 := n4_;have BK625 := n5_;have BK640 := n6_;have GW640 := n7_;have GE640 := n8_;have NB623_640 := n9_;have NB640_623 := n10_;have NB624_640 := n11_;have NB640_624 := n12_;have NB625_640 := n13_;have NB640_625 := n14_;have HB := n15_;clear n0_ n1_ n2_ n3_ n4_ n5_ n6_ n7_ n8_ n9_ n10_ n11_ n12_ n13_ n14_ n15_;have hHeld : w13.cell? ⟨gb623, 0, none⟩ = some (.int .i64 a0_0) ∧ w13.cell? ⟨gb623, 1, none⟩ = some (.int .i64 a0_1) ∧ w13.cell? ⟨gb623, 2, none⟩ = some (.slice A0_2 l0_2.length c0_2) := hS_;refine norm_ (a' := ?_) ?_ ?_;rotate_left
   ·simp only [putAll, Act.put, za_, zb_, zc_]
    rfl
   refine one_ (i := 10) (N := some 7) #[true, true, true, true, true, true, true, true, true, true, true, false, false, false] rfl rfl (one_of HT_.out (by kernel_rfl)) (by decide) (fun K hK => ?_);refine box_step ?hg (N := 7) ?hd (cs := #[.int .i64 0, .int .i64 0, .slice none 0 0]) (t := 48) ?hr ?_; (case hd => rfl); (case hg => rfl); (case hr => first | (go_simp; done) | (go_simp; rfl));intro gb641 hg w14 hbox hb;refine ev12 (Kd.R_below (Kd.R_mv HO628.out) hb) (Kd.R_below (Kd.R_mv HO636.out) hb) (Kd.S_below (Kd.S_mv HO639.out) hb) (kb BK623 hb) (kb BK624 hb) (kb BK625 hb) (kb BK640 hb) (bs HB hb) (hbox) (gle hg HB) (gle hg HB) (gnf hg BK623) ?_; intro n0_ n1_ n2_ n3_ n4_ n5_ n6_ n7_ n8_ n9_ n10_ n11_;refine ev7 (gne hg BK623) (gnf hg BK624) (gne hg BK624) (gnf hg BK625) (gne hg BK625) (gnf hg BK640) (gne hg BK640) ?_; intro n12_ n13_ n14_ n15_ n16_ n17_ n18_;clear HO628 HO636 HO639 BK623 BK624 BK625 BK640 HB;revert n0_ n1_ n2_ n3_ n4_ n5_ n6_ n7_ n8_ n9_ n10_ n11_ n12_ n13_ n14_ n15_ n16_ n17_ n18_;intro HO628 HO636 HO639 BK623 BK624 BK625 BK640 HB BK641 GW641 GE641 NB623_641 NB641_623 NB624_641 NB641_624 NB625_641 NB641_625 NB640_641 NB641_640;clear hb hbox hg;refine hK.out _ _ ⟨(blk_cell BK623.out 0).trans rfl, (blk_cell BK623.out 1).trans rfl, (blk_cell BK623.out 2).trans rfl⟩ (fun hHeld => ?_);clear hK K;refine norm_ (a' := ?_) ?_ ?_;rotate_left
   ·show Act.put _ (some 7) _ = _
    simp only [Act.put, za_, zb_, zc_, i64_w, i32_w];rfl
   exact norm_ (by first | (simp only [putAll, Act.put, za_, zb_, zc_]; done) | (simp only [putAll, Act.put, za_, zb_, zc_]; rfl)) (hJ2_4_9_10 (v627, v635, v638, gb640, gb641) _ ⟨hHeld, (Kd.R_mv HO628.out), (Kd.R_mv HO636.out), (Kd.S_mv HO639.out), (km_ BK623), (km_ BK624), (km_ BK625), (km_ BK640), (km_ BK641), GW640.out, GE640.out, NB623_640.out, NB640_623.out, NB624_640.out, NB640_624.out, NB625_640.out, NB640_625.out, NB641_640.out, NB640_641.out, GW641.out, GE641.out, NB623_641.out, NB641_623.out, NB624_641.out, NB641_624.out, NB625_641.out, NB641_625.out, (bm HB)⟩)
 rintro ⟨v627, v635, v638, gb640, gb641⟩ w14 ⟨hS_, h0_, h1_, h2_, h3_, h4_, h5_, h6_, h7_, h8_, h9_, h10_, h11_, h12_, h13_, h14_, h15_, h16_, h17_, h18_, h19_, h20_, h21_, h22_, h23_, h24_, h25_, h26_⟩;have n0_ : Aside0 (Kd.R (Kd.int .i64) 3 w14 w.heap.size (fun _ => True) v627 t626) := ⟨h0_⟩
 have n1_ : Aside0 (Kd.R k78 78 w14 w.heap.size (fun _ => True) v635 t634) := ⟨h1_⟩
 have n2_ : Aside0 (Kd.S (Kd.slice 3 (Kd.int .i64)) 22 w14 w.heap.size (fun k_ => some k_ ≠ (v627 : Value).ownBlock) v638 t637) := ⟨h2_⟩
 have n3_ : Aside0 (w14.heap[gb623]? = some (.cells #[.int .i64 a0_0, .int .i64 a0_1, .slice A0_2 l0_2.length c0_2] 48 (0, 0))) := ⟨h3_⟩
 have n4_ : Aside0 (w14.heap[gb624]? = some (.cells #[.int .i64 0, .int .i64 0, .int .i64 0] 90 (0, 0))) := ⟨h4_⟩
 have n5_ : Aside0 (w14.heap[gb625]? = some (.cells #[.int .i64 0, .int .i64 0, .slice none 0 0] 48 (0, 0))) := ⟨h5_⟩
 have n6_ : Aside0 (w14.heap[gb640]? = some (.cells #[.int .i64 0, .int .i64 0, .int .i64 0] 90 (0, 0))) := ⟨h6_⟩
 have n7_ : Aside0 (w14.heap[gb641]? = some (.cells #[.int .i64 0, .int .i64 0, .slice none 0 0] 48 (0, 0))) := ⟨h7_⟩
 have n8_ : Aside0 (w.heap.size ≤ gb640) := ⟨h8_⟩
 have n9_ : Aside0 (w.heap.size ≤ gb640) := ⟨h9_⟩
 have n10_ : Aside0 (gb623 ≠ gb640) := ⟨h10_⟩
 have n11_ : Aside0 (gb640 ≠ gb623) := ⟨h11_⟩
 have n12_ : Aside0 (gb624 ≠ gb640) := ⟨h12_⟩
 have n13_ : Aside0 (gb640 ≠ gb624) := ⟨h13_⟩
 have n14_ : Aside0 (gb625 ≠ gb640) := ⟨h14_⟩
 have n15_ : Aside0 (gb640 ≠ gb625) := ⟨h15_⟩
 have n16_ : Aside0 (gb641 ≠ gb640) := ⟨h16_⟩
 have n17_ : Aside0 (gb640 ≠ gb641) := ⟨h17_⟩
 have n18_ : Aside0 (w.heap.size ≤ gb641) := ⟨h18_⟩
 have n19_ : Aside0 (w.heap.size ≤ gb641) := ⟨h19_⟩
 have n20_ : Aside0 (gb623 ≠ gb641) := ⟨h20_⟩
 have n21_ : Aside0 (gb641 ≠ gb623) := ⟨h21_⟩
 have n22_ : Aside0 (gb624 ≠ gb641) := ⟨h22_⟩
 have n23_ : Aside0 (gb641 ≠ gb624) := ⟨h23_⟩
 have n24_ : Aside0 (gb625 ≠ gb641) := ⟨h24_⟩
 have n25_ : Aside0 (gb641 ≠ gb625) := ⟨h25_⟩
 have n26_ : Aside0 (Below w.heap.size w w14) := ⟨h26_⟩
 clear BK623;clear BK624;clear BK625;clear HB;clear h0_ h1_ h2_ h3_ h4_ h5_ h6_ h7_ h8_ h9_ h10_ h11_ h12_ h13_ h14_ h15_ h16_ h17_ h18_ h19_ h20_ h21_ h22_ h23_ h24_ h25_ h26_;have HO628 := n0_;have HO636 := n1_;have HO639 := n2_;have BK623 := n3_;have BK624 := n4_;have BK625 := n5_;have BK640 := n6_;have BK641 := n7_;have GW640 := n8_;have GE640 := n9_;have NB623_640 := n10_;have NB640_623 := n11_;have NB624_640 := n12_;have NB640_624 := n13_;have NB625_640 := n14_;have NB640_625 := n15_;have NB641_640 := n16_;have NB640_641 := n17_;have GW641 := n18_;have GE641 := n19_;have NB623_641 := n20_;have NB641_623 := n21_;have NB624_641 := n22_;have NB641_624 := n23_;have NB625_641 := n24_;have NB641_625 := n25_;have HB := n26_;clear n0_ n1_ n2_ n3_ n4_ n5_ n6_ n7_ n8_ n9_ n10_ n11_ n12_ n13_ n14_ n15_ n16_ n17_ n18_ n19_ n20_ n21_ n22_ n23_ n24_ n25_ n26_;have hHeld : w14.cell? ⟨gb623, 0, none⟩ = some (.int .i64 a0_0) ∧ w14.cell? ⟨gb623, 1, none⟩ = some (.int .i64 a0_1) ∧ w14.cell? ⟨gb623, 2, none⟩ = some (.slice A0_2 l0_2.length c0_2) := hS_;obtain ⟨Ao20, co20, eo20⟩ := Kd.R_slice HO636.out;(first | subst eo20 | (injection eo20 with f1_ f2_ f3_; have f4_ := f1_.symm; have f5_ := f3_.symm; clear f1_ f2_ f3_; subst f4_; subst f5_))
 refine norm_ (a' := ?_) ?_ ?_;rotate_left
 ·simp only [putAll, Act.put, za_, zb_, zc_]
  rfl
 refine one_ (i := 11) (N := none) #[true, true, true, true, true, true, true, true, true, true, true, true, false, false] rfl rfl (one_of HT_.out (by kernel_rfl)) (by decide) (fun K hK => ?_);have hs15 : w14.cell? ⟨gb640, 0, none⟩ = some (.int .i64 0) := (blk_cell BK640.out 0).trans rfl;have hfs15 := blk_frozen BK640.out 0;have hns15_0 := NB623_640.out;have hns15_1 := NB624_640.out;have hns15_2 := NB625_640.out;have hns15_4 := NB641_640.out;have hms15_0 := NB640_623.out;have hms15_1 := NB640_624.out;have hms15_2 := NB640_625.out;have hms15_4 := NB640_641.out;have hs16 : w14.cell? ⟨gb640, 1, none⟩ = some (.int .i64 0) := (blk_cell BK640.out 1).trans rfl;have hfs16 := blk_frozen BK640.out 1;have hns16_0 := NB623_640.out;have hns16_1 := NB624_640.out;have hns16_2 := NB625_640.out;have hns16_4 := NB641_640.out;have hms16_0 := NB640_623.out;have hms16_1 := NB640_624.out;have hms16_2 := NB640_625.out;have hms16_4 := NB640_641.out;have hs17 : w14.cell? ⟨gb640, 2, none⟩ = some (.int .i64 0) := (blk_cell BK640.out 2).trans rfl;have hfs17 := blk_frozen BK640.out 2;have hns17_0 := NB623_640.out;have hns17_1 := NB624_640.out;have hns17_2 := NB625_640.out;have hns17_4 := NB641_640.out;have hms17_0 := NB640_623.out;have hms17_1 := NB640_624.out;have hms17_2 := NB640_625.out;have hms17_4 := NB640_641.out;refine skip_ (w1 := ?_) (by rfl) rfl ?_ ?_;rotate_left
 ·go_simp
  rfl
 refine hK.out _ _ ⟨((cell_far (p := ⟨gb640, _, none⟩) NB623_640.out _).trans (((cell_far (p := ⟨gb640, _, none⟩) NB623_640.out _).trans (((cell_far (p := ⟨gb640, _, none⟩) NB623_640.out _).trans (hHeld.1)))))), ((cell_far (p := ⟨gb640, _, none⟩) NB623_640.out _).trans (((cell_far (p := ⟨gb640, _, none⟩) NB623_640.out _).trans (((cell_far (p := ⟨gb640, _, none⟩) NB623_640.out _).trans (hHeld.2.1)))))), ((cell_far (p := ⟨gb640, _, none⟩) NB623_640.out _).trans (((cell_far (p := ⟨gb640, _, none⟩) NB623_640.out _).trans (((cell_far (p := ⟨gb640, _, none⟩) NB623_640.out _).trans (hHeld.2.2))))))⟩ (fun hHeld => ?_);clear hK K;refine one_ (i := 12) (N := none) #[true, true, true, true, true, true, true, true, true, true, true, true, true, false] rfl rfl (one_of HT_.out (by kernel_rfl)) (by decide) (fun K hK => ?_);have hs18 : w14.cell? ⟨gb641, 0, none⟩ = some (.int .i64 0) := (blk_cell BK641.out 0).trans rfl;have hfs18 := blk_frozen BK641.out 0;have hns18_0 := NB623_641.out;have hns18_1 := NB624_641.out;have hns18_2 := NB625_641.out;have hns18_3 := NB640_641.out;have hms18_0 := NB641_623.out;have hms18_1 := NB641_624.out;have hms18_2 := NB641_625.out;have hms18_3 := NB641_640.out;have hs19 : w14.cell? ⟨gb641, 1, none⟩ = some (.int .i64 0) := (blk_cell BK641.out 1).trans rfl;have hfs19 := blk_frozen BK641.out 1;have hns19_0 := NB623_641.out;have hns19_1 := NB624_641.out;have hns19_2 := NB625_641.out;have hns19_3 := NB640_641.out;have hms19_0 := NB641_623.out;have hms19_1 := NB641_624.out;have hms19_2 := NB641_625.out;have hms19_3 := NB641_640.out;have hs21 : w14.cell? ⟨gb641, 2, none⟩ = some (.slice none 0 0) := (blk_cell BK641.out 2).trans rfl;have hfs21 := blk_frozen BK641.out 2;have hns21_0 := NB623_641.out;have hns21_1 := NB624_641.out;have hns21_2 := NB625_641.out;have hns21_3 := NB640_641.out;have hms21_0 := NB641_623.out;have hms21_1 := NB641_624.out;have hms21_2 := NB641_625.out;have hms21_3 := NB641_640.out;refine skip_ (w1 := ?_) (by rfl) rfl ?_ ?_;rotate_left
 ·go_simp
  rfl
 refine hK.out _ _ ⟨((cell_far (p := ⟨gb641, _, none⟩) NB623_641.out _).trans (((cell_far (p := ⟨gb641, _, none⟩) NB623_641.out _).trans (((cell_far (p := ⟨gb641, _, none⟩) NB623_641.out _).trans (hHeld.1)))))), ((cell_far (p := ⟨gb641, _, none⟩) NB623_641.out _).trans (((cell_far (p := ⟨gb641, _, none⟩) NB623_641.out _).trans (((cell_far (p := ⟨gb641, _, none⟩) NB623_641.out _).trans (hHeld.2.1)))))), ((cell_far (p := ⟨gb641, _, none⟩) NB623_641.out _).trans (((cell_far (p := ⟨gb641, _, none⟩) NB623_641.out _).trans (((cell_far (p := ⟨gb641, _, none⟩) NB623_641.out _).trans (hHeld.2.2))))))⟩ (fun hHeld => ?_);clear hK K;refine pure_ (i := 13) (N := some 8) (v := ?_) (a' := ?_) #[true, true, true, true, true, true, true, true, true, true, true, true, true, true] rfl rfl (any_of HT_.out (by kernel_rfl)) (fun _ _ _ h => h) (Or.inl ⟨by rfl, ?_⟩) ?_ ?_;rotate_left
 ·intro w'
  go_simp;with_reducible rfl
 rotate_left
 ·simp only [Act.put, za_, zb_, zc_, i64_w, i32_w]
  rfl
 refine done_ (done_of HT_.out (by kernel_rfl)) ?_;try go_wp2
 have n0_ : Aside0 (Kd.R (Kd.int .i64) 3 ((((((w14.setCell ⟨gb640, 0, none⟩ (.int .i64 t629)).setCell ⟨gb640, 1, none⟩ (.int .i64 t630)).setCell ⟨gb640, 2, none⟩ (.int .i64 t631)).setCell ⟨gb641, 0, none⟩ (.int .i64 t632)).setCell ⟨gb641, 1, none⟩ (.int .i64 t633)).setCell ⟨gb641, 2, none⟩ (.slice Ao20 t634.length co20)) w.heap.size (fun _ => True) v627 t626) := ⟨Kd.R_mv (Kd.R_mono (ok' := fun k_ => True) (Kd.R_far (p := ⟨gb641, 2, none⟩) (Kd.R_far (p := ⟨gb641, 1, none⟩) (Kd.R_far (p := ⟨gb641, 0, none⟩) (Kd.R_far (p := ⟨gb640, 2, none⟩) (Kd.R_far (p := ⟨gb640, 1, none⟩) (Kd.R_far (p := ⟨gb640, 0, none⟩) (Kd.R_types (Kd.R_types HO628.out BK640.out (by decide)) BK641.out (by decide)) (fun _ hk => hk.1.2) (.int .i64 t629)) (fun _ hk => hk.1.2) (.int .i64 t630)) (fun _ hk => hk.1.2) (.int .i64 t631)) (fun _ hk => hk.2) (.int .i64 t632)) (fun _ hk => hk.2) (.int .i64 t633)) (fun _ hk => hk.2) (.slice Ao20 t634.length co20)) (fun _ hk => trivial))⟩
 have n1_ : Aside0 (Kd.R k78 78 ((((((w14.setCell ⟨gb640, 0, none⟩ (.int .i64 t629)).setCell ⟨gb640, 1, none⟩ (.int .i64 t630)).setCell ⟨gb640, 2, none⟩ (.int .i64 t631)).setCell ⟨gb641, 0, none⟩ (.int .i64 t632)).setCell ⟨gb641, 1, none⟩ (.int .i64 t633)).setCell ⟨gb641, 2, none⟩ (.slice Ao20 t634.length co20)) w.heap.size (fun _ => True) (.slice Ao20 t634.length co20) t634) := ⟨Kd.R_mv (Kd.R_mono (ok' := fun k_ => True) (Kd.R_far (p := ⟨gb641, 2, none⟩) (Kd.R_far (p := ⟨gb641, 1, none⟩) (Kd.R_far (p := ⟨gb641, 0, none⟩) (Kd.R_far (p := ⟨gb640, 2, none⟩) (Kd.R_far (p := ⟨gb640, 1, none⟩) (Kd.R_far (p := ⟨gb640, 0, none⟩) (Kd.R_types (Kd.R_types HO636.out BK640.out (by decide)) BK641.out (by decide)) (fun _ hk => hk.1.2) (.int .i64 t629)) (fun _ hk => hk.1.2) (.int .i64 t630)) (fun _ hk => hk.1.2) (.int .i64 t631)) (fun _ hk => hk.2) (.int .i64 t632)) (fun _ hk => hk.2) (.int .i64 t633)) (fun _ hk => hk.2) (.slice Ao20 t634.length co20)) (fun _ hk => trivial))⟩
 have n2_ : Aside0 (Kd.S (Kd.slice 3 (Kd.int .i64)) 22 ((((((w14.setCell ⟨gb640, 0, none⟩ (.int .i64 t629)).setCell ⟨gb640, 1, none⟩ (.int .i64 t630)).setCell ⟨gb640, 2, none⟩ (.int .i64 t631)).setCell ⟨gb641, 0, none⟩ (.int .i64 t632)).setCell ⟨gb641, 1, none⟩ (.int .i64 t633)).setCell ⟨gb641, 2, none⟩ (.slice Ao20 t634.length co20)) w.heap.size (fun k_ => some k_ ≠ (v627 : Value).ownBlock) v638 t637) := ⟨Kd.S_mv (Kd.S_mono (Kd.S_far (p := ⟨gb641, 2, none⟩) (Kd.S_far (p := ⟨gb641, 1, none⟩) (Kd.S_far (p := ⟨gb641, 0, none⟩) (Kd.S_far (p := ⟨gb640, 2, none⟩) (Kd.S_far (p := ⟨gb640, 1, none⟩) (Kd.S_far (p := ⟨gb640, 0, none⟩) (Kd.S_types (Kd.S_types HO639.out BK640.out (by decide)) BK641.out (by decide)) (fun _ hk => hk.1.2) (.int .i64 t629)) (fun _ hk => hk.1.2) (.int .i64 t630)) (fun _ hk => hk.1.2) (.int .i64 t631)) (fun _ hk => hk.2) (.int .i64 t632)) (fun _ hk => hk.2) (.int .i64 t633)) (fun _ hk => hk.2) (.slice Ao20 t634.length co20)) (fun _ hk => hk.1.1))⟩
 have n3_ : Aside0 (((((((w14.setCell ⟨gb640, 0, none⟩ (.int .i64 t629)).setCell ⟨gb640, 1, none⟩ (.int .i64 t630)).setCell ⟨gb640, 2, none⟩ (.int .i64 t631)).setCell ⟨gb641, 0, none⟩ (.int .i64 t632)).setCell ⟨gb641, 1, none⟩ (.int .i64 t633)).setCell ⟨gb641, 2, none⟩ (.slice Ao20 t634.length co20)).heap[gb623]? = some (.cells #[.int .i64 a0_0, .int .i64 a0_1, .slice A0_2 l0_2.length c0_2] 48 (0, 0))) := ⟨fp BK623 rfl⟩
 have n4_ : Aside0 (((((((w14.setCell ⟨gb640, 0, none⟩ (.int .i64 t629)).setCell ⟨gb640, 1, none⟩ (.int .i64 t630)).setCell ⟨gb640, 2, none⟩ (.int .i64 t631)).setCell ⟨gb641, 0, none⟩ (.int .i64 t632)).setCell ⟨gb641, 1, none⟩ (.int .i64 t633)).setCell ⟨gb641, 2, none⟩ (.slice Ao20 t634.length co20)).heap[gb624]? = some (.cells #[.int .i64 0, .int .i64 0, .int .i64 0] 90 (0, 0))) := ⟨fp BK624 rfl⟩
 have n5_ : Aside0 (((((((w14.setCell ⟨gb640, 0, none⟩ (.int .i64 t629)).setCell ⟨gb640, 1, none⟩ (.int .i64 t630)).setCell ⟨gb640, 2, none⟩ (.int .i64 t631)).setCell ⟨gb641, 0, none⟩ (.int .i64 t632)).setCell ⟨gb641, 1, none⟩ (.int .i64 t633)).setCell ⟨gb641, 2, none⟩ (.slice Ao20 t634.length co20)).heap[gb625]? = some (.cells #[.int .i64 0, .int .i64 0, .slice none 0 0] 48 (0, 0))) := ⟨fp BK625 rfl⟩
 have n6_ : Aside0 (((((((w14.setCell ⟨gb640, 0, none⟩ (.int .i64 t629)).setCell ⟨gb640, 1, none⟩ (.int .i64 t630)).setCell ⟨gb640, 2, none⟩ (.int .i64 t631)).setCell ⟨gb641, 0, none⟩ (.int .i64 t632)).setCell ⟨gb641, 1, none⟩ (.int .i64 t633)).setCell ⟨gb641, 2, none⟩ (.slice Ao20 t634.length co20)).heap[gb640]? = some (.cells #[.int .i64 t629, .int .i64 t630, .int .i64 t631] 90 (0, 0))) := ⟨fp BK640 rfl⟩
 have n7_ : Aside0 (((((((w14.setCell ⟨gb640, 0, none⟩ (.int .i64 t629)).setCell ⟨gb640, 1, none⟩ (.int .i64 t630)).setCell ⟨gb640, 2, none⟩ (.int .i64 t631)).setCell ⟨gb641, 0, none⟩ (.int .i64 t632)).setCell ⟨gb641, 1, none⟩ (.int .i64 t633)).setCell ⟨gb641, 2, none⟩ (.slice Ao20 t634.length co20)).heap[gb641]? = some (.cells #[.int .i64 t632, .int .i64 t633, .slice Ao20 t634.length co20] 48 (0, 0))) := ⟨fp BK641 rfl⟩
 have n8_ : Aside0 (Below w.heap.size w ((((((w14.setCell ⟨gb640, 0, none⟩ (.int .i64 t629)).setCell ⟨gb640, 1, none⟩ (.int .i64 t630)).setCell ⟨gb640, 2, none⟩ (.int .i64 t631)).setCell ⟨gb641, 0, none⟩ (.int .i64 t632)).setCell ⟨gb641, 1, none⟩ (.int .i64 t633)).setCell ⟨gb641, 2, none⟩ (.slice Ao20 t634.length co20))) := ⟨bm HB⟩
 (try clear HO628);(try clear HO636);(try clear HO639);(try clear BK623);(try clear BK624);(try clear BK625);(try clear BK640);(try clear BK641);(try clear HB);generalize ((((((w14.setCell ⟨gb640, 0, none⟩ (.int .i64 t629)).setCell ⟨gb640, 1, none⟩ (.int .i64 t630)).setCell ⟨gb640, 2, none⟩ (.int .i64 t631)).setCell ⟨gb641, 0, none⟩ (.int .i64 t632)).setCell ⟨gb641, 1, none⟩ (.int .i64 t633)).setCell ⟨gb641, 2, none⟩ (.slice Ao20 t634.length co20)) = w22 at n0_ n1_ n2_ n3_ n4_ n5_ n6_ n7_ n8_ ⊢
 have HO628 := n0_;have HO636 := n1_;have HO639 := n2_;have BK623 := n3_;have BK624 := n4_;have BK625 := n5_;have BK640 := n6_;have BK641 := n7_;have HB := n8_;clear n0_ n1_ n2_ n3_ n4_ n5_ n6_ n7_ n8_;refine ev9 (Kd.R_drew HO628.out) (Kd.R_drew HO636.out) (Kd.S_drew HO639.out) (blk_drew BK623.out) (blk_drew BK624.out) (blk_drew BK625.out) (blk_drew BK640.out) (blk_drew BK641.out) (below_drew1 HB.out) ?_;clear HO628 HO636 HO639 BK623 BK624 BK625 BK640 BK641 HB;intro HO628 HO636 HO639 BK623 BK624 BK625 BK640 BK641 HB;refine start_ (n := 4) (S := fun w' => w'.cell? ⟨gb640, 0, none⟩ = some (.int .i64 t629) ∧ w'.cell? ⟨gb640, 1, none⟩ = some (.int .i64 t630) ∧ w'.cell? ⟨gb640, 2, none⟩ = some (.int .i64 t631) ∧ w'.cell? ⟨gb641, 0, none⟩ = some (.int .i64 t632) ∧ w'.cell? ⟨gb641, 1, none⟩ = some (.int .i64 t633) ∧ w'.cell? ⟨gb641, 2, none⟩ = some (.slice Ao20 t634.length co20)) (ds := []) #[false, false, false, false] (by kernel_rfl) rfl rfl ⟨(blk_cell BK640.out 0).trans rfl, (blk_cell BK640.out 1).trans rfl, (blk_cell BK640.out 2).trans rfl, (blk_cell BK641.out 0).trans rfl, (blk_cell BK641.out 1).trans rfl, (blk_cell BK641.out 2).trans rfl⟩ (fun hHeld => ?_);generalize w22.drew = w23 at HO628 HO636 HO639 BK623 BK624 BK625 BK640 BK641 HB hHeld ⊢
 refine take_ (i := 0) (N := some 18) (v := ?_) (a' := ?_) #[true, false, false, false] rfl rfl (by kernel_rfl) (fun _ _ _ h => h) (Or.inl ⟨by rfl, ?_⟩) hHeld ?_ ?_;rotate_left
 ·rintro w' ⟨s0, s1, s2, s3, s4, s5⟩
  go_simp;with_reducible rfl
 rotate_left
 ·simp only [Act.put, za_, zb_, zc_, i64_w, i32_w]
  rfl
 refine take_ (i := 1) (N := some 19) (v := ?_) (a' := ?_) #[true, true, false, false] rfl rfl (by kernel_rfl) (fun _ _ _ h => h) (Or.inl ⟨by rfl, ?_⟩) hHeld ?_ ?_;rotate_left
 ·rintro w' ⟨s0, s1, s2, s3, s4, s5⟩
  go_simp;with_reducible rfl
 rotate_left
 ·simp only [Act.put, za_, zb_, zc_, i64_w, i32_w]
  rfl
 refine one_ (i := 2) (N := none) #[true, true, true, false] rfl rfl (by kernel_rfl) (by decide) (fun K hK => ?_);have hs24 : w23.cell? ⟨gb624, 0, none⟩ = some (.int .i64 0) := (blk_cell BK624.out 0).trans rfl;have hfs24 := blk_frozen BK624.out 0;have hns24_0 := NB623_624.out;have hns24_2 := NB625_624.out;have hns24_3 := NB640_624.out;have hns24_4 := NB641_624.out;have hms24_0 := NB624_623.out;have hms24_2 := NB624_625.out;have hms24_3 := NB624_640.out;have hms24_4 := NB624_641.out;have hs25 : w23.cell? ⟨gb624, 1, none⟩ = some (.int .i64 0) := (blk_cell BK624.out 1).trans rfl;have hfs25 := blk_frozen BK624.out 1;have hns25_0 := NB623_624.out;have hns25_2 := NB625_624.out;have hns25_3 := NB640_624.out;have hns25_4 := NB641_624.out;have hms25_0 := NB624_623.out;have hms25_2 := NB624_625.out;have hms25_3 := NB624_640.out;have hms25_4 := NB624_641.out;have hs26 : w23.cell? ⟨gb624, 2, none⟩ = some (.int .i64 0) := (blk_cell BK624.out 2).trans rfl;have hfs26 := blk_frozen BK624.out 2;have hns26_0 := NB623_624.out;have hns26_2 := NB625_624.out;have hns26_3 := NB640_624.out;have hns26_4 := NB641_624.out;have hms26_0 := NB624_623.out;have hms26_2 := NB624_625.out;have hms26_3 := NB624_640.out;have hms26_4 := NB624_641.out;refine skip_ (w1 := ?_) (by rfl) rfl ?_ ?_;rotate_left
 ·go_simp
  rfl
 refine hK.out _ _ ⟨((cell_far (p := ⟨gb624, _, none⟩) NB640_624.out _).trans (((cell_far (p := ⟨gb624, _, none⟩) NB640_624.out _).trans (((cell_far (p := ⟨gb624, _, none⟩) NB640_624.out _).trans (hHeld.1)))))), ((cell_far (p := ⟨gb624, _, none⟩) NB640_624.out _).trans (((cell_far (p := ⟨gb624, _, none⟩) NB640_624.out _).trans (((cell_far (p := ⟨gb624, _, none⟩) NB640_624.out _).trans (hHeld.2.1)))))), ((cell_far (p := ⟨gb624, _, none⟩) NB640_624.out _).trans (((cell_far (p := ⟨gb624, _, none⟩) NB640_624.out _).trans (((cell_far (p := ⟨gb624, _, none⟩) NB640_624.out _).trans (hHeld.2.2.1)))))), ((cell_far (p := ⟨gb624, _, none⟩) NB641_624.out _).trans (((cell_far (p := ⟨gb624, _, none⟩) NB641_624.out _).trans (((cell_far (p := ⟨gb624, _, none⟩) NB641_624.out _).trans (hHeld.2.2.2.1)))))), ((cell_far (p := ⟨gb624, _, none⟩) NB641_624.out _).trans (((cell_far (p := ⟨gb624, _, none⟩) NB641_624.out _).trans (((cell_far (p := ⟨gb624, _, none⟩) NB641_624.out _).trans (hHeld.2.2.2.2.1)))))), ((cell_far (p := ⟨gb624, _, none⟩) NB641_624.out _).trans (((cell_far (p := ⟨gb624, _, none⟩) NB641_624.out _).trans (((cell_far (p := ⟨gb624, _, none⟩) NB641_624.out _).trans (hHeld.2.2.2.2.2))))))⟩ (fun hHeld => ?_);clear hK K;refine one_ (i := 3) (N := none) #[true, true, true, true] rfl rfl (by kernel_rfl) (by decide) (fun K hK => ?_);have hs27 : w23.cell? ⟨gb625, 0, none⟩ = some (.int .i64 0) := (blk_cell BK625.out 0).trans rfl;have hfs27 := blk_frozen BK625.out 0;have hns27_0 := NB623_625.out;have hns27_1 := NB624_625.out;have hns27_3 := NB640_625.out;have hns27_4 := NB641_625.out;have hms27_0 := NB625_623.out;have hms27_1 := NB625_624.out;have hms27_3 := NB625_640.out;have hms27_4 := NB625_641.out;have hs28 : w23.cell? ⟨gb625, 1, none⟩ = some (.int .i64 0) := (blk_cell BK625.out 1).trans rfl;have hfs28 := blk_frozen BK625.out 1;have hns28_0 := NB623_625.out;have hns28_1 := NB624_625.out;have hns28_3 := NB640_625.out;have hns28_4 := NB641_625.out;have hms28_0 := NB625_623.out;have hms28_1 := NB625_624.out;have hms28_3 := NB625_640.out;have hms28_4 := NB625_641.out;have hs29 : w23.cell? ⟨gb625, 2, none⟩ = some (.slice none 0 0) := (blk_cell BK625.out 2).trans rfl;have hfs29 := blk_frozen BK625.out 2;have hns29_0 := NB623_625.out;have hns29_1 := NB624_625.out;have hns29_3 := NB640_625.out;have hns29_4 := NB641_625.out;have hms29_0 := NB625_623.out;have hms29_1 := NB625_624.out;have hms29_3 := NB625_640.out;have hms29_4 := NB625_641.out;refine skip_ (w1 := ?_) (by rfl) rfl ?_ ?_;rotate_left
 ·go_simp
  rfl
 refine hK.out _ _ ⟨((cell_far (p := ⟨gb625, _, none⟩) NB640_625.out _).trans (((cell_far (p := ⟨gb625, _, none⟩) NB640_625.out _).trans (((cell_far (p := ⟨gb625, _, none⟩) NB640_625.out _).trans (hHeld.1)))))), ((cell_far (p := ⟨gb625, _, none⟩) NB640_625.out _).trans (((cell_far (p := ⟨gb625, _, none⟩) NB640_625.out _).trans (((cell_far (p := ⟨gb625, _, none⟩) NB640_625.out _).trans (hHeld.2.1)))))), ((cell_far (p := ⟨gb625, _, none⟩) NB640_625.out _).trans (((cell_far (p := ⟨gb625, _, none⟩) NB640_625.out _).trans (((cell_far (p := ⟨gb625, _, none⟩) NB640_625.out _).trans (hHeld.2.2.1)))))), ((cell_far (p := ⟨gb625, _, none⟩) NB641_625.out _).trans (((cell_far (p := ⟨gb625, _, none⟩) NB641_625.out _).trans (((cell_far (p := ⟨gb625, _, none⟩) NB641_625.out _).trans (hHeld.2.2.2.1)))))), ((cell_far (p := ⟨gb625, _, none⟩) NB641_625.out _).trans (((cell_far (p := ⟨gb625, _, none⟩) NB641_625.out _).trans (((cell_far (p := ⟨gb625, _, none⟩) NB641_625.out _).trans (hHeld.2.2.2.2.1)))))), ((cell_far (p := ⟨gb625, _, none⟩) NB641_625.out _).trans (((cell_far (p := ⟨gb625, _, none⟩) NB641_625.out _).trans (((cell_far (p := ⟨gb625, _, none⟩) NB641_625.out _).trans (hHeld.2.2.2.2.2))))))⟩ (fun hHeld => ?_);clear hK K;refine done_ (by kernel_rfl) ?_;try go_wp2
 refine bodyPost_ret (results_cc rfl _ _ gb624 gb625 90 48 #[.int .i64 t629, .int .i64 t630, .int .i64 t631] #[.int .i64 t632, .int .i64 t633, .slice Ao20 t634.length co20] (0, 0) (0, 0) _ _ rfl (fp BK624 rfl) Try.underlying90 rfl (by kernel_rfl) rfl (fp BK625 rfl) Try.underlying48 rfl (by kernel_rfl)) rfl ?_;exact ⟨_, by first | rfl | (simp [e0_, e1_] <;> rfl) | (simp [*, e0_, e1_] <;> rfl), Kd.R_mv (Kd.R_mono (ok' := fun k_ => True) (Kd.R_far (p := ⟨gb625, 2, none⟩) (Kd.R_far (p := ⟨gb625, 1, none⟩) (Kd.R_far (p := ⟨gb625, 0, none⟩) (Kd.R_far (p := ⟨gb624, 2, none⟩) (Kd.R_far (p := ⟨gb624, 1, none⟩) (Kd.R_far (p := ⟨gb624, 0, none⟩) (Kd.R_types (Kd.R_types HO636.out BK624.out (by decide)) BK625.out (by decide)) (fun _ hk => hk.1.2) (.int .i64 t629)) (fun _ hk => hk.1.2) (.int .i64 t630)) (fun _ hk => hk.1.2) (.int .i64 t631)) (fun _ hk => hk.2) (.int .i64 t632)) (fun _ hk => hk.2) (.int .i64 t633)) (fun _ hk => hk.2) (.slice Ao20 t634.length co20)) (fun _ hk => trivial)), bm HB⟩
end Go.Proofs.Ytjogiiobaakjkaa.F
