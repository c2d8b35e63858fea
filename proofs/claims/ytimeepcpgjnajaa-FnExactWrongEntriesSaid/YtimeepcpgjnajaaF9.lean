-- Printed by a program; checked here.
import Derived.Test.YtimeepcpgjnajaaF0
import Derived.Test.YtimeepcpgjnajaaF2
import Derived.Test.YtimeepcpgjnajaaF5
import Derived.Test.YtimeepcpgjnajaaF6
import Derived.Test.YtimeepcpgjnajaaF7
import Derived.Test.YtimeepcpgjnajaaF8
namespace Go.Proofs.Ytimeepcpgjnajaa.F
open Go.RowKit Go.Proofs.YtimeepcpgjnajaaV.PrintWords Go.Proofs.YtimeepcpgjnajaaV.PrintLast Go.Proofs.YtimeepcpgjnajaaV.PrintMore
attribute [local go_sem] max2_int min2_int max_two min_two max_three min_three max_four min_four
attribute [local go_sem] Try.underlying25 Try.underlying27 Try.underlying50 Try.underlying62 Try.underlying66 Try.underlying72 Try.underlying75 Try.underlying80 Try.underlying137
set_option maxHeartbeats 8000000
set_option maxRecDepth 100000
set_option linter.unusedVariables false
set_option linter.unusedSimpArgs false

/-! ### impl_validEntry: function 146 -/
def impl_validEntry.f (k : Nat) (a0_0 : Int) (a0_1 : Int) (l0_2 : List (S27)) (a1 : Int) : Option (Bool) := (impl_IsBoard.f k a0_0 a0_1 l0_2).bind fun t343 => (if t343 = true then (if a1 ≥ 0 then (some (decide (a1 < a0_1))) else (some false)) else (some false))
theorem impl_validEntry.calls (k : Nat) (a0_0 : Int) (a0_1 : Int) (A0_2 : Option Addr) (c0_2 : Nat) (l0_2 : List (S27)) (a1 : Int) (r : Bool) (w : World) (hr0_2 : Kd.C k27 w A0_2 l0_2.length l0_2) (hc0_2 : l0_2.length ≤ c0_2) (h : impl_validEntry.f k a0_0 a0_1 l0_2 a1 = some r) :
  Calls Try.prog 146 #[.agg #[.int .i64 a0_0, .int .i64 a0_1, .slice A0_2 l0_2.length c0_2], .int .i64 a1] w fun e w' => e = .returned (.bool r) ∧ Below w.heap.size w w' := by
 have HR0_2 := Aside0.mk hr0_2;have HC0_2 := Aside0.mk hc0_2;clear hr0_2 hc0_2;have HB := Aside0.mk (Below.refl w.heap.size w);have H : ((impl_IsBoard.f k a0_0 a0_1 l0_2).bind fun t343 => (if t343 = true then (if a1 ≥ 0 then (some (decide (a1 < a0_1))) else (some false)) else (some false))) = some r := h;clear h;replace H := Option.bind_eq_some_iff.mp H;obtain ⟨t343, A30, H⟩ := H;(try dsimp only at H)
 have A3 := Aside0.mk A30;clear A30;by_cases c4 : t343 = true
 ·subst c4;have H1 : (if a1 ≥ 0 then (some (decide (a1 < a0_1))) else (some false)) = some r := by rw [if_pos rfl] at H; exact H
  clear H;have H := H1;clear H1;by_cases c5 : a1 ≥ 0
  ·rw [if_pos c5] at H;have c5b0 : decide (0 ≤ a1) = true := decide_eq_true c5;clear c5;obtain rfl := Option.some.inj H;go_enter Try.func146, Try.ntmps146;go_wp2_with (first | ((with_reducible refine gate_dst (N := 2) rfl ?_); refine box_event ?hg (N := 2) ?hd (cs := #[.int .i64 a0_0, .int .i64 a0_1, .slice A0_2 l0_2.length c0_2]) (t := 25) ?hr ?_; (case hd => rfl); (case hg => rfl); (case hr => first | (go_simp; done) | (go_simp; rfl)); intro gb342 hg w6 hbox hb; refine ev4 (bs HB hb) (hbox) (gle hg HB) (gle hg HB) ?_; clear HB; intro HB BK342 GW342 GE342; clear hb hbox hg; obtain ⟨hcz7_0, hcz7_1, hcz7_2, hfz7_0, hfz7_1, hfz7_2⟩ := bt3 BK342) | ((with_reducible refine gate_callee (f := 36) rfl ?_); refine goesL_ (some 6) rfl rfl Try.func36 (by kernel_rfl) rfl #[.agg #[.int .i64 a0_0, .int .i64 a0_1, .slice A0_2 l0_2.length c0_2]] rfl (by (try simp only [ma_, mb_, mc_]); first | done | rfl | (simp only [List.length_drop, List.length_take]; rfl)) ?_; (with_reducible refine (impl_IsBoard.calls k a0_0 a0_1 _ _ l0_2 true _ (Kd.C_mv (Kd.C_below HR0_2.out HB.out)) HC0_2.out A3.out).mono ?_); rintro e w8 ⟨rfl, hb⟩; refine ⟨_, rfl, ?_⟩; refine ev2 (kb BK342 hb) (bs HB hb) ?_; clear BK342 HB; intro BK342 HB; (try clear hb); (try clear hb2); (try clear hk); (try clear hi); obtain ⟨hcz9_0, hcz9_1, hcz9_2, hfz9_0, hfz9_1, hfz9_2⟩ := bt3 BK342))
   go_ret;exact ⟨by first | rfl | (simp [e0_, e1_] <;> rfl) | (simp [*, e0_, e1_] <;> rfl), bm HB⟩
  ·rw [if_neg c5] at H;have c5b0 : decide (0 ≤ a1) = false := decide_eq_false c5;clear c5;obtain rfl := Option.some.inj H;go_enter Try.func146, Try.ntmps146;go_wp2_with (first | ((with_reducible refine gate_dst (N := 2) rfl ?_); refine box_event ?hg (N := 2) ?hd (cs := #[.int .i64 a0_0, .int .i64 a0_1, .slice A0_2 l0_2.length c0_2]) (t := 25) ?hr ?_; (case hd => rfl); (case hg => rfl); (case hr => first | (go_simp; done) | (go_simp; rfl)); intro gb342 hg w10 hbox hb; refine ev4 (bs HB hb) (hbox) (gle hg HB) (gle hg HB) ?_; clear HB; intro HB BK342 GW342 GE342; clear hb hbox hg; obtain ⟨hcz11_0, hcz11_1, hcz11_2, hfz11_0, hfz11_1, hfz11_2⟩ := bt3 BK342) | ((with_reducible refine gate_callee (f := 36) rfl ?_); refine goesL_ (some 6) rfl rfl Try.func36 (by kernel_rfl) rfl #[.agg #[.int .i64 a0_0, .int .i64 a0_1, .slice A0_2 l0_2.length c0_2]] rfl (by (try simp only [ma_, mb_, mc_]); first | done | rfl | (simp only [List.length_drop, List.length_take]; rfl)) ?_; (with_reducible refine (impl_IsBoard.calls k a0_0 a0_1 _ _ l0_2 true _ (Kd.C_mv (Kd.C_below HR0_2.out HB.out)) HC0_2.out A3.out).mono ?_); rintro e w12 ⟨rfl, hb⟩; refine ⟨_, rfl, ?_⟩; refine ev2 (kb BK342 hb) (bs HB hb) ?_; clear BK342 HB; intro BK342 HB; (try clear hb); (try clear hb2); (try clear hk); (try clear hi)))
   go_ret;exact ⟨by first | rfl | (simp [e0_, e1_] <;> rfl) | (simp [*, e0_, e1_] <;> rfl), bm HB⟩
 ·replace c4 := Bool.eq_false_iff.mpr c4;subst c4;have H1 : (some false) = some r := by rw [if_neg (show ¬ (false = true) by decide)] at H; exact H
  clear H;have H := H1;clear H1;obtain rfl := Option.some.inj H;go_enter Try.func146, Try.ntmps146;go_wp2_with (first | ((with_reducible refine gate_dst (N := 2) rfl ?_); refine box_event ?hg (N := 2) ?hd (cs := #[.int .i64 a0_0, .int .i64 a0_1, .slice A0_2 l0_2.length c0_2]) (t := 25) ?hr ?_; (case hd => rfl); (case hg => rfl); (case hr => first | (go_simp; done) | (go_simp; rfl)); intro gb342 hg w13 hbox hb; refine ev4 (bs HB hb) (hbox) (gle hg HB) (gle hg HB) ?_; clear HB; intro HB BK342 GW342 GE342; clear hb hbox hg; obtain ⟨hcz14_0, hcz14_1, hcz14_2, hfz14_0, hfz14_1, hfz14_2⟩ := bt3 BK342) | ((with_reducible refine gate_callee (f := 36) rfl ?_); refine goesL_ (some 6) rfl rfl Try.func36 (by kernel_rfl) rfl #[.agg #[.int .i64 a0_0, .int .i64 a0_1, .slice A0_2 l0_2.length c0_2]] rfl (by (try simp only [ma_, mb_, mc_]); first | done | rfl | (simp only [List.length_drop, List.length_take]; rfl)) ?_; (with_reducible refine (impl_IsBoard.calls k a0_0 a0_1 _ _ l0_2 false _ (Kd.C_mv (Kd.C_below HR0_2.out HB.out)) HC0_2.out A3.out).mono ?_); rintro e w15 ⟨rfl, hb⟩; refine ⟨_, rfl, ?_⟩; refine ev2 (kb BK342 hb) (bs HB hb) ?_; clear BK342 HB; intro BK342 HB; (try clear hb); (try clear hb2); (try clear hk); (try clear hi)))
  go_ret;exact ⟨by first | rfl | (simp [e0_, e1_] <;> rfl) | (simp [*, e0_, e1_] <;> rfl), bm HB⟩

/-! ### impl_FallOf: function 181 -/
def impl_FallOf.f (k : Nat) (a0_0 : Int) (a0_1 : Int) (l0_2 : List (S27)) (a1 : Int) : Option (Int × Int × Int × Bool) := (impl_validEntry.f k a0_0 a0_1 l0_2 a1).bind fun t416 => (if t416 = true then ((impl_copyBoard.f a0_0 a0_1 l0_2).bind fun bt417 => ((impl_groupNumbers.f k a0_0 a0_1 l0_2).bind fun t422 => ((impl_drop.f k bt417.1 bt417.2.1 bt417.2.2 t422 a1).bind fun bt425 => (some (bt425.1, bt425.2.1, bt425.2.2.1, true))))) else (some (0, 0, 0, false)))
def impl_FallOf.T3 : Bool × List (List Nat × List Nat) := (true, [([], []), ([0], [0]), ([], []), ([2, 1], [2]), ([], []), ([1, 3, 4, 3], [1, 3, 4]), ([5], [5]), ([6], [6]), ([6], [6]), ([], []), ([9, 7, 5, 0, 1, 2, 3, 4, 5, 6, 7, 9], [7, 9]), ([8, 10, 0, 1, 2, 3, 4, 5, 6, 7, 8, 9, 10], [8])])
def impl_FallOf.B3 : List Nat := [0, 1, 0, 7, 0, 31, 63, 127, 127, 0, 767, 2047]
theorem impl_FallOf.tab3 : rtab .any (opsOf Try.f181 3) = impl_FallOf.T3 := by kernel_rfl
theorem impl_FallOf.bits3 : waitsOk impl_FallOf.T3.2 impl_FallOf.B3 = true := by kernel_rfl
theorem impl_FallOf.calls (k : Nat) (a0_0 : Int) (a0_1 : Int) (A0_2 : Option Addr) (c0_2 : Nat) (l0_2 : List (S27)) (a1 : Int) (r1 : Int) (r2 : Int) (r3 : Int) (r4 : Bool) (w : World) (hr0_2 : Kd.C k27 w A0_2 l0_2.length l0_2) (hc0_2 : l0_2.length ≤ c0_2) (h : impl_FallOf.f k a0_0 a0_1 l0_2 a1 = some (r1, r2, r3, r4)) :
  Calls Try.prog 181 #[.agg #[.int .i64 a0_0, .int .i64 a0_1, .slice A0_2 l0_2.length c0_2], .int .i64 a1] w fun e w' => e = .returned (.tuple #[.agg #[.int .i64 r1, .int .i64 r2, .int .i64 r3], .bool r4]) ∧ Below w.heap.size w w' := by
 have HR0_2 := Aside0.mk hr0_2;have HC0_2 := Aside0.mk hc0_2;clear hr0_2 hc0_2;have HB := Aside0.mk (Below.refl w.heap.size w);have H : ((impl_validEntry.f k a0_0 a0_1 l0_2 a1).bind fun t416 => (if t416 = true then ((impl_copyBoard.f a0_0 a0_1 l0_2).bind fun bt417 => ((impl_groupNumbers.f k a0_0 a0_1 l0_2).bind fun t422 => ((impl_drop.f k bt417.1 bt417.2.1 bt417.2.2 t422 a1).bind fun bt425 => (some (bt425.1, bt425.2.1, bt425.2.2.1, true))))) else (some (0, 0, 0, false)))) = some (r1, r2, r3, r4) := h;clear h;replace H := Option.bind_eq_some_iff.mp H;obtain ⟨t416, A30, H⟩ := H;(try dsimp only at H)
 have A3 := Aside0.mk A30;clear A30;by_cases c4 : t416 = true
 ·subst c4;have H1 : ((impl_copyBoard.f a0_0 a0_1 l0_2).bind fun bt417 => ((impl_groupNumbers.f k a0_0 a0_1 l0_2).bind fun t422 => ((impl_drop.f k bt417.1 bt417.2.1 bt417.2.2 t422 a1).bind fun bt425 => (some (bt425.1, bt425.2.1, bt425.2.2.1, true))))) = some (r1, r2, r3, r4) := by rw [if_pos rfl] at H; exact H
  clear H;have H := H1;clear H1;replace H := Option.bind_eq_some_iff.mp H;obtain ⟨⟨t417, t418, t419⟩, A50, H⟩ := H;(try dsimp only at H)
  have A5 := Aside0.mk A50;clear A50;replace H := Option.bind_eq_some_iff.mp H;obtain ⟨t422, A60, H⟩ := H;(try dsimp only at H)
  have A6 := Aside0.mk A60;clear A60;replace H := Option.bind_eq_some_iff.mp H;obtain ⟨⟨t425, t426, t427, t428, t431⟩, A70, H⟩ := H;(try dsimp only at H)
  have A7 := Aside0.mk A70;clear A70;simp only [Option.some.injEq, Prod.mk.injEq] at H;obtain ⟨rfl, rfl, rfl, rfl⟩ := H;go_enter Try.func181, Try.ntmps181;try go_wp2_with (first | ((with_reducible refine gate_dst (N := 2) rfl ?_); refine box_event ?hg (N := 2) ?hd (cs := #[.int .i64 a0_0, .int .i64 a0_1, .slice A0_2 l0_2.length c0_2]) (t := 25) ?hr ?_; (case hd => rfl); (case hg => rfl); (case hr => first | (go_simp; done) | (go_simp; rfl)); intro gb414 hg w8 hbox hb; refine ev4 (bs HB hb) (hbox) (gle hg HB) (gle hg HB) ?_; clear HB; intro HB BK414 GW414 GE414; clear hb hbox hg) | ((with_reducible refine gate_dst (N := 4) rfl ?_); refine box_event ?hg (N := 4) ?hd (cs := #[.int .i64 0, .int .i64 0, .int .i64 0]) (t := 137) ?hr ?_; (case hd => rfl); (case hg => rfl); (case hr => first | (go_simp; done) | (go_simp; rfl)); intro gb415 hg w9 hbox hb; refine ev7 (kb BK414 hb) (bs HB hb) (hbox) (gle hg HB) (gle hg HB) (gnf hg BK414) (gne hg BK414) ?_; clear BK414 HB; intro BK414 HB BK415 GW415 GE415 NB414_415 NB415_414; clear hb hbox hg; have hnb10 := NB414_415.out; have hnc10 := NB415_414.out; obtain ⟨hcz11_0, hcz11_1, hcz11_2, hfz11_0, hfz11_1, hfz11_2⟩ := bt3 BK414) | ((with_reducible refine gate_callee (f := 146) rfl ?_); refine goesL_ (some 10) rfl rfl Try.func146 (by kernel_rfl) rfl #[.agg #[.int .i64 a0_0, .int .i64 a0_1, .slice A0_2 l0_2.length c0_2], .int .i64 a1] rfl (by (try simp only [ma_, mb_, mc_]); first | done | rfl | (simp only [List.length_drop, List.length_take]; rfl)) ?_; (with_reducible refine (impl_validEntry.calls k a0_0 a0_1 _ _ l0_2 a1 true _ (Kd.C_mv (Kd.C_below HR0_2.out HB.out)) HC0_2.out A3.out).mono ?_); rintro e w12 ⟨rfl, hb⟩; refine ⟨_, rfl, ?_⟩; refine ev3 (kb BK414 hb) (kb BK415 hb) (bs HB hb) ?_; clear BK414 BK415 HB; intro BK414 BK415 HB; (try clear hb); (try clear hb2); (try clear hk); (try clear hi)))
  refine ev3 (blk_drew BK414.out) (blk_drew BK415.out) (below_drew1 HB.out) ?_;clear BK414 BK415 HB;intro BK414 BK415 HB;refine start_ (n := 12) (S := fun w' => w'.cell? ⟨gb414, 0, none⟩ = some (.int .i64 a0_0) ∧ w'.cell? ⟨gb414, 1, none⟩ = some (.int .i64 a0_1) ∧ w'.cell? ⟨gb414, 2, none⟩ = some (.slice A0_2 l0_2.length c0_2)) (ds := []) #[Z,Z,Z,Z,Z,Z,Z,Z,Z,Z,Z,Z] (by kernel_rfl) rfl rfl ⟨(blk_cell BK414.out 0).trans rfl, (blk_cell BK414.out 1).trans rfl, (blk_cell BK414.out 2).trans rfl⟩ (fun hHeld => ?_); refine with_tabW impl_FallOf.tab3 impl_FallOf.bits3 (fun HT_ HW_ => ?_);generalize w12.drew = w13 at BK414 BK415 HB hHeld ⊢
  refine pA 4 (some 18) ?_ #[Z,Z,Z,Z,Y,Z,Z,Z,Z,Z,Z,Z] rfl rfl HT_ (by kernel_rfl) (fun _ _ _ h => h) (by rfl) ?_ ?_ ?_ ?_;rotate_left
  ·intro w';go_simp;with_reducible rfl
  rotate_left
  ·simp only [Act.put, za_, zb_, zc_, i64_w, i32_w];rfl
  refine tA 0 (some 14) ?_ #[Y,Z,Z,Z,Y,Z,Z,Z,Z,Z,Z,Z] rfl rfl HT_ HW_ (by kernel_rfl) (fun _ _ _ h => h) (by rfl) ?_ hHeld ?_ ?_ ?_;rotate_left
  ·rintro w' ⟨s0, s1, s2⟩;go_simp;with_reducible rfl
  rotate_left
  ·simp only [Act.put, za_, zb_, zc_, i64_w, i32_w];rfl
  refine tA 2 (some 16) ?_ #[Y,Z,Y,Z,Y,Z,Z,Z,Z,Z,Z,Z] rfl rfl HT_ HW_ (by kernel_rfl) (fun _ _ _ h => h) (by rfl) ?_ hHeld ?_ ?_ ?_;rotate_left
  ·rintro w' ⟨s0, s1, s2⟩;go_simp;with_reducible rfl
  rotate_left
  ·simp only [Act.put, za_, zb_, zc_, i64_w, i32_w];rfl
  refine join_ (σ := Value × Value × Value × Nat) 2 #[Y,Y,Y,Y,Y,Y,Y,Y,Y,Y,Z,Z] (fun s_ => [(15, .agg #[.int .i64 t417, .int .i64 t418, s_.1]), (17, s_.2.1), (19, .tuple #[.agg #[.int .i64 t425, .int .i64 t426, .int .i64 t427], s_.2.2.1]), (6, .pointer (some ⟨s_.2.2.2, 0, none⟩)), (13, .tuple #[.agg #[.int .i64 t425, .int .i64 t426, .int .i64 t427], s_.2.2.1]), (20, .agg #[.int .i64 t425, .int .i64 t426, .int .i64 t427]), (21, s_.2.2.1)]) (fun s_ w' => (w'.cell? ⟨gb414, 0, none⟩ = some (.int .i64 a0_0) ∧ w'.cell? ⟨gb414, 1, none⟩ = some (.int .i64 a0_1) ∧ w'.cell? ⟨gb414, 2, none⟩ = some (.slice A0_2 l0_2.length c0_2)) ∧ (Kd.R k27 27 w' w.heap.size (fun _ => True) s_.1 t431) ∧ (Kd.R (Kd.int .i64) 3 w' w.heap.size (fun k_ => some k_ ≠ (s_.2.2.1 : Value).ownBlock) s_.2.1 t422) ∧ (Kd.R (Kd.int .i64) 3 w' w.heap.size (fun k_ => some k_ ≠ (s_.2.1 : Value).ownBlock) s_.2.2.1 t428) ∧ (w'.heap[gb414]? = some (.cells #[.int .i64 a0_0, .int .i64 a0_1, .slice A0_2 l0_2.length c0_2] 25 (0, 0))) ∧ (w'.heap[gb415]? = some (.cells #[.int .i64 0, .int .i64 0, .int .i64 0] 137 (0, 0))) ∧ (w'.heap[s_.2.2.2]? = some (.cells #[.int .i64 0, .int .i64 0, .int .i64 0] 137 (0, 0))) ∧ (w.heap.size ≤ s_.2.2.2) ∧ (w.heap.size ≤ s_.2.2.2) ∧ (gb414 ≠ s_.2.2.2) ∧ (s_.2.2.2 ≠ gb414) ∧ (gb415 ≠ s_.2.2.2) ∧ (s_.2.2.2 ≠ gb415) ∧ (Below w.heap.size w w')) ?_ ?_;rotate_left
  ·intro hCont;refine two_ (i := 1) (j := 9) (Ni := some 15) (Nj := some 6) #[Y,Y,Y,Z,Y,Z,Z,Z,Z,Z,Z,Z] #[Y,Z,Y,Z,Y,Z,Z,Z,Z,Y,Z,Z] rfl rfl rfl rfl (two_of HT_.out (by kernel_rfl)) (by decide) (by decide) (fun K hK => ?_) (fun K hK => ?_)
   ·skip
    refine goes_ Try.func80 (by kernel_rfl) rfl #[.agg #[.int .i64 a0_0, .int .i64 a0_1, .slice A0_2 l0_2.length c0_2]] (by rfl) rfl rfl (by (try simp only [ma_, mb_, mc_]); first | done | rfl | (simp only [List.length_drop, List.length_take]; rfl)) ?_;with_reducible refine (impl_copyBoard.calls a0_0 a0_1 _ _ l0_2 t417 t418 t419 _ ?side1 ?side2 A5.out).mono ?_
    (case side1 => exact Kd.C_mv (Kd.C_below HR0_2.out HB.out))
    (case side2 => exact HC0_2.out)
    rintro e w14 ⟨v420, rfl, ho0, hb⟩;refine ⟨_, rfl, ?_⟩;refine ev4 (Kd.R_lower ho0 (below_size (bm HB))) (kb BK414 hb) (kb BK415 hb) (bs HB hb) ?_;clear BK414 BK415 HB;intro HO421 BK414 BK415 HB;(try clear hb);(try clear hb2);(try clear hk);(try clear hi);(try clear ho0);refine hK.out _ _ ⟨(blk_cell BK414.out 0).trans rfl, (blk_cell BK414.out 1).trans rfl, (blk_cell BK414.out 2).trans rfl⟩ (fun hHeld => ?_);clear hK K;refine norm_ (a' := ?_) ?_ ?_;rotate_left
    ·show Act.put _ (some 15) _ = _
     simp only [Act.put, za_, zb_, zc_, i64_w, i32_w];rfl
    refine two_ (i := 3) (j := 9) (Ni := some 17) (Nj := some 6) #[Y,Y,Y,Y,Y,Z,Z,Z,Z,Z,Z,Z] #[Y,Y,Y,Z,Y,Z,Z,Z,Z,Y,Z,Z] rfl rfl rfl rfl (two_of HT_.out (by kernel_rfl)) (by decide) (by decide) (fun K hK => ?_) (fun K hK => ?_)
    ·skip
     refine goes_ Try.func148 (by kernel_rfl) rfl #[.agg #[.int .i64 a0_0, .int .i64 a0_1, .slice A0_2 l0_2.length c0_2]] (by rfl) rfl rfl (by (try simp only [ma_, mb_, mc_]); first | done | rfl | (simp only [List.length_drop, List.length_take]; rfl)) ?_;with_reducible refine (impl_groupNumbers.calls k a0_0 a0_1 _ _ l0_2 t422 _ ?side1 ?side2 A6.out).mono ?_
     (case side1 => exact Kd.C_mv (Kd.C_below HR0_2.out HB.out))
     (case side2 => exact HC0_2.out)
     rintro e w15 ⟨v423, rfl, ho0, hb⟩;refine ⟨_, rfl, ?_⟩;refine ev5 (Kd.R_below (Kd.R_mv HO421.out) hb) (Kd.R_lower ho0 (below_size (bm HB))) (kb BK414 hb) (kb BK415 hb) (bs HB hb) ?_;clear HO421 BK414 BK415 HB;intro HO421 HO424 BK414 BK415 HB;(try clear hb);(try clear hb2);(try clear hk);(try clear hi);(try clear ho0);obtain ⟨Ao16, co16, eo16⟩ := Kd.R_slice HO421.out;(first | subst eo16 | (injection eo16 with f1_ f2_ f3_; have f4_ := f1_.symm; have f5_ := f3_.symm; clear f1_ f2_ f3_; subst f4_; subst f5_))
     obtain ⟨Ao17, co17, eo17⟩ := Kd.R_slice HO424.out;(first | subst eo17 | (injection eo17 with f1_ f2_ f3_; have f4_ := f1_.symm; have f5_ := f3_.symm; clear f1_ f2_ f3_; subst f4_; subst f5_))
     refine hK.out _ _ ⟨(blk_cell BK414.out 0).trans rfl, (blk_cell BK414.out 1).trans rfl, (blk_cell BK414.out 2).trans rfl⟩ (fun hHeld => ?_);clear hK K;refine norm_ (a' := ?_) ?_ ?_;rotate_left
     ·show Act.put _ (some 17) _ = _
      simp only [Act.put, za_, zb_, zc_, i64_w, i32_w];rfl
     refine two_ (i := 5) (j := 9) (Ni := some 19) (Nj := some 6) #[Y,Y,Y,Y,Y,Y,Z,Z,Z,Z,Z,Z] #[Y,Y,Y,Y,Y,Z,Z,Z,Z,Y,Z,Z] rfl rfl rfl rfl (two_of HT_.out (by kernel_rfl)) (by decide) (by decide) (fun K hK => ?_) (fun K hK => ?_)
     ·skip
      refine goes_ Try.func151 (by kernel_rfl) rfl #[.agg #[.int .i64 t417, .int .i64 t418, .slice Ao16 t419.length co16], .slice Ao17 t422.length co17, .int .i64 a1] (by rfl) rfl rfl (by (try simp only [ma_, mb_, mc_]); first | done | rfl | (simp only [List.length_drop, List.length_take]; rfl)) ?_;with_reducible refine (impl_drop.calls k t417 t418 (fun k_ => some k_ = (.slice Ao16 t419.length co16 : Value).ownBlock) (.slice Ao16 t419.length co16) t419 _ _ t422 a1 t425 t426 t427 t428 t431 w _ ?side1 ?side2 ?side3 ?side4 A7.out).mono ?_
      (case side1 => exact bm HB)
      (case side2 => exact Kd.R_tight rfl HO421.out)
      (case side3 => exact Kd.C_kept_own ((Kd.R_apart' HO424.out (Kd.R_typed HO421.out) (by decide))) (fun k_ hk_ hs_ => (hk_.2) hs_))
      (case side4 => exact (Kd.R_reads' HO424.out).2.1)
      rintro e w18 ⟨v429, rfl, ho0, hy0, hb, hkp⟩;refine ⟨_, rfl, ?_⟩;refine ev6 (blk_kept (km_ BK414) hkp (fun hs_ => (fun e_ => (Kd.R_ne HO421.out BK414.out (by decide)) e_) hs_)) (blk_kept (km_ BK415) hkp (fun hs_ => (fun e_ => (Kd.R_ne HO421.out BK415.out (by decide)) e_) hs_)) (Kd.R_reok rfl hy0 (fun k_ e_ => HO421.out.1 k_ e_)) (Kd.R_mono (ok' := fun k_ => some k_ ≠ (v429 : Value).ownBlock) (Kd.R_keptB ((Kd.R_apart' HO424.out (Kd.R_typed HO421.out) (by decide))) hkp (fun k_ hk_ hs_ => (hk_.2) hs_)) (fun k_ hk_ => fun e_ => Or.elim (ho0.1 k_ e_.symm) (fun hs_ => hk_.2.1 hs_) (fun hn_ => Nat.not_le.2 hk_.2.2 hn_))) (Kd.R_mono (ok' := fun k_ => some k_ ≠ (.slice Ao17 t422.length co17 : Value).ownBlock) ho0 (fun k_ hk_ => Or.elim hk_ (fun hs_ => fun e_ => ((((Kd.R_apart' HO424.out (Kd.R_typed HO421.out) (by decide))).1 k_ e_.symm).2) hs_) (fun hn_ => (Kd.fresh' (Kd.R_lt (Kd.R_mv HO424.out)) k_ hn_)))) (hb) ?_;clear BK414 BK415 HO421 HO424 HB;intro BK414 BK415 HO421 HO424 HO430 HB;(try clear hb);(try clear hkp);(try clear ho0);(try clear hy0);refine hK.out _ _ ⟨(blk_cell BK414.out 0).trans rfl, (blk_cell BK414.out 1).trans rfl, (blk_cell BK414.out 2).trans rfl⟩ (fun hHeld => ?_);clear hK K;refine norm_ (a' := ?_) ?_ ?_;rotate_left
      ·show Act.put _ (some 19) _ = _
       simp only [Act.put, za_, zb_, zc_, i64_w, i32_w];rfl
      refine pA 6 (some 13) ?_ #[Y,Y,Y,Y,Y,Y,Y,Z,Z,Z,Z,Z] rfl rfl HT_ (by kernel_rfl) (fun _ _ _ h => h) (by rfl) ?_ ?_ ?_ ?_;rotate_left
      ·intro w';go_simp;with_reducible rfl
      rotate_left
      ·simp only [Act.put, za_, zb_, zc_, i64_w, i32_w];rfl
      refine pA 7 (some 20) ?_ #[Y,Y,Y,Y,Y,Y,Y,Y,Z,Z,Z,Z] rfl rfl HT_ (by kernel_rfl) (fun _ _ _ h => h) (by rfl) ?_ ?_ ?_ ?_;rotate_left
      ·intro w';go_simp;with_reducible rfl
      rotate_left
      ·simp only [Act.put, za_, zb_, zc_, i64_w, i32_w];rfl
      refine pA 8 (some 21) ?_ #[Y,Y,Y,Y,Y,Y,Y,Y,Y,Z,Z,Z] rfl rfl HT_ (by kernel_rfl) (fun _ _ _ h => h) (by rfl) ?_ ?_ ?_ ?_;rotate_left
      ·intro w';go_simp;with_reducible rfl
      rotate_left
      ·simp only [Act.put, za_, zb_, zc_, i64_w, i32_w];rfl
      refine one_ (i := 9) (N := some 6) #[Y,Y,Y,Y,Y,Y,Y,Y,Y,Y,Z,Z] rfl rfl (one_of HT_.out (by kernel_rfl)) (by decide) (fun K hK => ?_);refine box_step ?hg (N := 6) ?hd (cs := #[.int .i64 0, .int .i64 0, .int .i64 0]) (t := 137) ?hr ?_; (case hd => rfl); (case hg => rfl); (case hr => first | (go_simp; done) | (go_simp; rfl));intro gb432 hg w19 hbox hb;refine ev12 (Kd.R_below (Kd.R_mv HO421.out) hb) (Kd.R_below (Kd.R_mv HO424.out) hb) (Kd.R_below (Kd.R_mv HO430.out) hb) (kb BK414 hb) (kb BK415 hb) (bs HB hb) (hbox) (gle hg HB) (gle hg HB) (gnf hg BK414) (gne hg BK414) (gnf hg BK415) ?_; intro n0_ n1_ n2_ n3_ n4_ n5_ n6_ n7_ n8_ n9_ n10_ n11_;refine ev1 (gne hg BK415) ?_; intro n12_;clear HO421 HO424 HO430 BK414 BK415 HB;revert n0_ n1_ n2_ n3_ n4_ n5_ n6_ n7_ n8_ n9_ n10_ n11_ n12_;intro HO421 HO424 HO430 BK414 BK415 HB BK432 GW432 GE432 NB414_432 NB432_414 NB415_432 NB432_415;clear hb hbox hg;refine hK.out _ _ ⟨(blk_cell BK414.out 0).trans rfl, (blk_cell BK414.out 1).trans rfl, (blk_cell BK414.out 2).trans rfl⟩ (fun hHeld => ?_);clear hK K;refine norm_ (a' := ?_) ?_ ?_;rotate_left
      ·show Act.put _ (some 6) _ = _
       simp only [Act.put, za_, zb_, zc_, i64_w, i32_w];rfl
      exact norm_ (by simp only [putAll, Act.put, za_, zb_, zc_]) (hCont (.slice Ao16 t419.length co16, .slice Ao17 t422.length co17, v429, gb432) _ ⟨hHeld, (Kd.R_mv HO421.out), (Kd.R_mv HO424.out), (Kd.R_mv HO430.out), (km_ BK414), (km_ BK415), (km_ BK432), GW432.out, GE432.out, NB414_432.out, NB432_414.out, NB415_432.out, NB432_415.out, (bm HB)⟩)
     ·skip
      refine box_step ?hg (N := 6) ?hd (cs := #[.int .i64 0, .int .i64 0, .int .i64 0]) (t := 137) ?hr ?_; (case hd => rfl); (case hg => rfl); (case hr => first | (go_simp; done) | (go_simp; rfl));intro gb432 hg w16 hbox hb;refine ev12 (Kd.R_below (Kd.R_mv HO421.out) hb) (Kd.R_below (Kd.R_mv HO424.out) hb) (kb BK414 hb) (kb BK415 hb) (bs HB hb) (hbox) (gle hg HB) (gle hg HB) (gnf hg BK414) (gne hg BK414) (gnf hg BK415) (gne hg BK415) ?_;clear HO421 HO424 BK414 BK415 HB;intro HO421 HO424 BK414 BK415 HB BK432 GW432 GE432 NB414_432 NB432_414 NB415_432 NB432_415;clear hb hbox hg;obtain ⟨Ao17, co17, eo17⟩ := Kd.R_slice HO421.out;(first | subst eo17 | (injection eo17 with f1_ f2_ f3_; have f4_ := f1_.symm; have f5_ := f3_.symm; clear f1_ f2_ f3_; subst f4_; subst f5_))
      obtain ⟨Ao18, co18, eo18⟩ := Kd.R_slice HO424.out;(first | subst eo18 | (injection eo18 with f1_ f2_ f3_; have f4_ := f1_.symm; have f5_ := f3_.symm; clear f1_ f2_ f3_; subst f4_; subst f5_))
      refine hK.out _ _ ⟨(blk_cell BK414.out 0).trans rfl, (blk_cell BK414.out 1).trans rfl, (blk_cell BK414.out 2).trans rfl⟩ (fun hHeld => ?_);clear hK K;refine norm_ (a' := ?_) ?_ ?_;rotate_left
      ·show Act.put _ (some 6) _ = _
       simp only [Act.put, za_, zb_, zc_, i64_w, i32_w];rfl
      refine one_ (i := 5) (N := some 19) #[Y,Y,Y,Y,Y,Y,Z,Z,Z,Y,Z,Z] rfl rfl (one_of HT_.out (by kernel_rfl)) (by decide) (fun K hK => ?_);refine goes_ Try.func151 (by kernel_rfl) rfl #[.agg #[.int .i64 t417, .int .i64 t418, .slice Ao17 t419.length co17], .slice Ao18 t422.length co18, .int .i64 a1] (by rfl) rfl rfl (by (try simp only [ma_, mb_, mc_]); first | done | rfl | (simp only [List.length_drop, List.length_take]; rfl)) ?_;with_reducible refine (impl_drop.calls k t417 t418 (fun k_ => some k_ = (.slice Ao17 t419.length co17 : Value).ownBlock) (.slice Ao17 t419.length co17) t419 _ _ t422 a1 t425 t426 t427 t428 t431 w _ ?side1 ?side2 ?side3 ?side4 A7.out).mono ?_
      (case side1 => exact bm HB)
      (case side2 => exact Kd.R_tight rfl HO421.out)
      (case side3 => exact Kd.C_kept_own ((Kd.R_apart' HO424.out (Kd.R_typed HO421.out) (by decide))) (fun k_ hk_ hs_ => (hk_.2) hs_))
      (case side4 => exact (Kd.R_reads' HO424.out).2.1)
      rintro e w19 ⟨v429, rfl, ho0, hy0, hb, hkp⟩;refine ⟨_, rfl, ?_⟩;refine ev7 (blk_kept (km_ BK414) hkp (fun hs_ => (fun e_ => (Kd.R_ne HO421.out BK414.out (by decide)) e_) hs_)) (blk_kept (km_ BK415) hkp (fun hs_ => (fun e_ => (Kd.R_ne HO421.out BK415.out (by decide)) e_) hs_)) (Kd.R_reok rfl hy0 (fun k_ e_ => HO421.out.1 k_ e_)) (Kd.R_mono (ok' := fun k_ => some k_ ≠ (v429 : Value).ownBlock) (Kd.R_keptB ((Kd.R_apart' HO424.out (Kd.R_typed HO421.out) (by decide))) hkp (fun k_ hk_ hs_ => (hk_.2) hs_)) (fun k_ hk_ => fun e_ => Or.elim (ho0.1 k_ e_.symm) (fun hs_ => hk_.2.1 hs_) (fun hn_ => Nat.not_le.2 hk_.2.2 hn_))) (blk_kept (km_ BK432) hkp (fun hs_ => (fun e_ => (Kd.R_ne HO421.out BK432.out (by decide)) e_) hs_)) (Kd.R_mono (ok' := fun k_ => some k_ ≠ (.slice Ao18 t422.length co18 : Value).ownBlock) ho0 (fun k_ hk_ => Or.elim hk_ (fun hs_ => fun e_ => ((((Kd.R_apart' HO424.out (Kd.R_typed HO421.out) (by decide))).1 k_ e_.symm).2) hs_) (fun hn_ => (Kd.fresh' (Kd.R_lt (Kd.R_mv HO424.out)) k_ hn_)))) (hb) ?_;clear BK414 BK415 HO421 HO424 BK432 HB;intro BK414 BK415 HO421 HO424 BK432 HO430 HB;(try clear hb);(try clear hkp);(try clear ho0);(try clear hy0);refine hK.out _ _ ⟨(blk_cell BK414.out 0).trans rfl, (blk_cell BK414.out 1).trans rfl, (blk_cell BK414.out 2).trans rfl⟩ (fun hHeld => ?_);clear hK K;refine norm_ (a' := ?_) ?_ ?_;rotate_left
      ·show Act.put _ (some 19) _ = _
       simp only [Act.put, za_, zb_, zc_, i64_w, i32_w];rfl
      refine pA 6 (some 13) ?_ #[Y,Y,Y,Y,Y,Y,Y,Z,Z,Y,Z,Z] rfl rfl HT_ (by kernel_rfl) (fun _ _ _ h => h) (by rfl) ?_ ?_ ?_ ?_;rotate_left
      ·intro w';go_simp;with_reducible rfl
      rotate_left
      ·simp only [Act.put, za_, zb_, zc_, i64_w, i32_w];rfl
      refine pA 7 (some 20) ?_ #[Y,Y,Y,Y,Y,Y,Y,Y,Z,Y,Z,Z] rfl rfl HT_ (by kernel_rfl) (fun _ _ _ h => h) (by rfl) ?_ ?_ ?_ ?_;rotate_left
      ·intro w';go_simp;with_reducible rfl
      rotate_left
      ·simp only [Act.put, za_, zb_, zc_, i64_w, i32_w];rfl
      refine pA 8 (some 21) ?_ #[Y,Y,Y,Y,Y,Y,Y,Y,Y,Y,Z,Z] rfl rfl HT_ (by kernel_rfl) (fun _ _ _ h => h) (by rfl) ?_ ?_ ?_ ?_;rotate_left
      ·intro w';go_simp;with_reducible rfl
      rotate_left
      ·simp only [Act.put, za_, zb_, zc_, i64_w, i32_w];rfl
      exact norm_ (by simp only [putAll, Act.put, za_, zb_, zc_]) (hCont (.slice Ao17 t419.length co17, .slice Ao18 t422.length co18, v429, gb432) _ ⟨hHeld, (Kd.R_mv HO421.out), (Kd.R_mv HO424.out), (Kd.R_mv HO430.out), (km_ BK414), (km_ BK415), (km_ BK432), GW432.out, GE432.out, NB414_432.out, NB432_414.out, NB415_432.out, NB432_415.out, (bm HB)⟩)
    ·skip
     refine box_step ?hg (N := 6) ?hd (cs := #[.int .i64 0, .int .i64 0, .int .i64 0]) (t := 137) ?hr ?_; (case hd => rfl); (case hg => rfl); (case hr => first | (go_simp; done) | (go_simp; rfl));intro gb432 hg w15 hbox hb;refine ev11 (Kd.R_below (Kd.R_mv HO421.out) hb) (kb BK414 hb) (kb BK415 hb) (bs HB hb) (hbox) (gle hg HB) (gle hg HB) (gnf hg BK414) (gne hg BK414) (gnf hg BK415) (gne hg BK415) ?_;clear HO421 BK414 BK415 HB;intro HO421 BK414 BK415 HB BK432 GW432 GE432 NB414_432 NB432_414 NB415_432 NB432_415;clear hb hbox hg;refine hK.out _ _ ⟨(blk_cell BK414.out 0).trans rfl, (blk_cell BK414.out 1).trans rfl, (blk_cell BK414.out 2).trans rfl⟩ (fun hHeld => ?_);clear hK K;refine norm_ (a' := ?_) ?_ ?_;rotate_left
     ·show Act.put _ (some 6) _ = _
      simp only [Act.put, za_, zb_, zc_, i64_w, i32_w];rfl
     refine one_ (i := 3) (N := some 17) #[Y,Y,Y,Y,Y,Z,Z,Z,Z,Y,Z,Z] rfl rfl (one_of HT_.out (by kernel_rfl)) (by decide) (fun K hK => ?_);refine goes_ Try.func148 (by kernel_rfl) rfl #[.agg #[.int .i64 a0_0, .int .i64 a0_1, .slice A0_2 l0_2.length c0_2]] (by rfl) rfl rfl (by (try simp only [ma_, mb_, mc_]); first | done | rfl | (simp only [List.length_drop, List.length_take]; rfl)) ?_;with_reducible refine (impl_groupNumbers.calls k a0_0 a0_1 _ _ l0_2 t422 _ ?side1 ?side2 A6.out).mono ?_
     (case side1 => exact Kd.C_mv (Kd.C_below HR0_2.out HB.out))
     (case side2 => exact HC0_2.out)
     rintro e w16 ⟨v423, rfl, ho0, hb⟩;refine ⟨_, rfl, ?_⟩;refine ev6 (Kd.R_below (Kd.R_mv HO421.out) hb) (Kd.R_lower ho0 (below_size (bm HB))) (kb BK414 hb) (kb BK415 hb) (kb BK432 hb) (bs HB hb) ?_;clear HO421 BK414 BK415 BK432 HB;intro HO421 HO424 BK414 BK415 BK432 HB;(try clear hb);(try clear hb2);(try clear hk);(try clear hi);(try clear ho0);obtain ⟨Ao17, co17, eo17⟩ := Kd.R_slice HO421.out;(first | subst eo17 | (injection eo17 with f1_ f2_ f3_; have f4_ := f1_.symm; have f5_ := f3_.symm; clear f1_ f2_ f3_; subst f4_; subst f5_))
     obtain ⟨Ao18, co18, eo18⟩ := Kd.R_slice HO424.out;(first | subst eo18 | (injection eo18 with f1_ f2_ f3_; have f4_ := f1_.symm; have f5_ := f3_.symm; clear f1_ f2_ f3_; subst f4_; subst f5_))
     refine hK.out _ _ ⟨(blk_cell BK414.out 0).trans rfl, (blk_cell BK414.out 1).trans rfl, (blk_cell BK414.out 2).trans rfl⟩ (fun hHeld => ?_);clear hK K;refine norm_ (a' := ?_) ?_ ?_;rotate_left
     ·show Act.put _ (some 17) _ = _
      simp only [Act.put, za_, zb_, zc_, i64_w, i32_w];rfl
     refine one_ (i := 5) (N := some 19) #[Y,Y,Y,Y,Y,Y,Z,Z,Z,Y,Z,Z] rfl rfl (one_of HT_.out (by kernel_rfl)) (by decide) (fun K hK => ?_);refine goes_ Try.func151 (by kernel_rfl) rfl #[.agg #[.int .i64 t417, .int .i64 t418, .slice Ao17 t419.length co17], .slice Ao18 t422.length co18, .int .i64 a1] (by rfl) rfl rfl (by (try simp only [ma_, mb_, mc_]); first | done | rfl | (simp only [List.length_drop, List.length_take]; rfl)) ?_;with_reducible refine (impl_drop.calls k t417 t418 (fun k_ => some k_ = (.slice Ao17 t419.length co17 : Value).ownBlock) (.slice Ao17 t419.length co17) t419 _ _ t422 a1 t425 t426 t427 t428 t431 w _ ?side1 ?side2 ?side3 ?side4 A7.out).mono ?_
     (case side1 => exact bm HB)
     (case side2 => exact Kd.R_tight rfl HO421.out)
     (case side3 => exact Kd.C_kept_own ((Kd.R_apart' HO424.out (Kd.R_typed HO421.out) (by decide))) (fun k_ hk_ hs_ => (hk_.2) hs_))
     (case side4 => exact (Kd.R_reads' HO424.out).2.1)
     rintro e w19 ⟨v429, rfl, ho0, hy0, hb, hkp⟩;refine ⟨_, rfl, ?_⟩;refine ev7 (blk_kept (km_ BK414) hkp (fun hs_ => (fun e_ => (Kd.R_ne HO421.out BK414.out (by decide)) e_) hs_)) (blk_kept (km_ BK415) hkp (fun hs_ => (fun e_ => (Kd.R_ne HO421.out BK415.out (by decide)) e_) hs_)) (Kd.R_reok rfl hy0 (fun k_ e_ => HO421.out.1 k_ e_)) (blk_kept (km_ BK432) hkp (fun hs_ => (fun e_ => (Kd.R_ne HO421.out BK432.out (by decide)) e_) hs_)) (Kd.R_mono (ok' := fun k_ => some k_ ≠ (v429 : Value).ownBlock) (Kd.R_keptB ((Kd.R_apart' HO424.out (Kd.R_typed HO421.out) (by decide))) hkp (fun k_ hk_ hs_ => (hk_.2) hs_)) (fun k_ hk_ => fun e_ => Or.elim (ho0.1 k_ e_.symm) (fun hs_ => hk_.2.1 hs_) (fun hn_ => Nat.not_le.2 hk_.2.2 hn_))) (Kd.R_mono (ok' := fun k_ => some k_ ≠ (.slice Ao18 t422.length co18 : Value).ownBlock) ho0 (fun k_ hk_ => Or.elim hk_ (fun hs_ => fun e_ => ((((Kd.R_apart' HO424.out (Kd.R_typed HO421.out) (by decide))).1 k_ e_.symm).2) hs_) (fun hn_ => (Kd.fresh' (Kd.R_lt (Kd.R_mv HO424.out)) k_ hn_)))) (hb) ?_;clear BK414 BK415 HO421 BK432 HO424 HB;intro BK414 BK415 HO421 BK432 HO424 HO430 HB;(try clear hb);(try clear hkp);(try clear ho0);(try clear hy0);refine hK.out _ _ ⟨(blk_cell BK414.out 0).trans rfl, (blk_cell BK414.out 1).trans rfl, (blk_cell BK414.out 2).trans rfl⟩ (fun hHeld => ?_);clear hK K;refine norm_ (a' := ?_) ?_ ?_;rotate_left
     ·show Act.put _ (some 19) _ = _
      simp only [Act.put, za_, zb_, zc_, i64_w, i32_w];rfl
     refine pA 6 (some 13) ?_ #[Y,Y,Y,Y,Y,Y,Y,Z,Z,Y,Z,Z] rfl rfl HT_ (by kernel_rfl) (fun _ _ _ h => h) (by rfl) ?_ ?_ ?_ ?_;rotate_left
     ·intro w';go_simp;with_reducible rfl
     rotate_left
     ·simp only [Act.put, za_, zb_, zc_, i64_w, i32_w];rfl
     refine pA 7 (some 20) ?_ #[Y,Y,Y,Y,Y,Y,Y,Y,Z,Y,Z,Z] rfl rfl HT_ (by kernel_rfl) (fun _ _ _ h => h) (by rfl) ?_ ?_ ?_ ?_;rotate_left
     ·intro w';go_simp;with_reducible rfl
     rotate_left
     ·simp only [Act.put, za_, zb_, zc_, i64_w, i32_w];rfl
     refine pA 8 (some 21) ?_ #[Y,Y,Y,Y,Y,Y,Y,Y,Y,Y,Z,Z] rfl rfl HT_ (by kernel_rfl) (fun _ _ _ h => h) (by rfl) ?_ ?_ ?_ ?_;rotate_left
     ·intro w';go_simp;with_reducible rfl
     rotate_left
     ·simp only [Act.put, za_, zb_, zc_, i64_w, i32_w];rfl
     exact norm_ (by simp only [putAll, Act.put, za_, zb_, zc_]) (hCont (.slice Ao17 t419.length co17, .slice Ao18 t422.length co18, v429, gb432) _ ⟨hHeld, (Kd.R_mv HO421.out), (Kd.R_mv HO424.out), (Kd.R_mv HO430.out), (km_ BK414), (km_ BK415), (km_ BK432), GW432.out, GE432.out, NB414_432.out, NB432_414.out, NB415_432.out, NB432_415.out, (bm HB)⟩)
   ·skip
    refine box_step ?hg (N := 6) ?hd (cs := #[.int .i64 0, .int .i64 0, .int .i64 0]) (t := 137) ?hr ?_; (case hd => rfl); (case hg => rfl); (case hr => first | (go_simp; done) | (go_simp; rfl));intro gb432 hg w14 hbox hb;refine ev10 (kb BK414 hb) (kb BK415 hb) (bs HB hb) (hbox) (gle hg HB) (gle hg HB) (gnf hg BK414) (gne hg BK414) (gnf hg BK415) (gne hg BK415) ?_;clear BK414 BK415 HB;intro BK414 BK415 HB BK432 GW432 GE432 NB414_432 NB432_414 NB415_432 NB432_415;clear hb hbox hg;refine hK.out _ _ ⟨(blk_cell BK414.out 0).trans rfl, (blk_cell BK414.out 1).trans rfl, (blk_cell BK414.out 2).trans rfl⟩ (fun hHeld => ?_);clear hK K;refine norm_ (a' := ?_) ?_ ?_;rotate_left
    ·show Act.put _ (some 6) _ = _
     simp only [Act.put, za_, zb_, zc_, i64_w, i32_w];rfl
    refine one_ (i := 1) (N := some 15) #[Y,Y,Y,Z,Y,Z,Z,Z,Z,Y,Z,Z] rfl rfl (one_of HT_.out (by kernel_rfl)) (by decide) (fun K hK => ?_);refine goes_ Try.func80 (by kernel_rfl) rfl #[.agg #[.int .i64 a0_0, .int .i64 a0_1, .slice A0_2 l0_2.length c0_2]] (by rfl) rfl rfl (by (try simp only [ma_, mb_, mc_]); first | done | rfl | (simp only [List.length_drop, List.length_take]; rfl)) ?_;with_reducible refine (impl_copyBoard.calls a0_0 a0_1 _ _ l0_2 t417 t418 t419 _ ?side1 ?side2 A5.out).mono ?_
    (case side1 => exact Kd.C_mv (Kd.C_below HR0_2.out HB.out))
    (case side2 => exact HC0_2.out)
    rintro e w15 ⟨v420, rfl, ho0, hb⟩;refine ⟨_, rfl, ?_⟩;refine ev5 (Kd.R_lower ho0 (below_size (bm HB))) (kb BK414 hb) (kb BK415 hb) (kb BK432 hb) (bs HB hb) ?_;clear BK414 BK415 BK432 HB;intro HO421 BK414 BK415 BK432 HB;(try clear hb);(try clear hb2);(try clear hk);(try clear hi);(try clear ho0);refine hK.out _ _ ⟨(blk_cell BK414.out 0).trans rfl, (blk_cell BK414.out 1).trans rfl, (blk_cell BK414.out 2).trans rfl⟩ (fun hHeld => ?_);clear hK K;refine norm_ (a' := ?_) ?_ ?_;rotate_left
    ·show Act.put _ (some 15) _ = _
     simp only [Act.put, za_, zb_, zc_, i64_w, i32_w];rfl
    refine one_ (i := 3) (N := some 17) #[Y,Y,Y,Y,Y,Z,Z,Z,Z,Y,Z,Z] rfl rfl (one_of HT_.out (by kernel_rfl)) (by decide) (fun K hK => ?_);refine goes_ Try.func148 (by kernel_rfl) rfl #[.agg #[.int .i64 a0_0, .int .i64 a0_1, .slice A0_2 l0_2.length c0_2]] (by rfl) rfl rfl (by (try simp only [ma_, mb_, mc_]); first | done | rfl | (simp only [List.length_drop, List.length_take]; rfl)) ?_;with_reducible refine (impl_groupNumbers.calls k a0_0 a0_1 _ _ l0_2 t422 _ ?side1 ?side2 A6.out).mono ?_
    (case side1 => exact Kd.C_mv (Kd.C_below HR0_2.out HB.out))
    (case side2 => exact HC0_2.out)
    rintro e w16 ⟨v423, rfl, ho0, hb⟩;refine ⟨_, rfl, ?_⟩;refine ev6 (Kd.R_below (Kd.R_mv HO421.out) hb) (Kd.R_lower ho0 (below_size (bm HB))) (kb BK414 hb) (kb BK415 hb) (kb BK432 hb) (bs HB hb) ?_;clear HO421 BK414 BK415 BK432 HB;intro HO421 HO424 BK414 BK415 BK432 HB;(try clear hb);(try clear hb2);(try clear hk);(try clear hi);(try clear ho0);obtain ⟨Ao17, co17, eo17⟩ := Kd.R_slice HO421.out;(first | subst eo17 | (injection eo17 with f1_ f2_ f3_; have f4_ := f1_.symm; have f5_ := f3_.symm; clear f1_ f2_ f3_; subst f4_; subst f5_))
    obtain ⟨Ao18, co18, eo18⟩ := Kd.R_slice HO424.out;(first | subst eo18 | (injection eo18 with f1_ f2_ f3_; have f4_ := f1_.symm; have f5_ := f3_.symm; clear f1_ f2_ f3_; subst f4_; subst f5_))
    refine hK.out _ _ ⟨(blk_cell BK414.out 0).trans rfl, (blk_cell BK414.out 1).trans rfl, (blk_cell BK414.out 2).trans rfl⟩ (fun hHeld => ?_);clear hK K;refine norm_ (a' := ?_) ?_ ?_;rotate_left
    ·show Act.put _ (some 17) _ = _
     simp only [Act.put, za_, zb_, zc_, i64_w, i32_w];rfl
    refine one_ (i := 5) (N := some 19) #[Y,Y,Y,Y,Y,Y,Z,Z,Z,Y,Z,Z] rfl rfl (one_of HT_.out (by kernel_rfl)) (by decide) (fun K hK => ?_);refine goes_ Try.func151 (by kernel_rfl) rfl #[.agg #[.int .i64 t417, .int .i64 t418, .slice Ao17 t419.length co17], .slice Ao18 t422.length co18, .int .i64 a1] (by rfl) rfl rfl (by (try simp only [ma_, mb_, mc_]); first | done | rfl | (simp only [List.length_drop, List.length_take]; rfl)) ?_;with_reducible refine (impl_drop.calls k t417 t418 (fun k_ => some k_ = (.slice Ao17 t419.length co17 : Value).ownBlock) (.slice Ao17 t419.length co17) t419 _ _ t422 a1 t425 t426 t427 t428 t431 w _ ?side1 ?side2 ?side3 ?side4 A7.out).mono ?_
    (case side1 => exact bm HB)
    (case side2 => exact Kd.R_tight rfl HO421.out)
    (case side3 => exact Kd.C_kept_own ((Kd.R_apart' HO424.out (Kd.R_typed HO421.out) (by decide))) (fun k_ hk_ hs_ => (hk_.2) hs_))
    (case side4 => exact (Kd.R_reads' HO424.out).2.1)
    rintro e w19 ⟨v429, rfl, ho0, hy0, hb, hkp⟩;refine ⟨_, rfl, ?_⟩;refine ev7 (blk_kept (km_ BK414) hkp (fun hs_ => (fun e_ => (Kd.R_ne HO421.out BK414.out (by decide)) e_) hs_)) (blk_kept (km_ BK415) hkp (fun hs_ => (fun e_ => (Kd.R_ne HO421.out BK415.out (by decide)) e_) hs_)) (blk_kept (km_ BK432) hkp (fun hs_ => (fun e_ => (Kd.R_ne HO421.out BK432.out (by decide)) e_) hs_)) (Kd.R_reok rfl hy0 (fun k_ e_ => HO421.out.1 k_ e_)) (Kd.R_mono (ok' := fun k_ => some k_ ≠ (v429 : Value).ownBlock) (Kd.R_keptB ((Kd.R_apart' HO424.out (Kd.R_typed HO421.out) (by decide))) hkp (fun k_ hk_ hs_ => (hk_.2) hs_)) (fun k_ hk_ => fun e_ => Or.elim (ho0.1 k_ e_.symm) (fun hs_ => hk_.2.1 hs_) (fun hn_ => Nat.not_le.2 hk_.2.2 hn_))) (Kd.R_mono (ok' := fun k_ => some k_ ≠ (.slice Ao18 t422.length co18 : Value).ownBlock) ho0 (fun k_ hk_ => Or.elim hk_ (fun hs_ => fun e_ => ((((Kd.R_apart' HO424.out (Kd.R_typed HO421.out) (by decide))).1 k_ e_.symm).2) hs_) (fun hn_ => (Kd.fresh' (Kd.R_lt (Kd.R_mv HO424.out)) k_ hn_)))) (hb) ?_;clear BK414 BK415 BK432 HO421 HO424 HB;intro BK414 BK415 BK432 HO421 HO424 HO430 HB;(try clear hb);(try clear hkp);(try clear ho0);(try clear hy0);refine hK.out _ _ ⟨(blk_cell BK414.out 0).trans rfl, (blk_cell BK414.out 1).trans rfl, (blk_cell BK414.out 2).trans rfl⟩ (fun hHeld => ?_);clear hK K;refine norm_ (a' := ?_) ?_ ?_;rotate_left
    ·show Act.put _ (some 19) _ = _
     simp only [Act.put, za_, zb_, zc_, i64_w, i32_w];rfl
    refine pA 6 (some 13) ?_ #[Y,Y,Y,Y,Y,Y,Y,Z,Z,Y,Z,Z] rfl rfl HT_ (by kernel_rfl) (fun _ _ _ h => h) (by rfl) ?_ ?_ ?_ ?_;rotate_left
    ·intro w';go_simp;with_reducible rfl
    rotate_left
    ·simp only [Act.put, za_, zb_, zc_, i64_w, i32_w];rfl
    refine pA 7 (some 20) ?_ #[Y,Y,Y,Y,Y,Y,Y,Y,Z,Y,Z,Z] rfl rfl HT_ (by kernel_rfl) (fun _ _ _ h => h) (by rfl) ?_ ?_ ?_ ?_;rotate_left
    ·intro w';go_simp;with_reducible rfl
    rotate_left
    ·simp only [Act.put, za_, zb_, zc_, i64_w, i32_w];rfl
    refine pA 8 (some 21) ?_ #[Y,Y,Y,Y,Y,Y,Y,Y,Y,Y,Z,Z] rfl rfl HT_ (by kernel_rfl) (fun _ _ _ h => h) (by rfl) ?_ ?_ ?_ ?_;rotate_left
    ·intro w';go_simp;with_reducible rfl
    rotate_left
    ·simp only [Act.put, za_, zb_, zc_, i64_w, i32_w];rfl
    exact norm_ (by simp only [putAll, Act.put, za_, zb_, zc_]) (hCont (.slice Ao17 t419.length co17, .slice Ao18 t422.length co18, v429, gb432) _ ⟨hHeld, (Kd.R_mv HO421.out), (Kd.R_mv HO424.out), (Kd.R_mv HO430.out), (km_ BK414), (km_ BK415), (km_ BK432), GW432.out, GE432.out, NB414_432.out, NB432_414.out, NB415_432.out, NB432_415.out, (bm HB)⟩)
  rintro ⟨v420, v423, v429, gb432⟩ w20 ⟨hS_, h0_, h1_, h2_, h3_, h4_, h5_, h6_, h7_, h8_, h9_, h10_, h11_, h12_⟩;have n0_ : Aside0 (Kd.R k27 27 w20 w.heap.size (fun _ => True) v420 t431) := ⟨h0_⟩
  have n1_ : Aside0 (Kd.R (Kd.int .i64) 3 w20 w.heap.size (fun k_ => some k_ ≠ (v429 : Value).ownBlock) v423 t422) := ⟨h1_⟩
  have n2_ : Aside0 (Kd.R (Kd.int .i64) 3 w20 w.heap.size (fun k_ => some k_ ≠ (v423 : Value).ownBlock) v429 t428) := ⟨h2_⟩
  have n3_ : Aside0 (w20.heap[gb414]? = some (.cells #[.int .i64 a0_0, .int .i64 a0_1, .slice A0_2 l0_2.length c0_2] 25 (0, 0))) := ⟨h3_⟩
  have n4_ : Aside0 (w20.heap[gb415]? = some (.cells #[.int .i64 0, .int .i64 0, .int .i64 0] 137 (0, 0))) := ⟨h4_⟩
  have n5_ : Aside0 (w20.heap[gb432]? = some (.cells #[.int .i64 0, .int .i64 0, .int .i64 0] 137 (0, 0))) := ⟨h5_⟩
  have n6_ : Aside0 (w.heap.size ≤ gb432) := ⟨h6_⟩
  have n7_ : Aside0 (w.heap.size ≤ gb432) := ⟨h7_⟩
  have n8_ : Aside0 (gb414 ≠ gb432) := ⟨h8_⟩
  have n9_ : Aside0 (gb432 ≠ gb414) := ⟨h9_⟩
  have n10_ : Aside0 (gb415 ≠ gb432) := ⟨h10_⟩
  have n11_ : Aside0 (gb432 ≠ gb415) := ⟨h11_⟩
  have n12_ : Aside0 (Below w.heap.size w w20) := ⟨h12_⟩
  clear BK414;clear BK415;clear HB;clear h0_ h1_ h2_ h3_ h4_ h5_ h6_ h7_ h8_ h9_ h10_ h11_ h12_;have HO421 := n0_;have HO424 := n1_;have HO430 := n2_;have BK414 := n3_;have BK415 := n4_;have BK432 := n5_;have GW432 := n6_;have GE432 := n7_;have NB414_432 := n8_;have NB432_414 := n9_;have NB415_432 := n10_;have NB432_415 := n11_;have HB := n12_;clear n0_ n1_ n2_ n3_ n4_ n5_ n6_ n7_ n8_ n9_ n10_ n11_ n12_;have hHeld : w20.cell? ⟨gb414, 0, none⟩ = some (.int .i64 a0_0) ∧ w20.cell? ⟨gb414, 1, none⟩ = some (.int .i64 a0_1) ∧ w20.cell? ⟨gb414, 2, none⟩ = some (.slice A0_2 l0_2.length c0_2) := hS_;refine norm_ (a' := ?_) ?_ ?_;rotate_left
  ·simp only [putAll, Act.put, za_, zb_, zc_];rfl
  refine one_ (i := 10) (N := none) #[Y,Y,Y,Y,Y,Y,Y,Y,Y,Y,Y,Z] rfl rfl (one_of HT_.out (by kernel_rfl)) (by decide) (fun K hK => ?_);have hs21 : w20.cell? ⟨gb432, 0, none⟩ = some (.int .i64 0) := (blk_cell BK432.out 0).trans rfl;have hfs21 := blk_frozen BK432.out 0;have hns21_0 := NB414_432.out;have hns21_1 := NB415_432.out;have hms21_0 := NB432_414.out;have hms21_1 := NB432_415.out;have hs22 : w20.cell? ⟨gb432, 1, none⟩ = some (.int .i64 0) := (blk_cell BK432.out 1).trans rfl;have hfs22 := blk_frozen BK432.out 1;have hns22_0 := NB414_432.out;have hns22_1 := NB415_432.out;have hms22_0 := NB432_414.out;have hms22_1 := NB432_415.out;have hs23 : w20.cell? ⟨gb432, 2, none⟩ = some (.int .i64 0) := (blk_cell BK432.out 2).trans rfl;have hfs23 := blk_frozen BK432.out 2;have hns23_0 := NB414_432.out;have hns23_1 := NB415_432.out;have hms23_0 := NB432_414.out;have hms23_1 := NB432_415.out;refine skip_ (w1 := ?_) (by rfl) rfl ?_ ?_;rotate_left
  ·go_simp;rfl
  refine hK.out _ _ ⟨((cell_far (p := ⟨gb432, _, none⟩) NB414_432.out _).trans (((cell_far (p := ⟨gb432, _, none⟩) NB414_432.out _).trans (((cell_far (p := ⟨gb432, _, none⟩) NB414_432.out _).trans (hHeld.1)))))), ((cell_far (p := ⟨gb432, _, none⟩) NB414_432.out _).trans (((cell_far (p := ⟨gb432, _, none⟩) NB414_432.out _).trans (((cell_far (p := ⟨gb432, _, none⟩) NB414_432.out _).trans (hHeld.2.1)))))), ((cell_far (p := ⟨gb432, _, none⟩) NB414_432.out _).trans (((cell_far (p := ⟨gb432, _, none⟩) NB414_432.out _).trans (((cell_far (p := ⟨gb432, _, none⟩) NB414_432.out _).trans (hHeld.2.2))))))⟩ (fun hHeld => ?_);clear hK K;refine pA 11 (some 7) ?_ #[Y,Y,Y,Y,Y,Y,Y,Y,Y,Y,Y,Y] rfl rfl HT_ (by kernel_rfl) (fun _ _ _ h => h) (by rfl) ?_ ?_ ?_ ?_;rotate_left
  ·intro w';go_simp;with_reducible rfl
  rotate_left
  ·simp only [Act.put, za_, zb_, zc_, i64_w, i32_w];rfl
  refine done_ (done_of HT_.out (by kernel_rfl)) ?_;have hnb24 := NB432_414.out;have hnc24 := NB414_432.out;have hnb25 := NB432_415.out;have hnc25 := NB415_432.out;obtain ⟨hcz26_0, hcz26_1, hcz26_2, hfz26_0, hfz26_1, hfz26_2⟩ := bt3 BK432;obtain ⟨hcz27_0, hcz27_1, hcz27_2, hfz27_0, hfz27_1, hfz27_2⟩ := bt3 BK415;try go_wp2
  refine bodyPost_ret (results_ct rfl _ _ gb415 137 #[.int .i64 t425, .int .i64 t426, .int .i64 t427] (0, 0) _ rfl (fp BK415 rfl) Try.underlying137 rfl (by kernel_rfl)) rfl ?_;exact ⟨by first | rfl | (simp [e0_, e1_] <;> rfl) | (simp [*, e0_, e1_] <;> rfl), bm HB⟩
 ·replace c4 := Bool.eq_false_iff.mpr c4;subst c4;have H1 : (some (0, 0, 0, false)) = some (r1, r2, r3, r4) := by rw [if_neg (show ¬ (false = true) by decide)] at H; exact H
  clear H;have H := H1;clear H1;simp only [Option.some.injEq, Prod.mk.injEq] at H;obtain ⟨rfl, rfl, rfl, rfl⟩ := H;go_enter Try.func181, Try.ntmps181;go_wp2_with (first | ((with_reducible refine gate_dst (N := 2) rfl ?_); refine box_event ?hg (N := 2) ?hd (cs := #[.int .i64 a0_0, .int .i64 a0_1, .slice A0_2 l0_2.length c0_2]) (t := 25) ?hr ?_; (case hd => rfl); (case hg => rfl); (case hr => first | (go_simp; done) | (go_simp; rfl)); intro gb414 hg w28 hbox hb; refine ev4 (bs HB hb) (hbox) (gle hg HB) (gle hg HB) ?_; clear HB; intro HB BK414 GW414 GE414; clear hb hbox hg) | ((with_reducible refine gate_dst (N := 4) rfl ?_); refine box_event ?hg (N := 4) ?hd (cs := #[.int .i64 0, .int .i64 0, .int .i64 0]) (t := 137) ?hr ?_; (case hd => rfl); (case hg => rfl); (case hr => first | (go_simp; done) | (go_simp; rfl)); intro gb415 hg w29 hbox hb; refine ev7 (kb BK414 hb) (bs HB hb) (hbox) (gle hg HB) (gle hg HB) (gnf hg BK414) (gne hg BK414) ?_; clear BK414 HB; intro BK414 HB BK415 GW415 GE415 NB414_415 NB415_414; clear hb hbox hg; have hnb30 := NB414_415.out; have hnc30 := NB415_414.out; obtain ⟨hcz31_0, hcz31_1, hcz31_2, hfz31_0, hfz31_1, hfz31_2⟩ := bt3 BK414) | ((with_reducible refine gate_callee (f := 146) rfl ?_); refine goesL_ (some 10) rfl rfl Try.func146 (by kernel_rfl) rfl #[.agg #[.int .i64 a0_0, .int .i64 a0_1, .slice A0_2 l0_2.length c0_2], .int .i64 a1] rfl (by (try simp only [ma_, mb_, mc_]); first | done | rfl | (simp only [List.length_drop, List.length_take]; rfl)) ?_; (with_reducible refine (impl_validEntry.calls k a0_0 a0_1 _ _ l0_2 a1 false _ (Kd.C_mv (Kd.C_below HR0_2.out HB.out)) HC0_2.out A3.out).mono ?_); rintro e w32 ⟨rfl, hb⟩; refine ⟨_, rfl, ?_⟩; refine ev3 (kb BK414 hb) (kb BK415 hb) (bs HB hb) ?_; clear BK414 BK415 HB; intro BK414 BK415 HB; (try clear hb); (try clear hb2); (try clear hk); (try clear hi); obtain ⟨hcz33_0, hcz33_1, hcz33_2, hfz33_0, hfz33_1, hfz33_2⟩ := bt3 BK415))
  refine bodyPost_ret (results_ct rfl _ _ gb415 137 #[.int .i64 0, .int .i64 0, .int .i64 0] (0, 0) _ rfl (fp BK415 rfl) Try.underlying137 rfl (by kernel_rfl)) rfl ?_;exact ⟨by first | rfl | (simp [e0_, e1_] <;> rfl) | (simp [*, e0_, e1_] <;> rfl), bm HB⟩

/-! ### impl_valueOfEntry: function 163 -/
def impl_valueOfEntry.f (k : Nat) (a0_0 : Int) (a0_1 : Int) (l0_2 : List (S27)) (a1 : Int) (a2 : Int) : Option (Int) := (impl_FallOf.f k a0_0 a0_1 l0_2 a2).bind fun bt434 => (if bt434.1 = 1 then (if bt434.2.2.1 ≥ a1 then (some 1) else (some 0)) else (some (-1)))
theorem impl_valueOfEntry.calls (k : Nat) (a0_0 : Int) (a0_1 : Int) (A0_2 : Option Addr) (c0_2 : Nat) (l0_2 : List (S27)) (a1 : Int) (a2 : Int) (r : Int) (w : World) (hr0_2 : Kd.C k27 w A0_2 l0_2.length l0_2) (hc0_2 : l0_2.length ≤ c0_2) (h : impl_valueOfEntry.f k a0_0 a0_1 l0_2 a1 a2 = some r) :
  Calls Try.prog 163 #[.agg #[.int .i64 a0_0, .int .i64 a0_1, .slice A0_2 l0_2.length c0_2], .int .i64 a1, .int .i64 a2] w fun e w' => e = .returned (.int .i64 r) ∧ Below w.heap.size w w' := by
 have HR0_2 := Aside0.mk hr0_2;have HC0_2 := Aside0.mk hc0_2;clear hr0_2 hc0_2;have HB := Aside0.mk (Below.refl w.heap.size w);have H : ((impl_FallOf.f k a0_0 a0_1 l0_2 a2).bind fun bt434 => (if bt434.1 = 1 then (if bt434.2.2.1 ≥ a1 then (some 1) else (some 0)) else (some (-1)))) = some r := h;clear h;replace H := Option.bind_eq_some_iff.mp H;obtain ⟨⟨t434, t435, t436, t437⟩, A40, H⟩ := H;(try dsimp only at H)
 have A4 := Aside0.mk A40;clear A40;by_cases c5 : t434 = 1
 ·rw [if_pos c5] at H;have c5b0 : (t434 == 1) = true := beq_iff_eq.mpr c5;have c5b1 : (t434 != 1) = false := bne_eq_false_iff_eq.mpr c5;clear c5;by_cases c6 : t436 ≥ a1
  ·rw [if_pos c6] at H;have c6b0 : decide (a1 ≤ t436) = true := decide_eq_true c6;clear c6;obtain rfl := Option.some.inj H;go_enter Try.func163, Try.ntmps163;go_wp2_with (first | ((with_reducible refine gate_dst (N := 3) rfl ?_); refine box_event ?hg (N := 3) ?hd (cs := #[.int .i64 a0_0, .int .i64 a0_1, .slice A0_2 l0_2.length c0_2]) (t := 25) ?hr ?_; (case hd => rfl); (case hg => rfl); (case hr => first | (go_simp; done) | (go_simp; rfl)); intro gb433 hg w7 hbox hb; refine ev4 (bs HB hb) (hbox) (gle hg HB) (gle hg HB) ?_; clear HB; intro HB BK433 GW433 GE433; clear hb hbox hg; obtain ⟨hcz8_0, hcz8_1, hcz8_2, hfz8_0, hfz8_1, hfz8_2⟩ := bt3 BK433) | ((with_reducible refine gate_callee (f := 181) rfl ?_); refine goesL_ (some 12) rfl rfl Try.func181 (by kernel_rfl) rfl #[.agg #[.int .i64 a0_0, .int .i64 a0_1, .slice A0_2 l0_2.length c0_2], .int .i64 a2] rfl (by (try simp only [ma_, mb_, mc_]); first | done | rfl | (simp only [List.length_drop, List.length_take]; rfl)) ?_; (with_reducible refine (impl_FallOf.calls k a0_0 a0_1 _ _ l0_2 a2 t434 t435 t436 t437 _ (Kd.C_mv (Kd.C_below HR0_2.out HB.out)) HC0_2.out A4.out).mono ?_); rintro e w9 ⟨rfl, hb⟩; refine ⟨_, rfl, ?_⟩; refine ev2 (kb BK433 hb) (bs HB hb) ?_; clear BK433 HB; intro BK433 HB; (try clear hb); (try clear hb2); (try clear hk); (try clear hi)) | ((with_reducible refine gate_dst (N := 7) rfl ?_); refine box_event ?hg (N := 7) ?hd (cs := #[.int .i64 0, .int .i64 0, .int .i64 0]) (t := 137) ?hr ?_; (case hd => rfl); (case hg => rfl); (case hr => first | (go_simp; done) | (go_simp; rfl)); intro gb438 hg w10 hbox hb; refine ev7 (kb BK433 hb) (bs HB hb) (hbox) (gle hg HB) (gle hg HB) (gnf hg BK433) (gne hg BK433) ?_; clear BK433 HB; intro BK433 HB BK438 GW438 GE438 NB433_438 NB438_433; clear hb hbox hg; have hnb11 := NB438_433.out; have hnc11 := NB433_438.out; obtain ⟨hcz12_0, hcz12_1, hcz12_2, hfz12_0, hfz12_1, hfz12_2⟩ := bt3 BK438))
   go_ret;exact ⟨by first | rfl | (simp [e0_, e1_] <;> rfl) | (simp [*, e0_, e1_] <;> rfl), bm HB⟩
  ·rw [if_neg c6] at H;have c6b0 : decide (a1 ≤ t436) = false := decide_eq_false c6;clear c6;obtain rfl := Option.some.inj H;go_enter Try.func163, Try.ntmps163;go_wp2_with (first | ((with_reducible refine gate_dst (N := 3) rfl ?_); refine box_event ?hg (N := 3) ?hd (cs := #[.int .i64 a0_0, .int .i64 a0_1, .slice A0_2 l0_2.length c0_2]) (t := 25) ?hr ?_; (case hd => rfl); (case hg => rfl); (case hr => first | (go_simp; done) | (go_simp; rfl)); intro gb433 hg w13 hbox hb; refine ev4 (bs HB hb) (hbox) (gle hg HB) (gle hg HB) ?_; clear HB; intro HB BK433 GW433 GE433; clear hb hbox hg; obtain ⟨hcz14_0, hcz14_1, hcz14_2, hfz14_0, hfz14_1, hfz14_2⟩ := bt3 BK433) | ((with_reducible refine gate_callee (f := 181) rfl ?_); refine goesL_ (some 12) rfl rfl Try.func181 (by kernel_rfl) rfl #[.agg #[.int .i64 a0_0, .int .i64 a0_1, .slice A0_2 l0_2.length c0_2], .int .i64 a2] rfl (by (try simp only [ma_, mb_, mc_]); first | done | rfl | (simp only [List.length_drop, List.length_take]; rfl)) ?_; (with_reducible refine (impl_FallOf.calls k a0_0 a0_1 _ _ l0_2 a2 t434 t435 t436 t437 _ (Kd.C_mv (Kd.C_below HR0_2.out HB.out)) HC0_2.out A4.out).mono ?_); rintro e w15 ⟨rfl, hb⟩; refine ⟨_, rfl, ?_⟩; refine ev2 (kb BK433 hb) (bs HB hb) ?_; clear BK433 HB; intro BK433 HB; (try clear hb); (try clear hb2); (try clear hk); (try clear hi)) | ((with_reducible refine gate_dst (N := 7) rfl ?_); refine box_event ?hg (N := 7) ?hd (cs := #[.int .i64 0, .int .i64 0, .int .i64 0]) (t := 137) ?hr ?_; (case hd => rfl); (case hg => rfl); (case hr => first | (go_simp; done) | (go_simp; rfl)); intro gb438 hg w16 hbox hb; refine ev7 (kb BK433 hb) (bs HB hb) (hbox) (gle hg HB) (gle hg HB) (gnf hg BK433) (gne hg BK433) ?_; clear BK433 HB; intro BK433 HB BK438 GW438 GE438 NB433_438 NB438_433; clear hb hbox hg; have hnb17 := NB438_433.out; have hnc17 := NB433_438.out; obtain ⟨hcz18_0, hcz18_1, hcz18_2, hfz18_0, hfz18_1, hfz18_2⟩ := bt3 BK438))
   go_ret;exact ⟨by first | rfl | (simp [e0_, e1_] <;> rfl) | (simp [*, e0_, e1_] <;> rfl), bm HB⟩
 ·rw [if_neg c5] at H;have c5b0 : (t434 == 1) = false := beq_eq_false_iff_ne.mpr c5;have c5b1 : (t434 != 1) = true := bne_iff_ne.mpr c5;obtain rfl := Option.some.inj H;go_enter Try.func163, Try.ntmps163;go_wp2_with (first | ((with_reducible refine gate_dst (N := 3) rfl ?_); refine box_event ?hg (N := 3) ?hd (cs := #[.int .i64 a0_0, .int .i64 a0_1, .slice A0_2 l0_2.length c0_2]) (t := 25) ?hr ?_; (case hd => rfl); (case hg => rfl); (case hr => first | (go_simp; done) | (go_simp; rfl)); intro gb433 hg w19 hbox hb; refine ev4 (bs HB hb) (hbox) (gle hg HB) (gle hg HB) ?_; clear HB; intro HB BK433 GW433 GE433; clear hb hbox hg; obtain ⟨hcz20_0, hcz20_1, hcz20_2, hfz20_0, hfz20_1, hfz20_2⟩ := bt3 BK433) | ((with_reducible refine gate_callee (f := 181) rfl ?_); refine goesL_ (some 12) rfl rfl Try.func181 (by kernel_rfl) rfl #[.agg #[.int .i64 a0_0, .int .i64 a0_1, .slice A0_2 l0_2.length c0_2], .int .i64 a2] rfl (by (try simp only [ma_, mb_, mc_]); first | done | rfl | (simp only [List.length_drop, List.length_take]; rfl)) ?_; (with_reducible refine (impl_FallOf.calls k a0_0 a0_1 _ _ l0_2 a2 t434 t435 t436 t437 _ (Kd.C_mv (Kd.C_below HR0_2.out HB.out)) HC0_2.out A4.out).mono ?_); rintro e w21 ⟨rfl, hb⟩; refine ⟨_, rfl, ?_⟩; refine ev2 (kb BK433 hb) (bs HB hb) ?_; clear BK433 HB; intro BK433 HB; (try clear hb); (try clear hb2); (try clear hk); (try clear hi)) | ((with_reducible refine gate_dst (N := 7) rfl ?_); refine box_event ?hg (N := 7) ?hd (cs := #[.int .i64 0, .int .i64 0, .int .i64 0]) (t := 137) ?hr ?_; (case hd => rfl); (case hg => rfl); (case hr => first | (go_simp; done) | (go_simp; rfl)); intro gb438 hg w22 hbox hb; refine ev7 (kb BK433 hb) (bs HB hb) (hbox) (gle hg HB) (gle hg HB) (gnf hg BK433) (gne hg BK433) ?_; clear BK433 HB; intro BK433 HB BK438 GW438 GE438 NB433_438 NB438_433; clear hb hbox hg; have hnb23 := NB438_433.out; have hnc23 := NB433_438.out; obtain ⟨hcz24_0, hcz24_1, hcz24_2, hfz24_0, hfz24_1, hfz24_2⟩ := bt3 BK438))
  go_ret;exact ⟨by first | rfl | (simp [e0_, e1_] <;> rfl) | (simp [*, e0_, e1_] <;> rfl), bm HB⟩

/-! ### impl_entryValues: function 126 -/
def impl_entryValues.l0 : Nat → Int → List Int → Int → Int → Int → List (S27) → Option (List Int)
 | 0, _, _, _, _, _, _ => none
 | k + 1, x1, x5, x6, x440000, x440001, x440002 => if x6 < x440001 then ((impl_valueOfEntry.f k x440000 x440001 x440002 x1 x6).bind fun t443 => (if x5.length < 17592186044416 then (impl_entryValues.l0 k x1 (x5 ++ [t443]) (wrap64 (x6 + 1)) x440000 x440001 x440002) else (none))) else (some x5)
def impl_entryValues.f (k : Nat) (a0_0 : Int) (a0_1 : Int) (l0_2 : List (S27)) (a1 : Int) : Option (List Int) := impl_entryValues.l0 k a1 (([] : List Int)) 0 a0_0 a0_1 l0_2
theorem impl_entryValues.calls (k : Nat) (a0_0 : Int) (a0_1 : Int) (A0_2 : Option Addr) (c0_2 : Nat) (l0_2 : List (S27)) (a1 : Int) (r : List Int) (w : World) (hr0_2 : Kd.C k27 w A0_2 l0_2.length l0_2) (hc0_2 : l0_2.length ≤ c0_2) (h : impl_entryValues.f k a0_0 a0_1 l0_2 a1 = some r) :
  Calls Try.prog 126 #[.agg #[.int .i64 a0_0, .int .i64 a0_1, .slice A0_2 l0_2.length c0_2], .int .i64 a1] w fun e w' => ∃ v0_ : Value, e = .returned (v0_) ∧ Kd.R (Kd.int .i64) 3 w' w.heap.size (fun _ => True) v0_ r ∧ Below w.heap.size w w' := by
 have HR0_2 := Aside0.mk hr0_2;have HC0_2 := Aside0.mk hc0_2;clear hr0_2 hc0_2;have HB := Aside0.mk (Below.refl w.heap.size w);have H : (impl_entryValues.l0 k a1 (([] : List Int)) 0 a0_0 a0_1 l0_2) = some r := h;clear h;obtain ⟨y440, hy440⟩ : ∃ y_ : List Int, y_ = (([] : List Int)) := ⟨_, rfl⟩
 replace H : (impl_entryValues.l0 k a1 y440 0 a0_0 a0_1 l0_2) = some r := by first | (rw [hy440]; with_reducible exact H) | (have H2_ := (Option.bind_some _ _).symm.trans H; rw [hy440]; with_reducible exact H2_) | (have H2_ := (Option.bind_some _ _).symm.trans H; with_reducible exact H2_) | with_reducible exact H | (rw [hy440]; exact H) | exact H
 have Ny440 := Aside0.mk hy440;clear hy440;have H' := Aside0.mk H;clear H;go_enter Try.func126, Try.ntmps126;go_wp2_with (first | ((with_reducible refine gate_dst (N := 2) rfl ?_); refine box_event ?hg (N := 2) ?hd (cs := #[.int .i64 a0_0, .int .i64 a0_1, .slice A0_2 l0_2.length c0_2]) (t := 25) ?hr ?_; (case hd => rfl); (case hg => rfl); (case hr => first | (go_simp; done) | (go_simp; rfl)); intro gb439 hg w3 hbox hb; refine ev4 (bs HB hb) (hbox) (gle hg HB) (gle hg HB) ?_; clear HB; intro HB BK439 GW439 GE439; clear hb hbox hg) | ((with_reducible refine gate_dst (N := 7) rfl ?_); refine Kd.R_lit (Kd.int .i64) _ 3 ?hg (N := 7) ?hd (xs := ([] : List Int)) (inner := []) (ok := fun _ => True) (okp := fun _ => True) ?hr ?hp (fun _ hk => hk) trivial (Below.refl _ _) (Nat.le_refl _) (by simp) ?_; (case hd => rfl); (case hg => rfl); (case hr => first | (go_simp; done) | (go_simp; rfl)); (case hp => exact (Reps.none _ _)); intro v441 w4 ho5 hb hg_ hnew_; clear hg_ hnew_; (first | rw [← Ny440.out] at ho5 | (simp only [Int.reduceToNat] at ho5; rw [← Ny440.out] at ho5)); refine ev3 (Kd.R_lower ho5 (below_size (bm HB))) (kb BK439 hb) (bs HB hb) ?_; clear BK439 HB; intro HO442 BK439 HB; clear hb ho5))
 go_loopg [5, 6] k (fun kq v5 v6 w' => ∃ (x5_1 : List Int) (x6_1 : Int), v6 = .int .i64 x6_1 ∧ Aside0 (impl_entryValues.l0 kq a1 x5_1 x6_1 a0_0 a0_1 l0_2 = some r) ∧ Aside0 (kq ≤ k) ∧ Aside0 (Kd.R (Kd.int .i64) 3 w' w.heap.size (fun _ => True) v5 x5_1) ∧ Aside0 (w'.heap[gb439]? = some (.cells #[.int .i64 a0_0, .int .i64 a0_1, (.slice A0_2 l0_2.length c0_2)] 25 (0, 0))) ∧ Aside0 (Below w.heap.size w w'))
 case atStart => exact ⟨(y440), (0), (by first | rfl | (simp; done) | (simp [*]; done)), H', ⟨Nat.le_refl _⟩, ⟨Kd.R_mv HO442.out⟩, ⟨km_ BK439⟩, ⟨bm HB⟩⟩
 case round =>
  clear H';(try clear c1);(try clear p2);obtain ⟨x5_1, x6_1, rfl, HA, HK1, HO_5, BK439, HB⟩ := hrel;cases gk with
  | zero => exact absurd HA.out (by simp [impl_entryValues.l0])
  | succ k1 =>
   have H := HA.out;clear HA;simp only [impl_entryValues.l0] at H;by_cases c6 : x6_1 < a0_1
   ·rw [if_pos c6] at H;have c6b0 : decide (x6_1 < a0_1) = true := decide_eq_true c6;clear c6;replace H := Option.bind_eq_some_iff.mp H;obtain ⟨t443, A70, H⟩ := H;(try dsimp only at H)
    have A7 := Aside0.mk A70;clear A70;replace H := np_ H;obtain ⟨c8, H⟩ := H;have LMc8 := Aside0.mk c8;clear c8;obtain ⟨y444, hy444⟩ : ∃ y_ : List Int, y_ = (x5_1 ++ [t443]) := ⟨_, rfl⟩
    replace H : (impl_entryValues.l0 k1 a1 y444 (wrap64 (x6_1 + 1)) a0_0 a0_1 l0_2) = some r := by first | (rw [hy444]; with_reducible exact H) | (have H2_ := (Option.bind_some _ _).symm.trans H; rw [hy444]; with_reducible exact H2_) | (have H2_ := (Option.bind_some _ _).symm.trans H; with_reducible exact H2_) | with_reducible exact H | (rw [hy444]; exact H) | exact H
    have Ny444 := Aside0.mk hy444;clear hy444;have H' := Aside0.mk H;clear H;obtain ⟨hcz9_0, hcz9_1, hcz9_2, hfz9_0, hfz9_1, hfz9_2⟩ := bt3 BK439;go_wp2_with (first | ((with_reducible refine gate_callee (f := 163) rfl ?_); refine goesL_ (some 18) rfl rfl Try.func163 (by kernel_rfl) rfl #[.agg #[.int .i64 a0_0, .int .i64 a0_1, .slice A0_2 l0_2.length c0_2], .int .i64 a1, .int .i64 x6_1] rfl (by (try simp only [ma_, mb_, mc_]); first | done | rfl | (simp only [List.length_drop, List.length_take]; rfl)) ?_; (with_reducible refine (impl_valueOfEntry.calls k1 a0_0 a0_1 _ _ l0_2 a1 x6_1 t443 _ (Kd.C_mv (Kd.C_below HR0_2.out HB.out)) HC0_2.out A7.out).mono ?_); rintro e w10 ⟨rfl, hb⟩; refine ⟨_, rfl, ?_⟩; refine ev3 (Kd.R_below (Kd.R_mv HO_5.out) hb) (kb BK439 hb) (bs HB hb) ?_; clear HO_5 BK439 HB; intro HO_5 BK439 HB; (try clear hb); (try clear hb2); (try clear hk); (try clear hi)) | ((with_reducible refine gate_builtin (b := .append) (xs := #[.tmp 14, .tmp 19]) rfl ?_); at_builtin; refine Kd.R_append (Kd.int .i64) (w0 := w) w.heap.size rfl (.tmp 14) (.tmp 19) 35 3 (.int .i64 0) 8 rfl Try.underlying35 info3 rfl (by decide) (by omega) u5 x5_1 t443 [.int .i64 t443] (fun _ => True) (fun _ => False) rfl rfl ?aP (fun _ hk => hk.elim) ?aF ?aO ?aB ?aS ?aL ?_; (case aP => exact rfl); (case aB => exact (bm HB)); (case aF => exact (fun _ _ => trivial)); (case aO => exact (Kd.R_mv HO_5.out)); (case aS => exact (below_size (bm HB))); (case aL => have := LMc8.out; omega); intro v445 w11 ho hb hg hat; rw [← Ny444.out] at ho; refine ev3 (blk_grown (km_ BK439) hg (Kd.R_ne HO_5.out BK439.out (by decide))) (hb) (ho) ?_; clear BK439 HB HO_5; intro BK439 HB HO446; clear ho hb hg hat))
    go_roundg k1
    case measure => have := HK1.out; omega
    case rel => exact ⟨(y444), (wrap64 (x6_1 + 1)), (by first | rfl | (simp; done) | (simp [*]; done)), H', ⟨by have := HK1.out; omega⟩, ⟨Kd.R_mv HO446.out⟩, ⟨km_ BK439⟩, ⟨bm HB⟩⟩
   ·rw [if_neg c6] at H;have c6b0 : decide (x6_1 < a0_1) = false := decide_eq_false c6;clear c6;obtain rfl := Option.some.inj H;obtain ⟨hcz12_0, hcz12_1, hcz12_2, hfz12_0, hfz12_1, hfz12_2⟩ := bt3 BK439;go_wp2;go_ret;exact ⟨_, by first | rfl | (simp [e0_, e1_] <;> rfl) | (simp [*, e0_, e1_] <;> rfl), Kd.R_mv HO_5.out, bm HB⟩

/-! ### impl_WrongEntries: function 60 -/
def impl_WrongEntries.j0 : Nat → Int → Bool → Int → Int → List (S27) → Int → List Int → Option (List Int × Bool)
 | 0, _, _, _, _, _, _, _ => none
 | k + 1, x1, x24, x448000, x448001, x448002, x449000, x449001 => if x24 = true then (some (([] : List Int), false)) else ((impl_entryValues.f k x448000 x448001 x448002 x1).bind fun t451 => ((impl_wrongIndices.f k t451 x449000 x449001).bind fun t454 => (some (t454, true))))
def impl_WrongEntries.f (k : Nat) (a0_0 : Int) (a0_1 : Int) (l0_2 : List (S27)) (a1 : Int) (a2_0 : Int) (l2_1 : List Int) : Option (List Int × Bool) := (impl_readByEntries.f k a0_0 a0_1 l0_2 a1).bind fun t449 => (if t449 = true then ((impl_IsTable.f k a2_0 l2_1).bind fun t450 => (if t450 = true then (if 0 ≤ a2_0 then (impl_WrongEntries.j0 k a1 (a0_1 != (shl .i64 1 a2_0)) a0_0 a0_1 l0_2 a2_0 l2_1) else (none)) else (impl_WrongEntries.j0 k a1 true a0_0 a0_1 l0_2 a2_0 l2_1))) else (impl_WrongEntries.j0 k a1 true a0_0 a0_1 l0_2 a2_0 l2_1))
def impl_WrongEntries.T1 : Bool × List (List Nat × List Nat) := (true, [([], []), ([], []), ([0, 1], [0, 1]), ([2], [2]), ([3, 2], [3]), ([4], [4]), ([5, 4, 4], [4, 5]), ([6, 4], [4, 6]), ([4, 7], [4, 7]), ([8, 6], [8]), ([9], [9]), ([10, 9], [9, 10]), ([9], [9]), ([12, 9], [9, 12]), ([13, 9], [9, 13]), ([11, 14, 9], [9, 11, 14]), ([9, 15], [9, 15])])
def impl_WrongEntries.B1 : List Nat := [0, 0, 3, 7, 15, 31, 63, 127, 255, 511, 1023, 2047, 1023, 5119, 13311, 32767, 65535]
theorem impl_WrongEntries.tab1 : rtab .any (opsOf Try.f60 1) = impl_WrongEntries.T1 := by kernel_rfl
theorem impl_WrongEntries.bits1 : waitsOk impl_WrongEntries.T1.2 impl_WrongEntries.B1 = true := by kernel_rfl
theorem impl_WrongEntries.calls (k : Nat) (a0_0 : Int) (a0_1 : Int) (A0_2 : Option Addr) (c0_2 : Nat) (l0_2 : List (S27)) (a1 : Int) (a2_0 : Int) (A2_1 : Option Addr) (c2_1 : Nat) (l2_1 : List Int) (r1 : List Int) (r2 : Bool) (w : World) (hr0_2 : Kd.C k27 w A0_2 l0_2.length l0_2) (hc0_2 : l0_2.length ≤ c0_2) (hr2_1 : Kd.C (Kd.int .i64) w A2_1 l2_1.length l2_1) (hc2_1 : l2_1.length ≤ c2_1) (h : impl_WrongEntries.f k a0_0 a0_1 l0_2 a1 a2_0 l2_1 = some (r1, r2)) :
  Calls Try.prog 60 #[.agg #[.int .i64 a0_0, .int .i64 a0_1, .slice A0_2 l0_2.length c0_2], .int .i64 a1, .agg #[.int .i64 a2_0, .slice A2_1 l2_1.length c2_1]] w fun e w' => ∃ v0_ : Value, e = .returned (.tuple #[v0_, .bool r2]) ∧ Kd.R (Kd.int .i64) 3 w' w.heap.size (fun _ => True) v0_ r1 ∧ Below w.heap.size w w' := by
 have HR0_2 := Aside0.mk hr0_2;have HC0_2 := Aside0.mk hc0_2;clear hr0_2 hc0_2;have HR2_1 := Aside0.mk hr2_1;have HC2_1 := Aside0.mk hc2_1;clear hr2_1 hc2_1;have HB := Aside0.mk (Below.refl w.heap.size w);have H : ((impl_readByEntries.f k a0_0 a0_1 l0_2 a1).bind fun t449 => (if t449 = true then ((impl_IsTable.f k a2_0 l2_1).bind fun t450 => (if t450 = true then (if 0 ≤ a2_0 then (impl_WrongEntries.j0 k a1 (a0_1 != (shl .i64 1 a2_0)) a0_0 a0_1 l0_2 a2_0 l2_1) else (none)) else (impl_WrongEntries.j0 k a1 true a0_0 a0_1 l0_2 a2_0 l2_1))) else (impl_WrongEntries.j0 k a1 true a0_0 a0_1 l0_2 a2_0 l2_1))) = some (r1, r2) := h;clear h;have HC4 := Aside0.mk H;clear H;go_enter Try.func60, Try.ntmps60;go_upto_region 1 with (first | ((with_reducible refine gate_dst (N := 3) rfl ?_); refine box_event ?hg (N := 3) ?hd (cs := #[.int .i64 a0_0, .int .i64 a0_1, .slice A0_2 l0_2.length c0_2]) (t := 25) ?hr ?_; (case hd => rfl); (case hg => rfl); (case hr => first | (go_simp; done) | (go_simp; rfl)); intro gb447 hg w5 hbox hb; refine ev4 (bs HB hb) (hbox) (gle hg HB) (gle hg HB) ?_; clear HB; intro HB BK447 GW447 GE447; clear hb hbox hg) | ((with_reducible refine gate_dst (N := 5) rfl ?_); refine box_event ?hg (N := 5) ?hd (cs := #[.int .i64 a2_0, .slice A2_1 l2_1.length c2_1]) (t := 75) ?hr ?_; (case hd => rfl); (case hg => rfl); (case hr => first | (go_simp; done) | (go_simp; rfl)); intro gb448 hg w6 hbox hb; refine ev7 (kb BK447 hb) (bs HB hb) (hbox) (gle hg HB) (gle hg HB) (gnf hg BK447) (gne hg BK447) ?_; clear BK447 HB; intro BK447 HB BK448 GW448 GE448 NB447_448 NB448_447; clear hb hbox hg))
 (try simp only [Act.put, za_, zb_, zc_])
 go_cut [24] (fun v24 wc => ∃ (kq : Nat) (x24_3 : Bool), v24 = .bool x24_3 ∧ Aside0 (impl_WrongEntries.j0 kq a1 x24_3 a0_0 a0_1 l0_2 a2_0 l2_1 = some (r1, r2)) ∧ Aside0 (kq ≤ k) ∧ Aside0 (wc.heap[gb447]? = some (.cells #[.int .i64 a0_0, .int .i64 a0_1, (.slice A0_2 l0_2.length c0_2)] 25 (0, 0))) ∧ Aside0 (wc.heap[gb448]? = some (.cells #[.int .i64 a2_0, (.slice A2_1 l2_1.length c2_1)] 75 (0, 0))) ∧ Aside0 (Below w.heap.size w wc))
 case first =>
  have H := HC4.out;clear HC4;replace H := Option.bind_eq_some_iff.mp H;obtain ⟨t449, A70, H⟩ := H;(try dsimp only at H)
  have A7 := Aside0.mk A70;clear A70;by_cases c8 : t449 = true
  ·subst c8;have H1 : ((impl_IsTable.f k a2_0 l2_1).bind fun t450 => (if t450 = true then (if 0 ≤ a2_0 then (impl_WrongEntries.j0 k a1 (a0_1 != (shl .i64 1 a2_0)) a0_0 a0_1 l0_2 a2_0 l2_1) else (none)) else (impl_WrongEntries.j0 k a1 true a0_0 a0_1 l0_2 a2_0 l2_1))) = some (r1, r2) := by rw [if_pos rfl] at H; exact H
   clear H;have H := H1;clear H1;replace H := Option.bind_eq_some_iff.mp H;obtain ⟨t450, A90, H⟩ := H;(try dsimp only at H)
   have A9 := Aside0.mk A90;clear A90;by_cases c10 : t450 = true
   ·subst c10;have H1 : (if 0 ≤ a2_0 then (impl_WrongEntries.j0 k a1 (a0_1 != (shl .i64 1 a2_0)) a0_0 a0_1 l0_2 a2_0 l2_1) else (none)) = some (r1, r2) := by rw [if_pos rfl] at H; exact H
    clear H;have H := H1;clear H1;replace H := np_ H;obtain ⟨c11, H⟩ := H;have c11b0 := eq_true c11;have c11b1 : decide (0 ≤ a2_0) = true := decide_eq_true c11;clear c11;obtain ⟨ji12, hji12⟩ : ∃ j_ : Int, (shl .i64 1 a2_0) = j_ := ⟨_, rfl⟩
    replace H : (impl_WrongEntries.j0 k a1 (a0_1 != (ji12)) a0_0 a0_1 l0_2 a2_0 l2_1) = some (r1, r2) := by first | (rw [hji12] at H; exact H) | (simp only [hji12] at H ⊢; exact H)
    (try rw [hji12] at A7)
    (try rw [hji12] at A9)
    have hji12_ : (IntKind.i64.wrap (1 * 2 ^ min a2_0.toNat 64)) = ji12 := hji12;have hji12z : a2_0 ≤ 64 → (IntKind.i64.wrap (1 * 2 ^ a2_0.toNat)) = ji12 := shl_small hji12;have hji12u : (IntKind.i64.wrap (2 ^ min a2_0.toNat 64)) = ji12 := by have h_ := hji12_; rw [Int.one_mul] at h_; exact h_
    have hji12v : a2_0 ≤ 64 → (IntKind.i64.wrap (2 ^ a2_0.toNat)) = ji12 := fun hle_ => by have h_ := hji12z hle_; rw [Int.one_mul] at h_; exact h_
    have hji12y : (wrap64 (1 * 2 ^ min a2_0.toNat 64)) = ji12 := (i64_w _).symm.trans hji12_;have hji12x : a2_0 ≤ 64 → (wrap64 (1 * 2 ^ a2_0.toNat)) = ji12 := fun h_ => (i64_w _).symm.trans (hji12z h_);have H' := Aside0.mk H;clear H;try go_wp2
    refine ev3 (blk_drew BK447.out) (blk_drew BK448.out) (below_drew1 HB.out) ?_;clear BK447 BK448 HB;intro BK447 BK448 HB;refine start_ (n := 17) (S := fun w' => w'.cell? ⟨gb447, 0, none⟩ = some (.int .i64 a0_0) ∧ w'.cell? ⟨gb447, 1, none⟩ = some (.int .i64 a0_1) ∧ w'.cell? ⟨gb447, 2, none⟩ = some (.slice A0_2 l0_2.length c0_2) ∧ w'.cell? ⟨gb448, 0, none⟩ = some (.int .i64 a2_0) ∧ w'.cell? ⟨gb448, 1, none⟩ = some (.slice A2_1 l2_1.length c2_1)) (ds := []) #[Z,Z,Z,Z,Z,Z,Z,Z,Z,Z,Z,Z,Z,Z,Z,Z,Z] (by kernel_rfl) rfl rfl ⟨(blk_cell BK447.out 0).trans rfl, (blk_cell BK447.out 1).trans rfl, (blk_cell BK447.out 2).trans rfl, (blk_cell BK448.out 0).trans rfl, (blk_cell BK448.out 1).trans rfl⟩ (fun hHeld => ?_); refine with_tabW impl_WrongEntries.tab1 impl_WrongEntries.bits1 (fun HT_ HW_ => ?_);generalize w6.drew = w13 at BK447 BK448 HB hHeld ⊢
    refine pA 1 (some 9) ?_ #[Z,Y,Z,Z,Z,Z,Z,Z,Z,Z,Z,Z,Z,Z,Z,Z,Z] rfl rfl HT_ (by kernel_rfl) (fun _ _ _ h => h) (by rfl) ?_ ?_ ?_ ?_;rotate_left
    ·intro w';go_simp;with_reducible rfl
    rotate_left
    ·simp only [Act.put, za_, zb_, zc_, i64_w, i32_w];rfl
    refine tA 0 (some 8) ?_ #[Y,Y,Z,Z,Z,Z,Z,Z,Z,Z,Z,Z,Z,Z,Z,Z,Z] rfl rfl HT_ HW_ (by kernel_rfl) (fun _ _ _ h => h) (by rfl) ?_ hHeld ?_ ?_ ?_;rotate_left
    ·rintro w' ⟨s0, s1, s2, s3, s4⟩;go_simp;with_reducible rfl
    rotate_left
    ·simp only [Act.put, za_, zb_, zc_, i64_w, i32_w];rfl
    refine one_ (i := 2) (N := some 10) #[Y,Y,Y,Z,Z,Z,Z,Z,Z,Z,Z,Z,Z,Z,Z,Z,Z] rfl rfl (one_of HT_.out (by kernel_rfl)) (by decide) (fun K hK => ?_);refine goes_ Try.func123 (by kernel_rfl) rfl #[.agg #[.int .i64 a0_0, .int .i64 a0_1, .slice A0_2 l0_2.length c0_2], .int .i64 a1] (by rfl) rfl rfl (by (try simp only [ma_, mb_, mc_]); first | done | rfl | (simp only [List.length_drop, List.length_take]; rfl)) ?_;with_reducible refine (impl_readByEntries.calls k a0_0 a0_1 _ _ l0_2 a1 true _ ?side1 ?side2 A7.out).mono ?_
    (case side1 => exact Kd.C_mv (Kd.C_below HR0_2.out HB.out))
    (case side2 => exact HC0_2.out)
    rintro e w14 ⟨rfl, hb⟩;refine ⟨_, rfl, ?_⟩;refine ev3 (kb BK447 hb) (kb BK448 hb) (bs HB hb) ?_;clear BK447 BK448 HB;intro BK447 BK448 HB;(try clear hb);(try clear hb2);(try clear hk);(try clear hi);refine hK.out _ _ ⟨(blk_cell BK447.out 0).trans rfl, (blk_cell BK447.out 1).trans rfl, (blk_cell BK447.out 2).trans rfl, (blk_cell BK448.out 0).trans rfl, (blk_cell BK448.out 1).trans rfl⟩ (fun hHeld => ?_);clear hK K;refine norm_ (a' := ?_) ?_ ?_;rotate_left
    ·show Act.put _ (some 10) _ = _
     simp only [Act.put, za_, zb_, zc_, i64_w, i32_w];rfl
    refine pA 3 (some 11) ?_ #[Y,Y,Y,Y,Z,Z,Z,Z,Z,Z,Z,Z,Z,Z,Z,Z,Z] rfl rfl HT_ (by kernel_rfl) (fun _ _ _ h => h) (by rfl) ?_ ?_ ?_ ?_;rotate_left
    ·intro w';go_simp;with_reducible rfl
    rotate_left
    ·simp only [Act.put, za_, zb_, zc_, i64_w, i32_w];rfl
    refine pA 4 (some 12) ?_ #[Y,Y,Y,Y,Y,Z,Z,Z,Z,Z,Z,Z,Z,Z,Z,Z,Z] rfl rfl HT_ (by kernel_rfl) (fun _ _ _ h => h) (by rfl) ?_ ?_ ?_ ?_;rotate_left
    ·intro w';go_simp;with_reducible rfl
    rotate_left
    ·simp only [Act.put, za_, zb_, zc_, i64_w, i32_w];rfl
    refine tA 5 (some 13) ?_ #[Y,Y,Y,Y,Y,Y,Z,Z,Z,Z,Z,Z,Z,Z,Z,Z,Z] rfl rfl HT_ HW_ (by kernel_rfl) (fun _ _ _ h => h) (by rfl) ?_ hHeld ?_ ?_ ?_;rotate_left
    ·rintro w' ⟨s0, s1, s2, s3, s4⟩;go_simp;with_reducible rfl
    rotate_left
    ·simp only [Act.put, za_, zb_, zc_, i64_w, i32_w];rfl
    refine one_ (i := 6) (N := some 14) #[Y,Y,Y,Y,Y,Y,Y,Z,Z,Z,Z,Z,Z,Z,Z,Z,Z] rfl rfl (one_of HT_.out (by kernel_rfl)) (by decide) (fun K hK => ?_);refine goes_ Try.func124 (by kernel_rfl) rfl #[.agg #[.int .i64 a2_0, .slice A2_1 l2_1.length c2_1]] (by rfl) rfl rfl (by (try simp only [ma_, mb_, mc_]); first | done | rfl | (simp only [List.length_drop, List.length_take]; rfl)) ?_;with_reducible refine (impl_IsTable.calls k a2_0 _ _ l2_1 true _ ?side1 ?side2 A9.out).mono ?_
    (case side1 => exact Kd.C_mv (Kd.C_below HR2_1.out HB.out))
    (case side2 => exact HC2_1.out)
    rintro e w15 ⟨rfl, hb⟩;refine ⟨_, rfl, ?_⟩;refine ev3 (kb BK447 hb) (kb BK448 hb) (bs HB hb) ?_;clear BK447 BK448 HB;intro BK447 BK448 HB;(try clear hb);(try clear hb2);(try clear hk);(try clear hi);refine hK.out _ _ ⟨(blk_cell BK447.out 0).trans rfl, (blk_cell BK447.out 1).trans rfl, (blk_cell BK447.out 2).trans rfl, (blk_cell BK448.out 0).trans rfl, (blk_cell BK448.out 1).trans rfl⟩ (fun hHeld => ?_);clear hK K;refine norm_ (a' := ?_) ?_ ?_;rotate_left
    ·show Act.put _ (some 14) _ = _
     simp only [Act.put, za_, zb_, zc_, i64_w, i32_w];rfl
    refine pA 7 (some 15) ?_ #[Y,Y,Y,Y,Y,Y,Y,Y,Z,Z,Z,Z,Z,Z,Z,Z,Z] rfl rfl HT_ (by kernel_rfl) (fun _ _ _ h => h) (by rfl) ?_ ?_ ?_ ?_;rotate_left
    ·intro w';go_simp;with_reducible rfl
    rotate_left
    ·simp only [Act.put, za_, zb_, zc_, i64_w, i32_w];rfl
    refine pA 8 (some 16) ?_ #[Y,Y,Y,Y,Y,Y,Y,Y,Y,Z,Z,Z,Z,Z,Z,Z,Z] rfl rfl HT_ (by kernel_rfl) (fun _ _ _ h => h) (by rfl) ?_ ?_ ?_ ?_;rotate_left
    ·intro w';go_simp;with_reducible rfl
    rotate_left
    ·simp only [Act.put, za_, zb_, zc_, i64_w, i32_w];rfl
    refine pA 9 (some 17) ?_ #[Y,Y,Y,Y,Y,Y,Y,Y,Y,Y,Z,Z,Z,Z,Z,Z,Z] rfl rfl HT_ (by kernel_rfl) (fun _ _ _ h => h) (by rfl) ?_ ?_ ?_ ?_;rotate_left
    ·intro w';go_simp;with_reducible rfl
    rotate_left
    ·simp only [Act.put, za_, zb_, zc_, i64_w, i32_w];rfl
    refine pA 10 (some 18) ?_ #[Y,Y,Y,Y,Y,Y,Y,Y,Y,Y,Y,Z,Z,Z,Z,Z,Z] rfl rfl HT_ (by kernel_rfl) (fun _ _ _ h => h) (by rfl) ?_ ?_ ?_ ?_;rotate_left
    ·intro w';go_simp;with_reducible rfl
    rotate_left
    ·simp only [Act.put, za_, zb_, zc_, i64_w, i32_w];rfl
    refine pA 12 (some 20) ?_ #[Y,Y,Y,Y,Y,Y,Y,Y,Y,Y,Y,Z,Y,Z,Z,Z,Z] rfl rfl HT_ (by kernel_rfl) (fun _ _ _ h => h) (by rfl) ?_ ?_ ?_ ?_;rotate_left
    ·intro w';go_simp;with_reducible rfl
    rotate_left
    ·simp only [Act.put, za_, zb_, zc_, i64_w, i32_w];rfl
    refine tA 11 (some 19) ?_ #[Y,Y,Y,Y,Y,Y,Y,Y,Y,Y,Y,Y,Y,Z,Z,Z,Z] rfl rfl HT_ HW_ (by kernel_rfl) (fun _ _ _ h => h) (by rfl) ?_ hHeld ?_ ?_ ?_;rotate_left
    ·rintro w' ⟨s0, s1, s2, s3, s4⟩;go_simp;with_reducible rfl
    rotate_left
    ·simp only [Act.put, za_, zb_, zc_, i64_w, i32_w];rfl
    refine tA 13 (some 21) ?_ #[Y,Y,Y,Y,Y,Y,Y,Y,Y,Y,Y,Y,Y,Y,Z,Z,Z] rfl rfl HT_ HW_ (by kernel_rfl) (fun _ _ _ h => h) (by rfl) ?_ hHeld ?_ ?_ ?_;rotate_left
    ·rintro w' ⟨s0, s1, s2, s3, s4⟩;go_simp;with_reducible rfl
    rotate_left
    ·simp only [Act.put, za_, zb_, zc_, i64_w, i32_w];rfl
    refine pA 14 (some 22) ?_ #[Y,Y,Y,Y,Y,Y,Y,Y,Y,Y,Y,Y,Y,Y,Y,Z,Z] rfl rfl HT_ (by kernel_rfl) (fun _ _ _ h => h) (by rfl) ?_ ?_ ?_ ?_;rotate_left
    ·intro w';go_simp;with_reducible rfl
    rotate_left
    ·simp only [Act.put, za_, zb_, zc_, i64_w, i32_w];rfl
    refine pA 15 (some 23) ?_ #[Y,Y,Y,Y,Y,Y,Y,Y,Y,Y,Y,Y,Y,Y,Y,Y,Z] rfl rfl HT_ (by kernel_rfl) (fun _ _ _ h => h) (by rfl) ?_ ?_ ?_ ?_;rotate_left
    ·intro w';go_simp;with_reducible rfl
    rotate_left
    ·simp only [Act.put, za_, zb_, zc_, i64_w, i32_w];rfl
    refine pA 16 (some 24) ?_ #[Y,Y,Y,Y,Y,Y,Y,Y,Y,Y,Y,Y,Y,Y,Y,Y,Y] rfl rfl HT_ (by kernel_rfl) (fun _ _ _ h => h) (by rfl) ?_ ?_ ?_ ?_;rotate_left
    ·intro w';go_simp;with_reducible rfl
    rotate_left
    ·simp only [Act.put, za_, zb_, zc_, i64_w, i32_w];rfl
    refine done_ (done_of HT_.out (by kernel_rfl)) ?_;try go_wp2
    go_meet
    case rel => exact ⟨_, ((a0_1 != (ji12))), (by first | rfl | (simp; done) | (simp only [← hji12] <;> (first | rfl | simp)) | (simp [*]; done)), H', ⟨by first | omega | exact Nat.le_refl _⟩, ⟨km_ BK447⟩, ⟨km_ BK448⟩, ⟨bm HB⟩⟩
   ·replace c10 := Bool.eq_false_iff.mpr c10;subst c10;have H1 : (impl_WrongEntries.j0 k a1 true a0_0 a0_1 l0_2 a2_0 l2_1) = some (r1, r2) := by rw [if_neg (show ¬ (false = true) by decide)] at H; exact H
    clear H;have H := H1;clear H1;have H' := Aside0.mk H;clear H;try go_wp2
    refine ev3 (blk_drew BK447.out) (blk_drew BK448.out) (below_drew1 HB.out) ?_;clear BK447 BK448 HB;intro BK447 BK448 HB;refine start_ (n := 17) (S := fun w' => w'.cell? ⟨gb447, 0, none⟩ = some (.int .i64 a0_0) ∧ w'.cell? ⟨gb447, 1, none⟩ = some (.int .i64 a0_1) ∧ w'.cell? ⟨gb447, 2, none⟩ = some (.slice A0_2 l0_2.length c0_2) ∧ w'.cell? ⟨gb448, 0, none⟩ = some (.int .i64 a2_0) ∧ w'.cell? ⟨gb448, 1, none⟩ = some (.slice A2_1 l2_1.length c2_1)) (ds := []) #[Z,Z,Z,Z,Z,Z,Z,Z,Z,Z,Z,Z,Z,Z,Z,Z,Z] (by kernel_rfl) rfl rfl ⟨(blk_cell BK447.out 0).trans rfl, (blk_cell BK447.out 1).trans rfl, (blk_cell BK447.out 2).trans rfl, (blk_cell BK448.out 0).trans rfl, (blk_cell BK448.out 1).trans rfl⟩ (fun hHeld => ?_); refine with_tabW impl_WrongEntries.tab1 impl_WrongEntries.bits1 (fun HT_ HW_ => ?_);generalize w6.drew = w16 at BK447 BK448 HB hHeld ⊢
    refine pA 1 (some 9) ?_ #[Z,Y,Z,Z,Z,Z,Z,Z,Z,Z,Z,Z,Z,Z,Z,Z,Z] rfl rfl HT_ (by kernel_rfl) (fun _ _ _ h => h) (by rfl) ?_ ?_ ?_ ?_;rotate_left
    ·intro w';go_simp;with_reducible rfl
    rotate_left
    ·simp only [Act.put, za_, zb_, zc_, i64_w, i32_w];rfl
    refine tA 0 (some 8) ?_ #[Y,Y,Z,Z,Z,Z,Z,Z,Z,Z,Z,Z,Z,Z,Z,Z,Z] rfl rfl HT_ HW_ (by kernel_rfl) (fun _ _ _ h => h) (by rfl) ?_ hHeld ?_ ?_ ?_;rotate_left
    ·rintro w' ⟨s0, s1, s2, s3, s4⟩;go_simp;with_reducible rfl
    rotate_left
    ·simp only [Act.put, za_, zb_, zc_, i64_w, i32_w];rfl
    refine one_ (i := 2) (N := some 10) #[Y,Y,Y,Z,Z,Z,Z,Z,Z,Z,Z,Z,Z,Z,Z,Z,Z] rfl rfl (one_of HT_.out (by kernel_rfl)) (by decide) (fun K hK => ?_);refine goes_ Try.func123 (by kernel_rfl) rfl #[.agg #[.int .i64 a0_0, .int .i64 a0_1, .slice A0_2 l0_2.length c0_2], .int .i64 a1] (by rfl) rfl rfl (by (try simp only [ma_, mb_, mc_]); first | done | rfl | (simp only [List.length_drop, List.length_take]; rfl)) ?_;with_reducible refine (impl_readByEntries.calls k a0_0 a0_1 _ _ l0_2 a1 true _ ?side1 ?side2 A7.out).mono ?_
    (case side1 => exact Kd.C_mv (Kd.C_below HR0_2.out HB.out))
    (case side2 => exact HC0_2.out)
    rintro e w17 ⟨rfl, hb⟩;refine ⟨_, rfl, ?_⟩;refine ev3 (kb BK447 hb) (kb BK448 hb) (bs HB hb) ?_;clear BK447 BK448 HB;intro BK447 BK448 HB;(try clear hb);(try clear hb2);(try clear hk);(try clear hi);refine hK.out _ _ ⟨(blk_cell BK447.out 0).trans rfl, (blk_cell BK447.out 1).trans rfl, (blk_cell BK447.out 2).trans rfl, (blk_cell BK448.out 0).trans rfl, (blk_cell BK448.out 1).trans rfl⟩ (fun hHeld => ?_);clear hK K;refine norm_ (a' := ?_) ?_ ?_;rotate_left
    ·show Act.put _ (some 10) _ = _
     simp only [Act.put, za_, zb_, zc_, i64_w, i32_w];rfl
    refine pA 3 (some 11) ?_ #[Y,Y,Y,Y,Z,Z,Z,Z,Z,Z,Z,Z,Z,Z,Z,Z,Z] rfl rfl HT_ (by kernel_rfl) (fun _ _ _ h => h) (by rfl) ?_ ?_ ?_ ?_;rotate_left
    ·intro w';go_simp;with_reducible rfl
    rotate_left
    ·simp only [Act.put, za_, zb_, zc_, i64_w, i32_w];rfl
    refine pA 4 (some 12) ?_ #[Y,Y,Y,Y,Y,Z,Z,Z,Z,Z,Z,Z,Z,Z,Z,Z,Z] rfl rfl HT_ (by kernel_rfl) (fun _ _ _ h => h) (by rfl) ?_ ?_ ?_ ?_;rotate_left
    ·intro w';go_simp;with_reducible rfl
    rotate_left
    ·simp only [Act.put, za_, zb_, zc_, i64_w, i32_w];rfl
    refine tA 5 (some 13) ?_ #[Y,Y,Y,Y,Y,Y,Z,Z,Z,Z,Z,Z,Z,Z,Z,Z,Z] rfl rfl HT_ HW_ (by kernel_rfl) (fun _ _ _ h => h) (by rfl) ?_ hHeld ?_ ?_ ?_;rotate_left
    ·rintro w' ⟨s0, s1, s2, s3, s4⟩;go_simp;with_reducible rfl
    rotate_left
    ·simp only [Act.put, za_, zb_, zc_, i64_w, i32_w];rfl
    refine one_ (i := 6) (N := some 14) #[Y,Y,Y,Y,Y,Y,Y,Z,Z,Z,Z,Z,Z,Z,Z,Z,Z] rfl rfl (one_of HT_.out (by kernel_rfl)) (by decide) (fun K hK => ?_);refine goes_ Try.func124 (by kernel_rfl) rfl #[.agg #[.int .i64 a2_0, .slice A2_1 l2_1.length c2_1]] (by rfl) rfl rfl (by (try simp only [ma_, mb_, mc_]); first | done | rfl | (simp only [List.length_drop, List.length_take]; rfl)) ?_;with_reducible refine (impl_IsTable.calls k a2_0 _ _ l2_1 false _ ?side1 ?side2 A9.out).mono ?_
    (case side1 => exact Kd.C_mv (Kd.C_below HR2_1.out HB.out))
    (case side2 => exact HC2_1.out)
    rintro e w18 ⟨rfl, hb⟩;refine ⟨_, rfl, ?_⟩;refine ev3 (kb BK447 hb) (kb BK448 hb) (bs HB hb) ?_;clear BK447 BK448 HB;intro BK447 BK448 HB;(try clear hb);(try clear hb2);(try clear hk);(try clear hi);refine hK.out _ _ ⟨(blk_cell BK447.out 0).trans rfl, (blk_cell BK447.out 1).trans rfl, (blk_cell BK447.out 2).trans rfl, (blk_cell BK448.out 0).trans rfl, (blk_cell BK448.out 1).trans rfl⟩ (fun hHeld => ?_);clear hK K;refine norm_ (a' := ?_) ?_ ?_;rotate_left
    ·show Act.put _ (some 14) _ = _
     simp only [Act.put, za_, zb_, zc_, i64_w, i32_w];rfl
    refine pA 7 (some 15) ?_ #[Y,Y,Y,Y,Y,Y,Y,Y,Z,Z,Z,Z,Z,Z,Z,Z,Z] rfl rfl HT_ (by kernel_rfl) (fun _ _ _ h => h) (by rfl) ?_ ?_ ?_ ?_;rotate_left
    ·intro w';go_simp;with_reducible rfl
    rotate_left
    ·simp only [Act.put, za_, zb_, zc_, i64_w, i32_w];rfl
    refine pA 8 (some 16) ?_ #[Y,Y,Y,Y,Y,Y,Y,Y,Y,Z,Z,Z,Z,Z,Z,Z,Z] rfl rfl HT_ (by kernel_rfl) (fun _ _ _ h => h) (by rfl) ?_ ?_ ?_ ?_;rotate_left
    ·intro w';go_simp;with_reducible rfl
    rotate_left
    ·simp only [Act.put, za_, zb_, zc_, i64_w, i32_w];rfl
    refine pA 9 (some 17) ?_ #[Y,Y,Y,Y,Y,Y,Y,Y,Y,Y,Z,Z,Z,Z,Z,Z,Z] rfl rfl HT_ (by kernel_rfl) (fun _ _ _ h => h) (by rfl) ?_ ?_ ?_ ?_;rotate_left
    ·intro w';go_simp;with_reducible rfl
    rotate_left
    ·simp only [Act.put, za_, zb_, zc_, i64_w, i32_w];rfl
    refine pure_ (i := 10) (N := some 18) (v := undef) (a' := ?_) #[Y,Y,Y,Y,Y,Y,Y,Y,Y,Y,Y,Z,Z,Z,Z,Z,Z] rfl rfl (any_of HT_.out (by kernel_rfl)) (fun _ _ _ h => h) (Or.inr ⟨by rfl, rfl⟩) ?_ ?_;rotate_left
    ·simp only [Act.put, za_, zb_, zc_, i64_w, i32_w];rfl
    refine pure_ (i := 11) (N := some 19) (v := undef) (a' := ?_) #[Y,Y,Y,Y,Y,Y,Y,Y,Y,Y,Y,Y,Z,Z,Z,Z,Z] rfl rfl (any_of HT_.out (by kernel_rfl)) (fun _ _ _ h => h) (Or.inr ⟨by rfl, rfl⟩) ?_ ?_;rotate_left
    ·simp only [Act.put, za_, zb_, zc_, i64_w, i32_w];rfl
    refine pure_ (i := 12) (N := some 20) (v := undef) (a' := ?_) #[Y,Y,Y,Y,Y,Y,Y,Y,Y,Y,Y,Y,Y,Z,Z,Z,Z] rfl rfl (any_of HT_.out (by kernel_rfl)) (fun _ _ _ h => h) (Or.inr ⟨by rfl, rfl⟩) ?_ ?_;rotate_left
    ·simp only [Act.put, za_, zb_, zc_, i64_w, i32_w];rfl
    refine pure_ (i := 13) (N := some 21) (v := undef) (a' := ?_) #[Y,Y,Y,Y,Y,Y,Y,Y,Y,Y,Y,Y,Y,Y,Z,Z,Z] rfl rfl (any_of HT_.out (by kernel_rfl)) (fun _ _ _ h => h) (Or.inr ⟨by rfl, rfl⟩) ?_ ?_;rotate_left
    ·simp only [Act.put, za_, zb_, zc_, i64_w, i32_w];rfl
    refine pure_ (i := 14) (N := some 22) (v := undef) (a' := ?_) #[Y,Y,Y,Y,Y,Y,Y,Y,Y,Y,Y,Y,Y,Y,Y,Z,Z] rfl rfl (any_of HT_.out (by kernel_rfl)) (fun _ _ _ h => h) (Or.inr ⟨by rfl, rfl⟩) ?_ ?_;rotate_left
    ·simp only [Act.put, za_, zb_, zc_, i64_w, i32_w];rfl
    refine pure_ (i := 15) (N := some 23) (v := undef) (a' := ?_) #[Y,Y,Y,Y,Y,Y,Y,Y,Y,Y,Y,Y,Y,Y,Y,Y,Z] rfl rfl (any_of HT_.out (by kernel_rfl)) (fun _ _ _ h => h) (Or.inr ⟨by rfl, rfl⟩) ?_ ?_;rotate_left
    ·simp only [Act.put, za_, zb_, zc_, i64_w, i32_w];rfl
    refine pA 16 (some 24) ?_ #[Y,Y,Y,Y,Y,Y,Y,Y,Y,Y,Y,Y,Y,Y,Y,Y,Y] rfl rfl HT_ (by kernel_rfl) (fun _ _ _ h => h) (by rfl) ?_ ?_ ?_ ?_;rotate_left
    ·intro w';go_simp;with_reducible rfl
    rotate_left
    ·simp only [Act.put, za_, zb_, zc_, i64_w, i32_w];rfl
    refine done_ (done_of HT_.out (by kernel_rfl)) ?_;try go_wp2
    go_meet
    case rel => exact ⟨_, (true), (by first | rfl | (simp; done) | (simp [*]; done)), H', ⟨by first | omega | exact Nat.le_refl _⟩, ⟨km_ BK447⟩, ⟨km_ BK448⟩, ⟨bm HB⟩⟩
  ·replace c8 := Bool.eq_false_iff.mpr c8;subst c8;have H1 : (impl_WrongEntries.j0 k a1 true a0_0 a0_1 l0_2 a2_0 l2_1) = some (r1, r2) := by rw [if_neg (show ¬ (false = true) by decide)] at H; exact H
   clear H;have H := H1;clear H1;have H' := Aside0.mk H;clear H;try go_wp2
   refine ev3 (blk_drew BK447.out) (blk_drew BK448.out) (below_drew1 HB.out) ?_;clear BK447 BK448 HB;intro BK447 BK448 HB;refine start_ (n := 17) (S := fun w' => w'.cell? ⟨gb447, 0, none⟩ = some (.int .i64 a0_0) ∧ w'.cell? ⟨gb447, 1, none⟩ = some (.int .i64 a0_1) ∧ w'.cell? ⟨gb447, 2, none⟩ = some (.slice A0_2 l0_2.length c0_2)) (ds := []) #[Z,Z,Z,Z,Z,Z,Z,Z,Z,Z,Z,Z,Z,Z,Z,Z,Z] (by kernel_rfl) rfl rfl ⟨(blk_cell BK447.out 0).trans rfl, (blk_cell BK447.out 1).trans rfl, (blk_cell BK447.out 2).trans rfl⟩ (fun hHeld => ?_); refine with_tabW impl_WrongEntries.tab1 impl_WrongEntries.bits1 (fun HT_ HW_ => ?_);generalize w6.drew = w19 at BK447 BK448 HB hHeld ⊢
   refine pA 1 (some 9) ?_ #[Z,Y,Z,Z,Z,Z,Z,Z,Z,Z,Z,Z,Z,Z,Z,Z,Z] rfl rfl HT_ (by kernel_rfl) (fun _ _ _ h => h) (by rfl) ?_ ?_ ?_ ?_;rotate_left
   ·intro w';go_simp;with_reducible rfl
   rotate_left
   ·simp only [Act.put, za_, zb_, zc_, i64_w, i32_w];rfl
   refine tA 0 (some 8) ?_ #[Y,Y,Z,Z,Z,Z,Z,Z,Z,Z,Z,Z,Z,Z,Z,Z,Z] rfl rfl HT_ HW_ (by kernel_rfl) (fun _ _ _ h => h) (by rfl) ?_ hHeld ?_ ?_ ?_;rotate_left
   ·rintro w' ⟨s0, s1, s2⟩;go_simp;with_reducible rfl
   rotate_left
   ·simp only [Act.put, za_, zb_, zc_, i64_w, i32_w];rfl
   refine one_ (i := 2) (N := some 10) #[Y,Y,Y,Z,Z,Z,Z,Z,Z,Z,Z,Z,Z,Z,Z,Z,Z] rfl rfl (one_of HT_.out (by kernel_rfl)) (by decide) (fun K hK => ?_);refine goes_ Try.func123 (by kernel_rfl) rfl #[.agg #[.int .i64 a0_0, .int .i64 a0_1, .slice A0_2 l0_2.length c0_2], .int .i64 a1] (by rfl) rfl rfl (by (try simp only [ma_, mb_, mc_]); first | done | rfl | (simp only [List.length_drop, List.length_take]; rfl)) ?_;with_reducible refine (impl_readByEntries.calls k a0_0 a0_1 _ _ l0_2 a1 false _ ?side1 ?side2 A7.out).mono ?_
   (case side1 => exact Kd.C_mv (Kd.C_below HR0_2.out HB.out))
   (case side2 => exact HC0_2.out)
   rintro e w20 ⟨rfl, hb⟩;refine ⟨_, rfl, ?_⟩;refine ev3 (kb BK447 hb) (kb BK448 hb) (bs HB hb) ?_;clear BK447 BK448 HB;intro BK447 BK448 HB;(try clear hb);(try clear hb2);(try clear hk);(try clear hi);refine hK.out _ _ ⟨(blk_cell BK447.out 0).trans rfl, (blk_cell BK447.out 1).trans rfl, (blk_cell BK447.out 2).trans rfl⟩ (fun hHeld => ?_);clear hK K;refine norm_ (a' := ?_) ?_ ?_;rotate_left
   ·show Act.put _ (some 10) _ = _
    simp only [Act.put, za_, zb_, zc_, i64_w, i32_w];rfl
   refine pA 3 (some 11) ?_ #[Y,Y,Y,Y,Z,Z,Z,Z,Z,Z,Z,Z,Z,Z,Z,Z,Z] rfl rfl HT_ (by kernel_rfl) (fun _ _ _ h => h) (by rfl) ?_ ?_ ?_ ?_;rotate_left
   ·intro w';go_simp;with_reducible rfl
   rotate_left
   ·simp only [Act.put, za_, zb_, zc_, i64_w, i32_w];rfl
   refine pA 4 (some 12) ?_ #[Y,Y,Y,Y,Y,Z,Z,Z,Z,Z,Z,Z,Z,Z,Z,Z,Z] rfl rfl HT_ (by kernel_rfl) (fun _ _ _ h => h) (by rfl) ?_ ?_ ?_ ?_;rotate_left
   ·intro w';go_simp;with_reducible rfl
   rotate_left
   ·simp only [Act.put, za_, zb_, zc_, i64_w, i32_w];rfl
   refine pure_ (i := 5) (N := some 13) (v := undef) (a' := ?_) #[Y,Y,Y,Y,Y,Y,Z,Z,Z,Z,Z,Z,Z,Z,Z,Z,Z] rfl rfl (any_of HT_.out (by kernel_rfl)) (fun _ _ _ h => h) (Or.inr ⟨by rfl, rfl⟩) ?_ ?_;rotate_left
   ·simp only [Act.put, za_, zb_, zc_, i64_w, i32_w];rfl
   refine pure_ (i := 6) (N := some 14) (v := undef) (a' := ?_) #[Y,Y,Y,Y,Y,Y,Y,Z,Z,Z,Z,Z,Z,Z,Z,Z,Z] rfl rfl (any_of HT_.out (by kernel_rfl)) (fun _ _ _ h => h) (Or.inr ⟨by rfl, rfl⟩) ?_ ?_;rotate_left
   ·simp only [Act.put, za_, zb_, zc_, i64_w, i32_w];rfl
   refine pure_ (i := 7) (N := some 15) (v := undef) (a' := ?_) #[Y,Y,Y,Y,Y,Y,Y,Y,Z,Z,Z,Z,Z,Z,Z,Z,Z] rfl rfl (any_of HT_.out (by kernel_rfl)) (fun _ _ _ h => h) (Or.inr ⟨by rfl, rfl⟩) ?_ ?_;rotate_left
   ·simp only [Act.put, za_, zb_, zc_, i64_w, i32_w];rfl
   refine pA 8 (some 16) ?_ #[Y,Y,Y,Y,Y,Y,Y,Y,Y,Z,Z,Z,Z,Z,Z,Z,Z] rfl rfl HT_ (by kernel_rfl) (fun _ _ _ h => h) (by rfl) ?_ ?_ ?_ ?_;rotate_left
   ·intro w';go_simp;with_reducible rfl
   rotate_left
   ·simp only [Act.put, za_, zb_, zc_, i64_w, i32_w];rfl
   refine pA 9 (some 17) ?_ #[Y,Y,Y,Y,Y,Y,Y,Y,Y,Y,Z,Z,Z,Z,Z,Z,Z] rfl rfl HT_ (by kernel_rfl) (fun _ _ _ h => h) (by rfl) ?_ ?_ ?_ ?_;rotate_left
   ·intro w';go_simp;with_reducible rfl
   rotate_left
   ·simp only [Act.put, za_, zb_, zc_, i64_w, i32_w];rfl
   refine pure_ (i := 10) (N := some 18) (v := undef) (a' := ?_) #[Y,Y,Y,Y,Y,Y,Y,Y,Y,Y,Y,Z,Z,Z,Z,Z,Z] rfl rfl (any_of HT_.out (by kernel_rfl)) (fun _ _ _ h => h) (Or.inr ⟨by rfl, rfl⟩) ?_ ?_;rotate_left
   ·simp only [Act.put, za_, zb_, zc_, i64_w, i32_w];rfl
   refine pure_ (i := 11) (N := some 19) (v := undef) (a' := ?_) #[Y,Y,Y,Y,Y,Y,Y,Y,Y,Y,Y,Y,Z,Z,Z,Z,Z] rfl rfl (any_of HT_.out (by kernel_rfl)) (fun _ _ _ h => h) (Or.inr ⟨by rfl, rfl⟩) ?_ ?_;rotate_left
   ·simp only [Act.put, za_, zb_, zc_, i64_w, i32_w];rfl
   refine pure_ (i := 12) (N := some 20) (v := undef) (a' := ?_) #[Y,Y,Y,Y,Y,Y,Y,Y,Y,Y,Y,Y,Y,Z,Z,Z,Z] rfl rfl (any_of HT_.out (by kernel_rfl)) (fun _ _ _ h => h) (Or.inr ⟨by rfl, rfl⟩) ?_ ?_;rotate_left
   ·simp only [Act.put, za_, zb_, zc_, i64_w, i32_w];rfl
   refine pure_ (i := 13) (N := some 21) (v := undef) (a' := ?_) #[Y,Y,Y,Y,Y,Y,Y,Y,Y,Y,Y,Y,Y,Y,Z,Z,Z] rfl rfl (any_of HT_.out (by kernel_rfl)) (fun _ _ _ h => h) (Or.inr ⟨by rfl, rfl⟩) ?_ ?_;rotate_left
   ·simp only [Act.put, za_, zb_, zc_, i64_w, i32_w];rfl
   refine pure_ (i := 14) (N := some 22) (v := undef) (a' := ?_) #[Y,Y,Y,Y,Y,Y,Y,Y,Y,Y,Y,Y,Y,Y,Y,Z,Z] rfl rfl (any_of HT_.out (by kernel_rfl)) (fun _ _ _ h => h) (Or.inr ⟨by rfl, rfl⟩) ?_ ?_;rotate_left
   ·simp only [Act.put, za_, zb_, zc_, i64_w, i32_w];rfl
   refine pure_ (i := 15) (N := some 23) (v := undef) (a' := ?_) #[Y,Y,Y,Y,Y,Y,Y,Y,Y,Y,Y,Y,Y,Y,Y,Y,Z] rfl rfl (any_of HT_.out (by kernel_rfl)) (fun _ _ _ h => h) (Or.inr ⟨by rfl, rfl⟩) ?_ ?_;rotate_left
   ·simp only [Act.put, za_, zb_, zc_, i64_w, i32_w];rfl
   refine pA 16 (some 24) ?_ #[Y,Y,Y,Y,Y,Y,Y,Y,Y,Y,Y,Y,Y,Y,Y,Y,Y] rfl rfl HT_ (by kernel_rfl) (fun _ _ _ h => h) (by rfl) ?_ ?_ ?_ ?_;rotate_left
   ·intro w';go_simp;with_reducible rfl
   rotate_left
   ·simp only [Act.put, za_, zb_, zc_, i64_w, i32_w];rfl
   refine done_ (done_of HT_.out (by kernel_rfl)) ?_;try go_wp2
   go_meet
   case rel => exact ⟨_, (true), (by first | rfl | (simp; done) | (simp [*]; done)), H', ⟨by first | omega | exact Nat.le_refl _⟩, ⟨km_ BK447⟩, ⟨km_ BK448⟩, ⟨bm HB⟩⟩
 case rest =>
  clear HC4;(try clear c2);(try clear c6);obtain ⟨kq, x24_3, rfl, HA, HJ3, BK447, BK448, HB⟩ := hcut;cases kq with
  | zero => exact absurd HA.out (by simp [impl_WrongEntries.j0])
  | succ kj3 =>
   have H := HA.out;clear HA;simp only [impl_WrongEntries.j0] at H;by_cases c21 : x24_3 = true
   ·subst c21;have H1 : (some (([] : List Int), false)) = some (r1, r2) := by rw [if_pos rfl] at H; exact H
    clear H;have H := H1;clear H1;simp only [Option.some.injEq, Prod.mk.injEq] at H;obtain ⟨rfl, rfl⟩ := H;go_wp2;go_ret2
    exact ⟨_, by first | rfl | (simp [e0_, e1_] <;> rfl) | (simp [*, e0_, e1_] <;> rfl), by first | exact Kd.R_nil _ _ _ _ _ | exact Kd.N_nil _ _ _ _ _ | exact Kd.V_nil _ _ _ _ _ | exact Kd.Q_nil _ _ _ _ _ | exact Kd.S_nil _ _ _ _ _, bm HB⟩
   ·replace c21 := Bool.eq_false_iff.mpr c21;subst c21;have H1 : ((impl_entryValues.f kj3 a0_0 a0_1 l0_2 a1).bind fun t451 => ((impl_wrongIndices.f kj3 t451 a2_0 l2_1).bind fun t454 => (some (t454, true)))) = some (r1, r2) := by rw [if_neg (show ¬ (false = true) by decide)] at H; exact H
    clear H;have H := H1;clear H1;replace H := Option.bind_eq_some_iff.mp H;obtain ⟨t451, A220, H⟩ := H;(try dsimp only at H)
    have A22 := Aside0.mk A220;clear A220;replace H := Option.bind_eq_some_iff.mp H;obtain ⟨t454, A230, H⟩ := H;(try dsimp only at H)
    have A23 := Aside0.mk A230;clear A230;simp only [Option.some.injEq, Prod.mk.injEq] at H;obtain ⟨rfl, rfl⟩ := H;try go_wp2
    refine ev3 (blk_drew BK447.out) (blk_drew BK448.out) (below_drew1 HB.out) ?_;clear BK447 BK448 HB;intro BK447 BK448 HB;refine start_ (n := 7) (S := fun w' => w'.cell? ⟨gb447, 0, none⟩ = some (.int .i64 a0_0) ∧ w'.cell? ⟨gb447, 1, none⟩ = some (.int .i64 a0_1) ∧ w'.cell? ⟨gb447, 2, none⟩ = some (.slice A0_2 l0_2.length c0_2) ∧ w'.cell? ⟨gb448, 0, none⟩ = some (.int .i64 a2_0) ∧ w'.cell? ⟨gb448, 1, none⟩ = some (.slice A2_1 l2_1.length c2_1)) (ds := []) #[Z,Z,Z,Z,Z,Z,Z] (by kernel_rfl) rfl rfl ⟨(blk_cell BK447.out 0).trans rfl, (blk_cell BK447.out 1).trans rfl, (blk_cell BK447.out 2).trans rfl, (blk_cell BK448.out 0).trans rfl, (blk_cell BK448.out 1).trans rfl⟩ (fun hHeld => ?_);generalize wc.drew = w24 at BK447 BK448 HB hHeld ⊢
    refine pure_ (i := 1) (N := some 26) (v := ?_) (a' := ?_) #[Z,Y,Z,Z,Z,Z,Z] rfl rfl (by kernel_rfl) (fun _ _ _ h => h) (Or.inl ⟨by rfl, ?_⟩) ?_ ?_;rotate_left
    ·intro w';go_simp;with_reducible rfl
    rotate_left
    ·simp only [Act.put, za_, zb_, zc_, i64_w, i32_w];rfl
    refine take_ (i := 0) (N := some 25) (v := ?_) (a' := ?_) #[Y,Y,Z,Z,Z,Z,Z] rfl rfl (by kernel_rfl) (fun _ _ _ h => h) (Or.inl ⟨by rfl, ?_⟩) hHeld ?_ ?_;rotate_left
    ·rintro w' ⟨s0, s1, s2, s3, s4⟩;go_simp;with_reducible rfl
    rotate_left
    ·simp only [Act.put, za_, zb_, zc_, i64_w, i32_w];rfl
    refine take_ (i := 3) (N := some 28) (v := ?_) (a' := ?_) #[Y,Y,Z,Y,Z,Z,Z] rfl rfl (by kernel_rfl) (fun _ _ _ h => h) (Or.inl ⟨by rfl, ?_⟩) hHeld ?_ ?_;rotate_left
    ·rintro w' ⟨s0, s1, s2, s3, s4⟩;go_simp;with_reducible rfl
    rotate_left
    ·simp only [Act.put, za_, zb_, zc_, i64_w, i32_w];rfl
    refine one_ (i := 2) (N := some 27) #[Y,Y,Y,Y,Z,Z,Z] rfl rfl (by kernel_rfl) (by decide) (fun K hK => ?_);refine goes_ Try.func126 (by kernel_rfl) rfl #[.agg #[.int .i64 a0_0, .int .i64 a0_1, .slice A0_2 l0_2.length c0_2], .int .i64 a1] (by rfl) rfl rfl (by (try simp only [ma_, mb_, mc_]); first | done | rfl | (simp only [List.length_drop, List.length_take]; rfl)) ?_;with_reducible refine (impl_entryValues.calls kj3 a0_0 a0_1 _ _ l0_2 a1 t451 _ ?side1 ?side2 A22.out).mono ?_
    (case side1 => exact Kd.C_mv (Kd.C_below HR0_2.out HB.out))
    (case side2 => exact HC0_2.out)
    rintro e w25 ⟨v452, rfl, ho0, hb⟩;refine ⟨_, rfl, ?_⟩;refine ev4 (Kd.R_lower ho0 (below_size (bm HB))) (kb BK447 hb) (kb BK448 hb) (bs HB hb) ?_;clear BK447 BK448 HB;intro HO453 BK447 BK448 HB;(try clear hb);(try clear hb2);(try clear hk);(try clear hi);(try clear ho0);obtain ⟨Ao26, co26, eo26⟩ := Kd.R_slice HO453.out;(first | subst eo26 | (injection eo26 with f1_ f2_ f3_; have f4_ := f1_.symm; have f5_ := f3_.symm; clear f1_ f2_ f3_; subst f4_; subst f5_))
    refine hK.out _ _ ⟨(blk_cell BK447.out 0).trans rfl, (blk_cell BK447.out 1).trans rfl, (blk_cell BK447.out 2).trans rfl, (blk_cell BK448.out 0).trans rfl, (blk_cell BK448.out 1).trans rfl⟩ (fun hHeld => ?_);clear hK K;refine norm_ (a' := ?_) ?_ ?_;rotate_left
    ·show Act.put _ (some 27) _ = _
     simp only [Act.put, za_, zb_, zc_, i64_w, i32_w];rfl
    refine one_ (i := 4) (N := some 29) #[Y,Y,Y,Y,Y,Z,Z] rfl rfl (by kernel_rfl) (by decide) (fun K hK => ?_);refine goes_ Try.func125 (by kernel_rfl) rfl #[.slice Ao26 t451.length co26, .agg #[.int .i64 a2_0, .slice A2_1 l2_1.length c2_1]] (by rfl) rfl rfl (by (try simp only [ma_, mb_, mc_]); first | done | rfl | (simp only [List.length_drop, List.length_take]; rfl)) ?_;with_reducible refine (impl_wrongIndices.calls kj3 _ _ t451 a2_0 _ _ l2_1 t454 _ ?side1 ?side2 ?side3 ?side4 A23.out).mono ?_
    (case side1 => exact Kd.C_mv (Kd.R_reads' HO453.out).2.2)
    (case side2 => exact (Kd.R_reads' HO453.out).2.1)
    (case side3 => exact Kd.C_mv (Kd.C_below HR2_1.out HB.out))
    (case side4 => exact HC2_1.out)
    rintro e w27 ⟨v455, rfl, ho0, hb⟩;refine ⟨_, rfl, ?_⟩;refine ev5 (Kd.R_elder' (Kd.R_mv HO453.out) (Kd.R_base ho0) hb) (Kd.R_lower (Kd.R_new' ho0 (Kd.R_lt (Kd.R_mv HO453.out))) (below_size (bm HB))) (kb BK447 hb) (kb BK448 hb) (bs HB hb) ?_;clear HO453 BK447 BK448 HB;intro HO453 HO456 BK447 BK448 HB;(try clear hb);(try clear hb2);(try clear hk);(try clear hi);(try clear ho0);refine hK.out _ _ ⟨(blk_cell BK447.out 0).trans rfl, (blk_cell BK447.out 1).trans rfl, (blk_cell BK447.out 2).trans rfl, (blk_cell BK448.out 0).trans rfl, (blk_cell BK448.out 1).trans rfl⟩ (fun hHeld => ?_);clear hK K;refine norm_ (a' := ?_) ?_ ?_;rotate_left
    ·show Act.put _ (some 29) _ = _
     simp only [Act.put, za_, zb_, zc_, i64_w, i32_w];rfl
    refine pure_ (i := 5) (N := some 6) (v := ?_) (a' := ?_) #[Y,Y,Y,Y,Y,Y,Z] rfl rfl (by kernel_rfl) (fun _ _ _ h => h) (Or.inl ⟨by rfl, ?_⟩) ?_ ?_;rotate_left
    ·intro w';go_simp;with_reducible rfl
    rotate_left
    ·simp only [Act.put, za_, zb_, zc_, i64_w, i32_w];rfl
    refine pure_ (i := 6) (N := some 7) (v := ?_) (a' := ?_) #[Y,Y,Y,Y,Y,Y,Y] rfl rfl (by kernel_rfl) (fun _ _ _ h => h) (Or.inl ⟨by rfl, ?_⟩) ?_ ?_;rotate_left
    ·intro w';go_simp;with_reducible rfl
    rotate_left
    ·simp only [Act.put, za_, zb_, zc_, i64_w, i32_w];rfl
    refine done_ (by kernel_rfl) ?_;try go_wp2
    go_ret2
    exact ⟨_, by first | rfl | (simp [e0_, e1_] <;> rfl) | (simp [*, e0_, e1_] <;> rfl), Kd.R_mv (Kd.R_mono (ok' := fun k_ => True) HO456.out (fun _ hk => trivial)), bm HB⟩

/-! ### laws_eqTable: function 61 -/
def laws_eqTable.f (k : Nat) (a0_0 : Int) (l0_1 : List Int) (a1_0 : Int) (l1_1 : List Int) : Option (Bool) := if a0_0 = a1_0 then ((laws_eqIntS.f k l0_1 l1_1).bind fun t459 => (if t459 = true then (some true) else (some false))) else (some false)
theorem laws_eqTable.calls (k : Nat) (a0_0 : Int) (A0_1 : Option Addr) (c0_1 : Nat) (l0_1 : List Int) (a1_0 : Int) (A1_1 : Option Addr) (c1_1 : Nat) (l1_1 : List Int) (r : Bool) (w : World) (hr0_1 : Kd.C (Kd.int .i64) w A0_1 l0_1.length l0_1) (hc0_1 : l0_1.length ≤ c0_1) (hr1_1 : Kd.C (Kd.int .i64) w A1_1 l1_1.length l1_1) (hc1_1 : l1_1.length ≤ c1_1) (h : laws_eqTable.f k a0_0 l0_1 a1_0 l1_1 = some r) :
  Calls Try.prog 61 #[.agg #[.int .i64 a0_0, .slice A0_1 l0_1.length c0_1], .agg #[.int .i64 a1_0, .slice A1_1 l1_1.length c1_1]] w fun e w' => e = .returned (.bool r) ∧ Below w.heap.size w w' := by
 have HR0_1 := Aside0.mk hr0_1;have HC0_1 := Aside0.mk hc0_1;clear hr0_1 hc0_1;have HR1_1 := Aside0.mk hr1_1;have HC1_1 := Aside0.mk hc1_1;clear hr1_1 hc1_1;have HB := Aside0.mk (Below.refl w.heap.size w);have H : (if a0_0 = a1_0 then ((laws_eqIntS.f k l0_1 l1_1).bind fun t459 => (if t459 = true then (some true) else (some false))) else (some false)) = some r := h;clear h;by_cases c3 : a0_0 = a1_0
 ·rw [if_pos c3] at H;have c3b0 : (a0_0 == a1_0) = true := beq_iff_eq.mpr c3;have c3b1 : (a0_0 != a1_0) = false := bne_eq_false_iff_eq.mpr c3;clear c3;replace H := Option.bind_eq_some_iff.mp H;obtain ⟨t459, A40, H⟩ := H;(try dsimp only at H)
  have A4 := Aside0.mk A40;clear A40;by_cases c5 : t459 = true
  ·subst c5;have H1 : (some true) = some r := by rw [if_pos rfl] at H; exact H
   clear H;have H := H1;clear H1;obtain rfl := Option.some.inj H;go_enter Try.func61, Try.ntmps61;go_wp2_with (first | ((with_reducible refine gate_dst (N := 2) rfl ?_); refine box_event ?hg (N := 2) ?hd (cs := #[.int .i64 a0_0, .slice A0_1 l0_1.length c0_1]) (t := 75) ?hr ?_; (case hd => rfl); (case hg => rfl); (case hr => first | (go_simp; done) | (go_simp; rfl)); intro gb457 hg w6 hbox hb; refine ev4 (bs HB hb) (hbox) (gle hg HB) (gle hg HB) ?_; clear HB; intro HB BK457 GW457 GE457; clear hb hbox hg) | ((with_reducible refine gate_dst (N := 3) rfl ?_); refine box_event ?hg (N := 3) ?hd (cs := #[.int .i64 a1_0, .slice A1_1 l1_1.length c1_1]) (t := 75) ?hr ?_; (case hd => rfl); (case hg => rfl); (case hr => first | (go_simp; done) | (go_simp; rfl)); intro gb458 hg w7 hbox hb; refine ev7 (kb BK457 hb) (bs HB hb) (hbox) (gle hg HB) (gle hg HB) (gnf hg BK457) (gne hg BK457) ?_; clear BK457 HB; intro BK457 HB BK458 GW458 GE458 NB457_458 NB458_457; clear hb hbox hg; have hnb8 := NB457_458.out; have hnc8 := NB458_457.out; obtain ⟨hcz9_0, hcz9_1, hfz9_0, hfz9_1⟩ := bt2 BK457; obtain ⟨hcz10_0, hcz10_1, hfz10_0, hfz10_1⟩ := bt2 BK458) | ((with_reducible refine gate_callee (f := 46) rfl ?_); refine goesL_ (some 14) rfl rfl Try.func46 (by kernel_rfl) rfl #[.slice A0_1 l0_1.length c0_1, .slice A1_1 l1_1.length c1_1] rfl (by (try simp only [ma_, mb_, mc_]); first | done | rfl | (simp only [List.length_drop, List.length_take]; rfl)) ?_; (with_reducible refine (laws_eqIntS.calls k _ _ l0_1 _ _ l1_1 true _ (Kd.C_mv (Kd.C_below HR0_1.out HB.out)) HC0_1.out (Kd.C_mv (Kd.C_below HR1_1.out HB.out)) HC1_1.out A4.out).mono ?_); rintro e w' ⟨rfl, ⟨nd, rfl⟩⟩; refine ⟨_, rfl, ?_⟩))
   go_ret;exact ⟨by first | rfl | (simp [e0_, e1_] <;> rfl) | (simp [*, e0_, e1_] <;> rfl), bm HB⟩
  ·replace c5 := Bool.eq_false_iff.mpr c5;subst c5;have H1 : (some false) = some r := by rw [if_neg (show ¬ (false = true) by decide)] at H; exact H
   clear H;have H := H1;clear H1;obtain rfl := Option.some.inj H;go_enter Try.func61, Try.ntmps61;go_wp2_with (first | ((with_reducible refine gate_dst (N := 2) rfl ?_); refine box_event ?hg (N := 2) ?hd (cs := #[.int .i64 a0_0, .slice A0_1 l0_1.length c0_1]) (t := 75) ?hr ?_; (case hd => rfl); (case hg => rfl); (case hr => first | (go_simp; done) | (go_simp; rfl)); intro gb457 hg w11 hbox hb; refine ev4 (bs HB hb) (hbox) (gle hg HB) (gle hg HB) ?_; clear HB; intro HB BK457 GW457 GE457; clear hb hbox hg) | ((with_reducible refine gate_dst (N := 3) rfl ?_); refine box_event ?hg (N := 3) ?hd (cs := #[.int .i64 a1_0, .slice A1_1 l1_1.length c1_1]) (t := 75) ?hr ?_; (case hd => rfl); (case hg => rfl); (case hr => first | (go_simp; done) | (go_simp; rfl)); intro gb458 hg w12 hbox hb; refine ev7 (kb BK457 hb) (bs HB hb) (hbox) (gle hg HB) (gle hg HB) (gnf hg BK457) (gne hg BK457) ?_; clear BK457 HB; intro BK457 HB BK458 GW458 GE458 NB457_458 NB458_457; clear hb hbox hg; have hnb13 := NB457_458.out; have hnc13 := NB458_457.out; obtain ⟨hcz14_0, hcz14_1, hfz14_0, hfz14_1⟩ := bt2 BK457; obtain ⟨hcz15_0, hcz15_1, hfz15_0, hfz15_1⟩ := bt2 BK458) | ((with_reducible refine gate_callee (f := 46) rfl ?_); refine goesL_ (some 14) rfl rfl Try.func46 (by kernel_rfl) rfl #[.slice A0_1 l0_1.length c0_1, .slice A1_1 l1_1.length c1_1] rfl (by (try simp only [ma_, mb_, mc_]); first | done | rfl | (simp only [List.length_drop, List.length_take]; rfl)) ?_; (with_reducible refine (laws_eqIntS.calls k _ _ l0_1 _ _ l1_1 false _ (Kd.C_mv (Kd.C_below HR0_1.out HB.out)) HC0_1.out (Kd.C_mv (Kd.C_below HR1_1.out HB.out)) HC1_1.out A4.out).mono ?_); rintro e w' ⟨rfl, ⟨nd, rfl⟩⟩; refine ⟨_, rfl, ?_⟩))
   go_ret;exact ⟨by first | rfl | (simp [e0_, e1_] <;> rfl) | (simp [*, e0_, e1_] <;> rfl), bm HB⟩
 ·rw [if_neg c3] at H;have c3b0 : (a0_0 == a1_0) = false := beq_eq_false_iff_ne.mpr c3;have c3b1 : (a0_0 != a1_0) = true := bne_iff_ne.mpr c3;obtain rfl := Option.some.inj H;go_enter Try.func61, Try.ntmps61;go_wp2_with (first | ((with_reducible refine gate_dst (N := 2) rfl ?_); refine box_event ?hg (N := 2) ?hd (cs := #[.int .i64 a0_0, .slice A0_1 l0_1.length c0_1]) (t := 75) ?hr ?_; (case hd => rfl); (case hg => rfl); (case hr => first | (go_simp; done) | (go_simp; rfl)); intro gb457 hg w16 hbox hb; refine ev4 (bs HB hb) (hbox) (gle hg HB) (gle hg HB) ?_; clear HB; intro HB BK457 GW457 GE457; clear hb hbox hg) | ((with_reducible refine gate_dst (N := 3) rfl ?_); refine box_event ?hg (N := 3) ?hd (cs := #[.int .i64 a1_0, .slice A1_1 l1_1.length c1_1]) (t := 75) ?hr ?_; (case hd => rfl); (case hg => rfl); (case hr => first | (go_simp; done) | (go_simp; rfl)); intro gb458 hg w17 hbox hb; refine ev7 (kb BK457 hb) (bs HB hb) (hbox) (gle hg HB) (gle hg HB) (gnf hg BK457) (gne hg BK457) ?_; clear BK457 HB; intro BK457 HB BK458 GW458 GE458 NB457_458 NB458_457; clear hb hbox hg; have hnb18 := NB457_458.out; have hnc18 := NB458_457.out; obtain ⟨hcz19_0, hcz19_1, hfz19_0, hfz19_1⟩ := bt2 BK457; obtain ⟨hcz20_0, hcz20_1, hfz20_0, hfz20_1⟩ := bt2 BK458))
  go_ret;exact ⟨by first | rfl | (simp [e0_, e1_] <;> rfl) | (simp [*, e0_, e1_] <;> rfl), bm HB⟩

/-! ### laws_markTable: function 62 -/
def laws_markTable.f (k : Nat) (a0_0 : Int) (l0_1 : List Int) (a1 : Int) : Option (Int × List Int) := (laws_markIntS.f k l0_1 a1).bind fun bt461 => (some (bt461.1, bt461.2))
theorem laws_markTable.calls (k : Nat) (a0_0 : Int) (P0_1_ : Nat → Prop) (u9000_ : Value) (l0_1 : List Int) (a1 : Int) (r1 : Int) (r2 : List Int) (w0 w : World) (hB : Below w0.heap.size w0 w) (ho0_1 : Kd.R (Kd.int .i64) 3 w w0.heap.size P0_1_ u9000_ l0_1) (h : laws_markTable.f k a0_0 l0_1 a1 = some (r1, r2)) :
  Calls Try.prog 62 #[.agg #[.int .i64 a0_0, u9000_], .int .i64 a1] w fun e w' => e = .returned (.int .i64 r1) ∧ Kd.R (Kd.int .i64) 3 w' w0.heap.size (fun k_ => (P0_1_ k_ ∨ w.heap.size ≤ k_)) u9000_ r2 ∧ Below w0.heap.size w0 w' ∧ Kept w w' (fun k_ => P0_1_ k_) := by
 have HO0_1 := Aside0.mk (show Kd.R (Kd.int .i64) 3 w w0.heap.size (fun k_ => (P0_1_ k_ ∨ w.heap.size ≤ k_)) u9000_ l0_1 from Kd.R_mono ho0_1 (fun k_ hk => (.inl hk)));have HK := Aside0.mk (Kept.refl w (fun k_ => P0_1_ k_));have HW0 := Aside0.mk hB.size;have HB := Aside0.mk hB;clear hB;have H : ((laws_markIntS.f k l0_1 a1).bind fun bt461 => (some (bt461.1, bt461.2))) = some (r1, r2) := h;clear h;replace H := Option.bind_eq_some_iff.mp H;obtain ⟨⟨t461, t462⟩, A30, H⟩ := H;(try dsimp only at H)
 have A3 := Aside0.mk A30;clear A30;simp only [Option.some.injEq, Prod.mk.injEq] at H;obtain ⟨rfl, rfl⟩ := H;obtain ⟨Ao4, co4, eo4⟩ := Kd.R_slice HO0_1.out;subst eo4;go_enter Try.func62, Try.ntmps62;go_wp2_with (first | ((with_reducible refine gate_dst (N := 2) rfl ?_); refine box_event ?hg (N := 2) ?hd (cs := #[.int .i64 a0_0, .slice Ao4 l0_1.length co4]) (t := 75) ?hr ?_; (case hd => rfl); (case hg => rfl); (case hr => first | (go_simp; done) | (go_simp; rfl)); intro gb460 hg w5 hbox hb; refine ev6 (Kd.R_below (Kd.R_mv HO0_1.out) hb) (Kept.below (S := (fun k_ => P0_1_ k_)) (km HK) hb) (bs HB hb) (hbox) ((by rw [hg]; exact (by first | exact HK.out.1 | exact (show Kept w _ (fun k_ => P0_1_ k_) from km HK).1) : w.heap.size ≤ gb460)) (gle hg HB) ?_; clear HO0_1 HK HB; intro HO0_1 HK HB BK460 GW460 GE460; clear hb hbox hg; obtain ⟨hcz6_0, hcz6_1, hfz6_0, hfz6_1⟩ := bt2 BK460) | ((with_reducible refine gate_callee (f := 48) rfl ?_); refine goesL_ (some 8) rfl rfl Try.func48 (by kernel_rfl) rfl #[.slice Ao4 l0_1.length co4, .int .i64 a1] rfl (by (try simp only [ma_, mb_, mc_]); first | done | rfl | (simp only [List.length_drop, List.length_take]; rfl)) ?_; (with_reducible refine (laws_markIntS.calls k (fun k_ => some k_ = (.slice Ao4 l0_1.length co4 : Value).ownBlock) (.slice Ao4 l0_1.length co4) l0_1 a1 t461 t462 w0 _ (bm HB) ?side2 A3.out).mono ?_); (case side2 => exact Kd.R_tight rfl HO0_1.out); rintro e w7 ⟨rfl, hy0, hb, hkp⟩; refine ⟨_, rfl, ?_⟩; refine ev4 (Kd.R_reok rfl hy0 (fun k_ e_ => HO0_1.out.1 k_ e_)) (blk_kept (km_ BK460) hkp (fun hs_ => (fun e_ => (Kd.R_ne HO0_1.out BK460.out (by decide)) e_) hs_)) (Kept.then_ (S := (fun k_ => P0_1_ k_)) (km HK) hkp (fun k_ hs_ => (fun e_ => (HO0_1.out.1 k_ e_.symm)) hs_)) (hb) ?_; clear HO0_1 BK460 HK HB; intro HO0_1 BK460 HK HB; (try clear hb); (try clear hkp); (try clear hy0)))
 go_ret;exact ⟨by first | rfl | (simp [e0_, e1_] <;> rfl) | (simp [*, e0_, e1_] <;> rfl), Kd.R_mv HO0_1.out, bm HB, km HK⟩
end Go.Proofs.Ytimeepcpgjnajaa.F
