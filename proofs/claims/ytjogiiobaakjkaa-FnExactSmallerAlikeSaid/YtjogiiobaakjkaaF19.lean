-- Written by a program of this session (a patched print) out of the translation; Lean checks it.
import Derived.Test.YtjogiiobaakjkaaF0
import Derived.Test.YtjogiiobaakjkaaF8
import Derived.Test.YtjogiiobaakjkaaF9
import Derived.Test.YtjogiiobaakjkaaF12
namespace Go.Proofs.Ytjogiiobaakjkaa.F
open Go.RowKit Go.Proofs.YtjogiiobaakjkaaV.PrintWords Go.Proofs.YtjogiiobaakjkaaV.PrintLast Go.Proofs.YtjogiiobaakjkaaV.PrintMore
attribute [local go_sem] max2_int min2_int max_two min_two max_three min_three max_four min_four
attribute [local go_sem] Try.underlying30 Try.underlying35 Try.underlying44 Try.underlying48 Try.underlying62 Try.underlying66 Try.underlying78 Try.underlying90 Try.underlying112
set_option maxHeartbeats 8000000
set_option maxRecDepth 100000
set_option linter.unusedVariables false
set_option linter.unusedSimpArgs false

/-! ### impl_validEntry: function 78 -/
def impl_validEntry.f (k : Nat) (a0_0 : Int) (a0_1 : Int) (l0_2 : List (S78)) (a1 : Int) : Option (Bool) := (impl_IsBoard.f k a0_0 a0_1 l0_2).bind fun t669 => (if t669 = true then (if a1 ≥ 0 then (some (decide (a1 < a0_1))) else (some false)) else (some false))
theorem impl_validEntry.calls (k : Nat) (a0_0 : Int) (a0_1 : Int) (A0_2 : Option Addr) (c0_2 : Nat) (l0_2 : List (S78)) (a1 : Int) (r : Bool) (w : World) (hr0_2 : Kd.C k78 w A0_2 l0_2.length l0_2) (hc0_2 : l0_2.length ≤ c0_2) (h : impl_validEntry.f k a0_0 a0_1 l0_2 a1 = some r) :
  Calls Try.prog 78 #[.agg #[.int .i64 a0_0, .int .i64 a0_1, .slice A0_2 l0_2.length c0_2], .int .i64 a1] w fun e w' => e = .returned (.bool r) ∧ Below w.heap.size w w' := by
 have HR0_2 := Aside0.mk hr0_2;have HC0_2 := Aside0.mk hc0_2;clear hr0_2 hc0_2;have HB := Aside0.mk (Below.refl w.heap.size w);have H : ((impl_IsBoard.f k a0_0 a0_1 l0_2).bind fun t669 => (if t669 = true then (if a1 ≥ 0 then (some (decide (a1 < a0_1))) else (some false)) else (some false))) = some r := h;clear h;replace H := Option.bind_eq_some_iff.mp H;obtain ⟨t669, A30, H⟩ := H;(try dsimp only at H)
 have A3 := Aside0.mk A30;clear A30;by_cases c4 : t669 = true
 ·subst c4
  have H1 : (if a1 ≥ 0 then (some (decide (a1 < a0_1))) else (some false)) = some r := by rw [if_pos rfl] at H; exact H
  clear H;have H := H1;clear H1;by_cases c5 : a1 ≥ 0
  ·rw [if_pos c5] at H
   have c5b0 : decide (0 ≤ a1) = true := decide_eq_true c5;clear c5;obtain rfl := Option.some.inj H;go_enter Try.func78, Try.ntmps78;go_wp2_with (first | ((with_reducible refine gate_dst (N := 2) rfl ?_); refine box_event ?hg (N := 2) ?hd (cs := #[.int .i64 a0_0, .int .i64 a0_1, .slice A0_2 l0_2.length c0_2]) (t := 48) ?hr ?_; (case hd => rfl); (case hg => rfl); (case hr => first | (go_simp; done) | (go_simp; rfl)); intro gb668 hg w6 hbox hb; refine ev4 (bs HB hb) (hbox) (gle hg HB) (gle hg HB) ?_; clear HB; intro HB BK668 GW668 GE668; clear hb hbox hg; obtain ⟨hcz7_0, hcz7_1, hcz7_2, hfz7_0, hfz7_1, hfz7_2⟩ := bt3 BK668) | ((with_reducible refine gate_callee (f := 114) rfl ?_); refine goesL_ (some 6) rfl rfl Try.func114 (by kernel_rfl) rfl #[.agg #[.int .i64 a0_0, .int .i64 a0_1, .slice A0_2 l0_2.length c0_2]] rfl (by (try simp only [ma_, mb_, mc_]); first | done | rfl | (simp only [List.length_drop, List.length_take]; rfl)) ?_; (with_reducible refine (impl_IsBoard.calls k a0_0 a0_1 _ _ l0_2 true _ (Kd.C_mv (Kd.C_below HR0_2.out HB.out)) HC0_2.out A3.out).mono ?_); rintro e w8 ⟨rfl, hb⟩; refine ⟨_, rfl, ?_⟩; refine ev2 (kb BK668 hb) (bs HB hb) ?_; clear BK668 HB; intro BK668 HB; (try clear hb); (try clear hb2); (try clear hk); (try clear hi); obtain ⟨hcz9_0, hcz9_1, hcz9_2, hfz9_0, hfz9_1, hfz9_2⟩ := bt3 BK668))
   go_ret;exact ⟨by first | rfl | (simp [e0_, e1_] <;> rfl) | (simp [*, e0_, e1_] <;> rfl), bm HB⟩
  ·rw [if_neg c5] at H
   have c5b0 : decide (0 ≤ a1) = false := decide_eq_false c5;clear c5;obtain rfl := Option.some.inj H;go_enter Try.func78, Try.ntmps78;go_wp2_with (first | ((with_reducible refine gate_dst (N := 2) rfl ?_); refine box_event ?hg (N := 2) ?hd (cs := #[.int .i64 a0_0, .int .i64 a0_1, .slice A0_2 l0_2.length c0_2]) (t := 48) ?hr ?_; (case hd => rfl); (case hg => rfl); (case hr => first | (go_simp; done) | (go_simp; rfl)); intro gb668 hg w10 hbox hb; refine ev4 (bs HB hb) (hbox) (gle hg HB) (gle hg HB) ?_; clear HB; intro HB BK668 GW668 GE668; clear hb hbox hg; obtain ⟨hcz11_0, hcz11_1, hcz11_2, hfz11_0, hfz11_1, hfz11_2⟩ := bt3 BK668) | ((with_reducible refine gate_callee (f := 114) rfl ?_); refine goesL_ (some 6) rfl rfl Try.func114 (by kernel_rfl) rfl #[.agg #[.int .i64 a0_0, .int .i64 a0_1, .slice A0_2 l0_2.length c0_2]] rfl (by (try simp only [ma_, mb_, mc_]); first | done | rfl | (simp only [List.length_drop, List.length_take]; rfl)) ?_; (with_reducible refine (impl_IsBoard.calls k a0_0 a0_1 _ _ l0_2 true _ (Kd.C_mv (Kd.C_below HR0_2.out HB.out)) HC0_2.out A3.out).mono ?_); rintro e w12 ⟨rfl, hb⟩; refine ⟨_, rfl, ?_⟩; refine ev2 (kb BK668 hb) (bs HB hb) ?_; clear BK668 HB; intro BK668 HB; (try clear hb); (try clear hb2); (try clear hk); (try clear hi)))
   go_ret;exact ⟨by first | rfl | (simp [e0_, e1_] <;> rfl) | (simp [*, e0_, e1_] <;> rfl), bm HB⟩
 ·replace c4 := Bool.eq_false_iff.mpr c4
  subst c4;have H1 : (some false) = some r := by rw [if_neg (show ¬ (false = true) by decide)] at H; exact H
  clear H;have H := H1;clear H1;obtain rfl := Option.some.inj H;go_enter Try.func78, Try.ntmps78;go_wp2_with (first | ((with_reducible refine gate_dst (N := 2) rfl ?_); refine box_event ?hg (N := 2) ?hd (cs := #[.int .i64 a0_0, .int .i64 a0_1, .slice A0_2 l0_2.length c0_2]) (t := 48) ?hr ?_; (case hd => rfl); (case hg => rfl); (case hr => first | (go_simp; done) | (go_simp; rfl)); intro gb668 hg w13 hbox hb; refine ev4 (bs HB hb) (hbox) (gle hg HB) (gle hg HB) ?_; clear HB; intro HB BK668 GW668 GE668; clear hb hbox hg; obtain ⟨hcz14_0, hcz14_1, hcz14_2, hfz14_0, hfz14_1, hfz14_2⟩ := bt3 BK668) | ((with_reducible refine gate_callee (f := 114) rfl ?_); refine goesL_ (some 6) rfl rfl Try.func114 (by kernel_rfl) rfl #[.agg #[.int .i64 a0_0, .int .i64 a0_1, .slice A0_2 l0_2.length c0_2]] rfl (by (try simp only [ma_, mb_, mc_]); first | done | rfl | (simp only [List.length_drop, List.length_take]; rfl)) ?_; (with_reducible refine (impl_IsBoard.calls k a0_0 a0_1 _ _ l0_2 false _ (Kd.C_mv (Kd.C_below HR0_2.out HB.out)) HC0_2.out A3.out).mono ?_); rintro e w15 ⟨rfl, hb⟩; refine ⟨_, rfl, ?_⟩; refine ev2 (kb BK668 hb) (bs HB hb) ?_; clear BK668 HB; intro BK668 HB; (try clear hb); (try clear hb2); (try clear hk); (try clear hi)))
  go_ret;exact ⟨by first | rfl | (simp [e0_, e1_] <;> rfl) | (simp [*, e0_, e1_] <;> rfl), bm HB⟩

/-! ### impl_FallOf: function 79 -/
def impl_FallOf.f (k : Nat) (a0_0 : Int) (a0_1 : Int) (l0_2 : List (S78)) (a1 : Int) : Option (Int × Int × Int × Bool) := (impl_validEntry.f k a0_0 a0_1 l0_2 a1).bind fun t750 => (if t750 = true then ((impl_copyBoard.f a0_0 a0_1 l0_2).bind fun bt751 => ((impl_groupNumbers.f k a0_0 a0_1 l0_2).bind fun t756 => ((impl_drop.f k bt751.1 bt751.2.1 bt751.2.2 t756 a1).bind fun bt759 => (some (bt759.1, bt759.2.1, bt759.2.2.1, true))))) else (some (0, 0, 0, false)))
def impl_FallOf.T3 : Bool × List (List Nat × List Nat) := (true, [([], []), ([0], [0]), ([], []), ([2, 1], [2]), ([], []), ([1, 3, 4, 3], [1, 3, 4]), ([5], [5]), ([6], [6]), ([6], [6]), ([], []), ([9, 7, 5, 0, 1, 2, 3, 4, 5, 6, 7, 9], [7, 9]), ([8, 10, 0, 1, 2, 3, 4, 5, 6, 7, 8, 9, 10], [8])])
def impl_FallOf.B3 : List Nat := [0, 1, 0, 7, 0, 31, 63, 127, 127, 0, 767, 2047]
theorem impl_FallOf.tab3 : rtab .any (opsOf Try.f79 3) = impl_FallOf.T3 := by kernel_rfl
theorem impl_FallOf.bits3 : waitsOk impl_FallOf.T3.2 impl_FallOf.B3 = true := by kernel_rfl
theorem impl_FallOf.calls (k : Nat) (a0_0 : Int) (a0_1 : Int) (A0_2 : Option Addr) (c0_2 : Nat) (l0_2 : List (S78)) (a1 : Int) (r1 : Int) (r2 : Int) (r3 : Int) (r4 : Bool) (w : World) (hr0_2 : Kd.C k78 w A0_2 l0_2.length l0_2) (hc0_2 : l0_2.length ≤ c0_2) (h : impl_FallOf.f k a0_0 a0_1 l0_2 a1 = some (r1, r2, r3, r4)) :
  Calls Try.prog 79 #[.agg #[.int .i64 a0_0, .int .i64 a0_1, .slice A0_2 l0_2.length c0_2], .int .i64 a1] w fun e w' => e = .returned (.tuple #[.agg #[.int .i64 r1, .int .i64 r2, .int .i64 r3], .bool r4]) ∧ Below w.heap.size w w' := by
 have HR0_2 := Aside0.mk hr0_2;have HC0_2 := Aside0.mk hc0_2;clear hr0_2 hc0_2;have HB := Aside0.mk (Below.refl w.heap.size w);have H : ((impl_validEntry.f k a0_0 a0_1 l0_2 a1).bind fun t750 => (if t750 = true then ((impl_copyBoard.f a0_0 a0_1 l0_2).bind fun bt751 => ((impl_groupNumbers.f k a0_0 a0_1 l0_2).bind fun t756 => ((impl_drop.f k bt751.1 bt751.2.1 bt751.2.2 t756 a1).bind fun bt759 => (some (bt759.1, bt759.2.1, bt759.2.2.1, true))))) else (some (0, 0, 0, false)))) = some (r1, r2, r3, r4) := h;clear h;replace H := Option.bind_eq_some_iff.mp H;obtain ⟨t750, A30, H⟩ := H;(try dsimp only at H)
 have A3 := Aside0.mk A30;clear A30;by_cases c4 : t750 = true
 ·subst c4
  have H1 : ((impl_copyBoard.f a0_0 a0_1 l0_2).bind fun bt751 => ((impl_groupNumbers.f k a0_0 a0_1 l0_2).bind fun t756 => ((impl_drop.f k bt751.1 bt751.2.1 bt751.2.2 t756 a1).bind fun bt759 => (some (bt759.1, bt759.2.1, bt759.2.2.1, true))))) = some (r1, r2, r3, r4) := by rw [if_pos rfl] at H; exact H
  clear H;have H := H1;clear H1;replace H := Option.bind_eq_some_iff.mp H;obtain ⟨⟨t751, t752, t753⟩, A50, H⟩ := H;(try dsimp only at H)
  have A5 := Aside0.mk A50;clear A50;replace H := Option.bind_eq_some_iff.mp H;obtain ⟨t756, A60, H⟩ := H;(try dsimp only at H)
  have A6 := Aside0.mk A60;clear A60;replace H := Option.bind_eq_some_iff.mp H;obtain ⟨⟨t759, t760, t761, t762, t765⟩, A70, H⟩ := H;(try dsimp only at H)
  have A7 := Aside0.mk A70;clear A70;simp only [Option.some.injEq, Prod.mk.injEq] at H;obtain ⟨rfl, rfl, rfl, rfl⟩ := H;go_enter Try.func79, Try.ntmps79;try go_wp2_with (first | ((with_reducible refine gate_dst (N := 2) rfl ?_); refine box_event ?hg (N := 2) ?hd (cs := #[.int .i64 a0_0, .int .i64 a0_1, .slice A0_2 l0_2.length c0_2]) (t := 48) ?hr ?_; (case hd => rfl); (case hg => rfl); (case hr => first | (go_simp; done) | (go_simp; rfl)); intro gb748 hg w8 hbox hb; refine ev4 (bs HB hb) (hbox) (gle hg HB) (gle hg HB) ?_; clear HB; intro HB BK748 GW748 GE748; clear hb hbox hg) | ((with_reducible refine gate_dst (N := 4) rfl ?_); refine box_event ?hg (N := 4) ?hd (cs := #[.int .i64 0, .int .i64 0, .int .i64 0]) (t := 90) ?hr ?_; (case hd => rfl); (case hg => rfl); (case hr => first | (go_simp; done) | (go_simp; rfl)); intro gb749 hg w9 hbox hb; refine ev7 (kb BK748 hb) (bs HB hb) (hbox) (gle hg HB) (gle hg HB) (gnf hg BK748) (gne hg BK748) ?_; clear BK748 HB; intro BK748 HB BK749 GW749 GE749 NB748_749 NB749_748; clear hb hbox hg; have hnb10 := NB748_749.out; have hnc10 := NB749_748.out; obtain ⟨hcz11_0, hcz11_1, hcz11_2, hfz11_0, hfz11_1, hfz11_2⟩ := bt3 BK748) | ((with_reducible refine gate_callee (f := 78) rfl ?_); refine goesL_ (some 10) rfl rfl Try.func78 (by kernel_rfl) rfl #[.agg #[.int .i64 a0_0, .int .i64 a0_1, .slice A0_2 l0_2.length c0_2], .int .i64 a1] rfl (by (try simp only [ma_, mb_, mc_]); first | done | rfl | (simp only [List.length_drop, List.length_take]; rfl)) ?_; (with_reducible refine (impl_validEntry.calls k a0_0 a0_1 _ _ l0_2 a1 true _ (Kd.C_mv (Kd.C_below HR0_2.out HB.out)) HC0_2.out A3.out).mono ?_); rintro e w12 ⟨rfl, hb⟩; refine ⟨_, rfl, ?_⟩; refine ev3 (kb BK748 hb) (kb BK749 hb) (bs HB hb) ?_; clear BK748 BK749 HB; intro BK748 BK749 HB; (try clear hb); (try clear hb2); (try clear hk); (try clear hi)))
  refine ev3 (blk_drew BK748.out) (blk_drew BK749.out) (below_drew1 HB.out) ?_;clear BK748 BK749 HB;intro BK748 BK749 HB;refine start_ (n := 12) (S := fun w' => w'.cell? ⟨gb748, 0, none⟩ = some (.int .i64 a0_0) ∧ w'.cell? ⟨gb748, 1, none⟩ = some (.int .i64 a0_1) ∧ w'.cell? ⟨gb748, 2, none⟩ = some (.slice A0_2 l0_2.length c0_2)) (ds := []) #[false, false, false, false, false, false, false, false, false, false, false, false] (by kernel_rfl) rfl rfl ⟨(blk_cell BK748.out 0).trans rfl, (blk_cell BK748.out 1).trans rfl, (blk_cell BK748.out 2).trans rfl⟩ (fun hHeld => ?_); refine with_tabW impl_FallOf.tab3 impl_FallOf.bits3 (fun HT_ HW_ => ?_);generalize w12.drew = w13 at BK748 BK749 HB hHeld ⊢
  refine pure_ (i := 4) (N := some 18) (v := ?_) (a' := ?_) #[false, false, false, false, true, false, false, false, false, false, false, false] rfl rfl (any_of HT_.out (by kernel_rfl)) (fun _ _ _ h => h) (Or.inl ⟨by rfl, ?_⟩) ?_ ?_;rotate_left
  ·intro w'
   go_simp;with_reducible rfl
  rotate_left
  ·simp only [Act.put, za_, zb_, zc_, i64_w, i32_w]
   rfl
  refine take_ (i := 0) (N := some 14) (v := ?_) (a' := ?_) #[true, false, false, false, true, false, false, false, false, false, false, false] rfl rfl (take_ofW HT_.out HW_.out (by kernel_rfl)) (fun _ _ _ h => h) (Or.inl ⟨by rfl, ?_⟩) hHeld ?_ ?_;rotate_left
  ·rintro w' ⟨s0, s1, s2⟩
   go_simp;with_reducible rfl
  rotate_left
  ·simp only [Act.put, za_, zb_, zc_, i64_w, i32_w]
   rfl
  refine take_ (i := 2) (N := some 16) (v := ?_) (a' := ?_) #[true, false, true, false, true, false, false, false, false, false, false, false] rfl rfl (take_ofW HT_.out HW_.out (by kernel_rfl)) (fun _ _ _ h => h) (Or.inl ⟨by rfl, ?_⟩) hHeld ?_ ?_;rotate_left
  ·rintro w' ⟨s0, s1, s2⟩
   go_simp;with_reducible rfl
  rotate_left
  ·simp only [Act.put, za_, zb_, zc_, i64_w, i32_w]
   rfl
  refine join_ (σ := Value × Value × Value × Nat) 2 #[true, true, true, true, true, true, true, true, true, true, false, false] (fun s_ => [(15, .agg #[.int .i64 t751, .int .i64 t752, s_.1]), (17, s_.2.1), (19, .tuple #[.agg #[.int .i64 t759, .int .i64 t760, .int .i64 t761], s_.2.2.1]), (6, .pointer (some ⟨s_.2.2.2, 0, none⟩)), (13, .tuple #[.agg #[.int .i64 t759, .int .i64 t760, .int .i64 t761], s_.2.2.1]), (20, .agg #[.int .i64 t759, .int .i64 t760, .int .i64 t761]), (21, s_.2.2.1)]) (fun s_ w' => (w'.cell? ⟨gb748, 0, none⟩ = some (.int .i64 a0_0) ∧ w'.cell? ⟨gb748, 1, none⟩ = some (.int .i64 a0_1) ∧ w'.cell? ⟨gb748, 2, none⟩ = some (.slice A0_2 l0_2.length c0_2)) ∧ (Kd.R k78 78 w' w.heap.size (fun _ => True) s_.1 t765) ∧ (Kd.R (Kd.int .i64) 3 w' w.heap.size (fun k_ => some k_ ≠ (s_.2.2.1 : Value).ownBlock) s_.2.1 t756) ∧ (Kd.R (Kd.int .i64) 3 w' w.heap.size (fun k_ => some k_ ≠ (s_.2.1 : Value).ownBlock) s_.2.2.1 t762) ∧ (w'.heap[gb748]? = some (.cells #[.int .i64 a0_0, .int .i64 a0_1, .slice A0_2 l0_2.length c0_2] 48 (0, 0))) ∧ (w'.heap[gb749]? = some (.cells #[.int .i64 0, .int .i64 0, .int .i64 0] 90 (0, 0))) ∧ (w'.heap[s_.2.2.2]? = some (.cells #[.int .i64 0, .int .i64 0, .int .i64 0] 90 (0, 0))) ∧ (w.heap.size ≤ s_.2.2.2) ∧ (w.heap.size ≤ s_.2.2.2) ∧ (gb748 ≠ s_.2.2.2) ∧ (s_.2.2.2 ≠ gb748) ∧ (gb749 ≠ s_.2.2.2) ∧ (s_.2.2.2 ≠ gb749) ∧ (Below w.heap.size w w')) ?_ ?_;rotate_left
  ·intro hCont
   refine two_ (i := 1) (j := 9) (Ni := some 15) (Nj := some 6) #[true, true, true, false, true, false, false, false, false, false, false, false] #[true, false, true, false, true, false, false, false, false, true, false, false] rfl rfl rfl rfl (two_of HT_.out (by kernel_rfl)) (by decide) (by decide) (fun K hK => ?_) (fun K hK => ?_)
   ·skip
    refine goes_ Try.func89 (by kernel_rfl) rfl #[.agg #[.int .i64 a0_0, .int .i64 a0_1, .slice A0_2 l0_2.length c0_2]] (by rfl) rfl rfl (by (try simp only [ma_, mb_, mc_]); first | done | rfl | (simp only [List.length_drop, List.length_take]; rfl)) ?_;with_reducible refine (impl_copyBoard.calls a0_0 a0_1 _ _ l0_2 t751 t752 t753 _ ?side1 ?side2 A5.out).mono ?_
    (case side1 => exact Kd.C_mv (Kd.C_below HR0_2.out HB.out))
    (case side2 => exact HC0_2.out)
    rintro e w14 ⟨v754, rfl, ho0, hb⟩;refine ⟨_, rfl, ?_⟩;refine ev4 (Kd.R_lower ho0 (below_size (bm HB))) (kb BK748 hb) (kb BK749 hb) (bs HB hb) ?_;clear BK748 BK749 HB;intro HO755 BK748 BK749 HB;(try clear hb);(try clear hb2);(try clear hk);(try clear hi);(try clear ho0);refine hK.out _ _ ⟨(blk_cell BK748.out 0).trans rfl, (blk_cell BK748.out 1).trans rfl, (blk_cell BK748.out 2).trans rfl⟩ (fun hHeld => ?_);clear hK K;refine norm_ (a' := ?_) ?_ ?_;rotate_left
    ·show Act.put _ (some 15) _ = _
     simp only [Act.put, za_, zb_, zc_, i64_w, i32_w];rfl
    refine two_ (i := 3) (j := 9) (Ni := some 17) (Nj := some 6) #[true, true, true, true, true, false, false, false, false, false, false, false] #[true, true, true, false, true, false, false, false, false, true, false, false] rfl rfl rfl rfl (two_of HT_.out (by kernel_rfl)) (by decide) (by decide) (fun K hK => ?_) (fun K hK => ?_)
    ·skip
     refine goes_ Try.func116 (by kernel_rfl) rfl #[.agg #[.int .i64 a0_0, .int .i64 a0_1, .slice A0_2 l0_2.length c0_2]] (by rfl) rfl rfl (by (try simp only [ma_, mb_, mc_]); first | done | rfl | (simp only [List.length_drop, List.length_take]; rfl)) ?_;with_reducible refine (impl_groupNumbers.calls k a0_0 a0_1 _ _ l0_2 t756 _ ?side1 ?side2 A6.out).mono ?_
     (case side1 => exact Kd.C_mv (Kd.C_below HR0_2.out HB.out))
     (case side2 => exact HC0_2.out)
     rintro e w15 ⟨v757, rfl, ho0, hb⟩;refine ⟨_, rfl, ?_⟩;refine ev5 (Kd.R_below (Kd.R_mv HO755.out) hb) (Kd.R_lower ho0 (below_size (bm HB))) (kb BK748 hb) (kb BK749 hb) (bs HB hb) ?_;clear HO755 BK748 BK749 HB;intro HO755 HO758 BK748 BK749 HB;(try clear hb);(try clear hb2);(try clear hk);(try clear hi);(try clear ho0);obtain ⟨Ao16, co16, eo16⟩ := Kd.R_slice HO755.out;(first | subst eo16 | (injection eo16 with f1_ f2_ f3_; have f4_ := f1_.symm; have f5_ := f3_.symm; clear f1_ f2_ f3_; subst f4_; subst f5_))
     obtain ⟨Ao17, co17, eo17⟩ := Kd.R_slice HO758.out;(first | subst eo17 | (injection eo17 with f1_ f2_ f3_; have f4_ := f1_.symm; have f5_ := f3_.symm; clear f1_ f2_ f3_; subst f4_; subst f5_))
     refine hK.out _ _ ⟨(blk_cell BK748.out 0).trans rfl, (blk_cell BK748.out 1).trans rfl, (blk_cell BK748.out 2).trans rfl⟩ (fun hHeld => ?_);clear hK K;refine norm_ (a' := ?_) ?_ ?_;rotate_left
     ·show Act.put _ (some 17) _ = _
      simp only [Act.put, za_, zb_, zc_, i64_w, i32_w];rfl
     refine two_ (i := 5) (j := 9) (Ni := some 19) (Nj := some 6) #[true, true, true, true, true, true, false, false, false, false, false, false] #[true, true, true, true, true, false, false, false, false, true, false, false] rfl rfl rfl rfl (two_of HT_.out (by kernel_rfl)) (by decide) (by decide) (fun K hK => ?_) (fun K hK => ?_)
     ·skip
      refine goes_ Try.func115 (by kernel_rfl) rfl #[.agg #[.int .i64 t751, .int .i64 t752, .slice Ao16 t753.length co16], .slice Ao17 t756.length co17, .int .i64 a1] (by rfl) rfl rfl (by (try simp only [ma_, mb_, mc_]); first | done | rfl | (simp only [List.length_drop, List.length_take]; rfl)) ?_;with_reducible refine (impl_drop.calls k t751 t752 (fun k_ => some k_ = (.slice Ao16 t753.length co16 : Value).ownBlock) (.slice Ao16 t753.length co16) t753 _ _ t756 a1 t759 t760 t761 t762 t765 w _ ?side1 ?side2 ?side3 ?side4 A7.out).mono ?_
      (case side1 => exact bm HB)
      (case side2 => exact Kd.R_tight rfl HO755.out)
      (case side3 => exact Kd.C_kept_own ((Kd.R_apart' HO758.out (Kd.R_typed HO755.out) (by decide))) (fun k_ hk_ hs_ => (hk_.2) hs_))
      (case side4 => exact (Kd.R_reads' HO758.out).2.1)
      rintro e w18 ⟨v763, rfl, ho0, hy0, hb, hkp⟩;refine ⟨_, rfl, ?_⟩;refine ev6 (blk_kept (km_ BK748) hkp (fun hs_ => (fun e_ => (Kd.R_ne HO755.out BK748.out (by decide)) e_) hs_)) (blk_kept (km_ BK749) hkp (fun hs_ => (fun e_ => (Kd.R_ne HO755.out BK749.out (by decide)) e_) hs_)) (Kd.R_reok rfl hy0 (fun k_ e_ => HO755.out.1 k_ e_)) (Kd.R_mono (ok' := fun k_ => some k_ ≠ (v763 : Value).ownBlock) (Kd.R_keptB ((Kd.R_apart' HO758.out (Kd.R_typed HO755.out) (by decide))) hkp (fun k_ hk_ hs_ => (hk_.2) hs_)) (fun k_ hk_ => fun e_ => Or.elim (ho0.1 k_ e_.symm) (fun hs_ => hk_.2.1 hs_) (fun hn_ => Nat.not_le.2 hk_.2.2 hn_))) (Kd.R_mono (ok' := fun k_ => some k_ ≠ (.slice Ao17 t756.length co17 : Value).ownBlock) ho0 (fun k_ hk_ => Or.elim hk_ (fun hs_ => fun e_ => ((((Kd.R_apart' HO758.out (Kd.R_typed HO755.out) (by decide))).1 k_ e_.symm).2) hs_) (fun hn_ => (Kd.fresh' (Kd.R_lt (Kd.R_mv HO758.out)) k_ hn_)))) (hb) ?_;clear BK748 BK749 HO755 HO758 HB;intro BK748 BK749 HO755 HO758 HO764 HB;(try clear hb);(try clear hkp);(try clear ho0);(try clear hy0);refine hK.out _ _ ⟨(blk_cell BK748.out 0).trans rfl, (blk_cell BK748.out 1).trans rfl, (blk_cell BK748.out 2).trans rfl⟩ (fun hHeld => ?_);clear hK K;refine norm_ (a' := ?_) ?_ ?_;rotate_left
      ·show Act.put _ (some 19) _ = _
       simp only [Act.put, za_, zb_, zc_, i64_w, i32_w];rfl
      refine pure_ (i := 6) (N := some 13) (v := ?_) (a' := ?_) #[true, true, true, true, true, true, true, false, false, false, false, false] rfl rfl (any_of HT_.out (by kernel_rfl)) (fun _ _ _ h => h) (Or.inl ⟨by rfl, ?_⟩) ?_ ?_;rotate_left
      ·intro w'
       go_simp;with_reducible rfl
      rotate_left
      ·simp only [Act.put, za_, zb_, zc_, i64_w, i32_w]
       rfl
      refine pure_ (i := 7) (N := some 20) (v := ?_) (a' := ?_) #[true, true, true, true, true, true, true, true, false, false, false, false] rfl rfl (any_of HT_.out (by kernel_rfl)) (fun _ _ _ h => h) (Or.inl ⟨by rfl, ?_⟩) ?_ ?_;rotate_left
      ·intro w'
       go_simp;with_reducible rfl
      rotate_left
      ·simp only [Act.put, za_, zb_, zc_, i64_w, i32_w]
       rfl
      refine pure_ (i := 8) (N := some 21) (v := ?_) (a' := ?_) #[true, true, true, true, true, true, true, true, true, false, false, false] rfl rfl (any_of HT_.out (by kernel_rfl)) (fun _ _ _ h => h) (Or.inl ⟨by rfl, ?_⟩) ?_ ?_;rotate_left
      ·intro w'
       go_simp;with_reducible rfl
      rotate_left
      ·simp only [Act.put, za_, zb_, zc_, i64_w, i32_w]
       rfl
      refine one_ (i := 9) (N := some 6) #[true, true, true, true, true, true, true, true, true, true, false, false] rfl rfl (one_of HT_.out (by kernel_rfl)) (by decide) (fun K hK => ?_);refine box_step ?hg (N := 6) ?hd (cs := #[.int .i64 0, .int .i64 0, .int .i64 0]) (t := 90) ?hr ?_; (case hd => rfl); (case hg => rfl); (case hr => first | (go_simp; done) | (go_simp; rfl));intro gb766 hg w19 hbox hb;refine ev12 (Kd.R_below (Kd.R_mv HO755.out) hb) (Kd.R_below (Kd.R_mv HO758.out) hb) (Kd.R_below (Kd.R_mv HO764.out) hb) (kb BK748 hb) (kb BK749 hb) (bs HB hb) (hbox) (gle hg HB) (gle hg HB) (gnf hg BK748) (gne hg BK748) (gnf hg BK749) ?_; intro n0_ n1_ n2_ n3_ n4_ n5_ n6_ n7_ n8_ n9_ n10_ n11_;refine ev1 (gne hg BK749) ?_; intro n12_;clear HO755 HO758 HO764 BK748 BK749 HB;revert n0_ n1_ n2_ n3_ n4_ n5_ n6_ n7_ n8_ n9_ n10_ n11_ n12_;intro HO755 HO758 HO764 BK748 BK749 HB BK766 GW766 GE766 NB748_766 NB766_748 NB749_766 NB766_749;clear hb hbox hg;refine hK.out _ _ ⟨(blk_cell BK748.out 0).trans rfl, (blk_cell BK748.out 1).trans rfl, (blk_cell BK748.out 2).trans rfl⟩ (fun hHeld => ?_);clear hK K;refine norm_ (a' := ?_) ?_ ?_;rotate_left
      ·show Act.put _ (some 6) _ = _
       simp only [Act.put, za_, zb_, zc_, i64_w, i32_w];rfl
      exact norm_ (by simp only [putAll, Act.put, za_, zb_, zc_]) (hCont (.slice Ao16 t753.length co16, .slice Ao17 t756.length co17, v763, gb766) _ ⟨hHeld, (Kd.R_mv HO755.out), (Kd.R_mv HO758.out), (Kd.R_mv HO764.out), (km_ BK748), (km_ BK749), (km_ BK766), GW766.out, GE766.out, NB748_766.out, NB766_748.out, NB749_766.out, NB766_749.out, (bm HB)⟩)
     ·skip
      refine box_step ?hg (N := 6) ?hd (cs := #[.int .i64 0, .int .i64 0, .int .i64 0]) (t := 90) ?hr ?_; (case hd => rfl); (case hg => rfl); (case hr => first | (go_simp; done) | (go_simp; rfl));intro gb766 hg w16 hbox hb;refine ev12 (Kd.R_below (Kd.R_mv HO755.out) hb) (Kd.R_below (Kd.R_mv HO758.out) hb) (kb BK748 hb) (kb BK749 hb) (bs HB hb) (hbox) (gle hg HB) (gle hg HB) (gnf hg BK748) (gne hg BK748) (gnf hg BK749) (gne hg BK749) ?_;clear HO755 HO758 BK748 BK749 HB;intro HO755 HO758 BK748 BK749 HB BK766 GW766 GE766 NB748_766 NB766_748 NB749_766 NB766_749;clear hb hbox hg;obtain ⟨Ao17, co17, eo17⟩ := Kd.R_slice HO755.out;(first | subst eo17 | (injection eo17 with f1_ f2_ f3_; have f4_ := f1_.symm; have f5_ := f3_.symm; clear f1_ f2_ f3_; subst f4_; subst f5_))
      obtain ⟨Ao18, co18, eo18⟩ := Kd.R_slice HO758.out;(first | subst eo18 | (injection eo18 with f1_ f2_ f3_; have f4_ := f1_.symm; have f5_ := f3_.symm; clear f1_ f2_ f3_; subst f4_; subst f5_))
      refine hK.out _ _ ⟨(blk_cell BK748.out 0).trans rfl, (blk_cell BK748.out 1).trans rfl, (blk_cell BK748.out 2).trans rfl⟩ (fun hHeld => ?_);clear hK K;refine norm_ (a' := ?_) ?_ ?_;rotate_left
      ·show Act.put _ (some 6) _ = _
       simp only [Act.put, za_, zb_, zc_, i64_w, i32_w];rfl
      refine one_ (i := 5) (N := some 19) #[true, true, true, true, true, true, false, false, false, true, false, false] rfl rfl (one_of HT_.out (by kernel_rfl)) (by decide) (fun K hK => ?_);refine goes_ Try.func115 (by kernel_rfl) rfl #[.agg #[.int .i64 t751, .int .i64 t752, .slice Ao17 t753.length co17], .slice Ao18 t756.length co18, .int .i64 a1] (by rfl) rfl rfl (by (try simp only [ma_, mb_, mc_]); first | done | rfl | (simp only [List.length_drop, List.length_take]; rfl)) ?_;with_reducible refine (impl_drop.calls k t751 t752 (fun k_ => some k_ = (.slice Ao17 t753.length co17 : Value).ownBlock) (.slice Ao17 t753.length co17) t753 _ _ t756 a1 t759 t760 t761 t762 t765 w _ ?side1 ?side2 ?side3 ?side4 A7.out).mono ?_
      (case side1 => exact bm HB)
      (case side2 => exact Kd.R_tight rfl HO755.out)
      (case side3 => exact Kd.C_kept_own ((Kd.R_apart' HO758.out (Kd.R_typed HO755.out) (by decide))) (fun k_ hk_ hs_ => (hk_.2) hs_))
      (case side4 => exact (Kd.R_reads' HO758.out).2.1)
      rintro e w19 ⟨v763, rfl, ho0, hy0, hb, hkp⟩;refine ⟨_, rfl, ?_⟩;refine ev7 (blk_kept (km_ BK748) hkp (fun hs_ => (fun e_ => (Kd.R_ne HO755.out BK748.out (by decide)) e_) hs_)) (blk_kept (km_ BK749) hkp (fun hs_ => (fun e_ => (Kd.R_ne HO755.out BK749.out (by decide)) e_) hs_)) (Kd.R_reok rfl hy0 (fun k_ e_ => HO755.out.1 k_ e_)) (Kd.R_mono (ok' := fun k_ => some k_ ≠ (v763 : Value).ownBlock) (Kd.R_keptB ((Kd.R_apart' HO758.out (Kd.R_typed HO755.out) (by decide))) hkp (fun k_ hk_ hs_ => (hk_.2) hs_)) (fun k_ hk_ => fun e_ => Or.elim (ho0.1 k_ e_.symm) (fun hs_ => hk_.2.1 hs_) (fun hn_ => Nat.not_le.2 hk_.2.2 hn_))) (blk_kept (km_ BK766) hkp (fun hs_ => (fun e_ => (Kd.R_ne HO755.out BK766.out (by decide)) e_) hs_)) (Kd.R_mono (ok' := fun k_ => some k_ ≠ (.slice Ao18 t756.length co18 : Value).ownBlock) ho0 (fun k_ hk_ => Or.elim hk_ (fun hs_ => fun e_ => ((((Kd.R_apart' HO758.out (Kd.R_typed HO755.out) (by decide))).1 k_ e_.symm).2) hs_) (fun hn_ => (Kd.fresh' (Kd.R_lt (Kd.R_mv HO758.out)) k_ hn_)))) (hb) ?_;clear BK748 BK749 HO755 HO758 BK766 HB;intro BK748 BK749 HO755 HO758 BK766 HO764 HB;(try clear hb);(try clear hkp);(try clear ho0);(try clear hy0);refine hK.out _ _ ⟨(blk_cell BK748.out 0).trans rfl, (blk_cell BK748.out 1).trans rfl, (blk_cell BK748.out 2).trans rfl⟩ (fun hHeld => ?_);clear hK K;refine norm_ (a' := ?_) ?_ ?_;rotate_left
      ·show Act.put _ (some 19) _ = _
       simp only [Act.put, za_, zb_, zc_, i64_w, i32_w];rfl
      refine pure_ (i := 6) (N := some 13) (v := ?_) (a' := ?_) #[true, true, true, true, true, true, true, false, false, true, false, false] rfl rfl (any_of HT_.out (by kernel_rfl)) (fun _ _ _ h => h) (Or.inl ⟨by rfl, ?_⟩) ?_ ?_;rotate_left
      ·intro w'
       go_simp;with_reducible rfl
      rotate_left
      ·simp only [Act.put, za_, zb_, zc_, i64_w, i32_w]
       rfl
      refine pure_ (i := 7) (N := some 20) (v := ?_) (a' := ?_) #[true, true, true, true, true, true, true, true, false, true, false, false] rfl rfl (any_of HT_.out (by kernel_rfl)) (fun _ _ _ h => h) (Or.inl ⟨by rfl, ?_⟩) ?_ ?_;rotate_left
      ·intro w'
       go_simp;with_reducible rfl
      rotate_left
      ·simp only [Act.put, za_, zb_, zc_, i64_w, i32_w]
       rfl
      refine pure_ (i := 8) (N := some 21) (v := ?_) (a' := ?_) #[true, true, true, true, true, true, true, true, true, true, false, false] rfl rfl (any_of HT_.out (by kernel_rfl)) (fun _ _ _ h => h) (Or.inl ⟨by rfl, ?_⟩) ?_ ?_;rotate_left
      ·intro w'
       go_simp;with_reducible rfl
      rotate_left
      ·simp only [Act.put, za_, zb_, zc_, i64_w, i32_w]
       rfl
      exact norm_ (by simp only [putAll, Act.put, za_, zb_, zc_]) (hCont (.slice Ao17 t753.length co17, .slice Ao18 t756.length co18, v763, gb766) _ ⟨hHeld, (Kd.R_mv HO755.out), (Kd.R_mv HO758.out), (Kd.R_mv HO764.out), (km_ BK748), (km_ BK749), (km_ BK766), GW766.out, GE766.out, NB748_766.out, NB766_748.out, NB749_766.out, NB766_749.out, (bm HB)⟩)
    ·skip
     refine box_step ?hg (N := 6) ?hd (cs := #[.int .i64 0, .int .i64 0, .int .i64 0]) (t := 90) ?hr ?_; (case hd => rfl); (case hg => rfl); (case hr => first | (go_simp; done) | (go_simp; rfl));intro gb766 hg w15 hbox hb;refine ev11 (Kd.R_below (Kd.R_mv HO755.out) hb) (kb BK748 hb) (kb BK749 hb) (bs HB hb) (hbox) (gle hg HB) (gle hg HB) (gnf hg BK748) (gne hg BK748) (gnf hg BK749) (gne hg BK749) ?_;clear HO755 BK748 BK749 HB;intro HO755 BK748 BK749 HB BK766 GW766 GE766 NB748_766 NB766_748 NB749_766 NB766_749;clear hb hbox hg;refine hK.out _ _ ⟨(blk_cell BK748.out 0).trans rfl, (blk_cell BK748.out 1).trans rfl, (blk_cell BK748.out 2).trans rfl⟩ (fun hHeld => ?_);clear hK K;refine norm_ (a' := ?_) ?_ ?_;rotate_left
     ·show Act.put _ (some 6) _ = _
      simp only [Act.put, za_, zb_, zc_, i64_w, i32_w];rfl
     refine one_ (i := 3) (N := some 17) #[true, true, true, true, true, false, false, false, false, true, false, false] rfl rfl (one_of HT_.out (by kernel_rfl)) (by decide) (fun K hK => ?_);refine goes_ Try.func116 (by kernel_rfl) rfl #[.agg #[.int .i64 a0_0, .int .i64 a0_1, .slice A0_2 l0_2.length c0_2]] (by rfl) rfl rfl (by (try simp only [ma_, mb_, mc_]); first | done | rfl | (simp only [List.length_drop, List.length_take]; rfl)) ?_;with_reducible refine (impl_groupNumbers.calls k a0_0 a0_1 _ _ l0_2 t756 _ ?side1 ?side2 A6.out).mono ?_
     (case side1 => exact Kd.C_mv (Kd.C_below HR0_2.out HB.out))
     (case side2 => exact HC0_2.out)
     rintro e w16 ⟨v757, rfl, ho0, hb⟩;refine ⟨_, rfl, ?_⟩;refine ev6 (Kd.R_below (Kd.R_mv HO755.out) hb) (Kd.R_lower ho0 (below_size (bm HB))) (kb BK748 hb) (kb BK749 hb) (kb BK766 hb) (bs HB hb) ?_;clear HO755 BK748 BK749 BK766 HB;intro HO755 HO758 BK748 BK749 BK766 HB;(try clear hb);(try clear hb2);(try clear hk);(try clear hi);(try clear ho0);obtain ⟨Ao17, co17, eo17⟩ := Kd.R_slice HO755.out;(first | subst eo17 | (injection eo17 with f1_ f2_ f3_; have f4_ := f1_.symm; have f5_ := f3_.symm; clear f1_ f2_ f3_; subst f4_; subst f5_))
     obtain ⟨Ao18, co18, eo18⟩ := Kd.R_slice HO758.out;(first | subst eo18 | (injection eo18 with f1_ f2_ f3_; have f4_ := f1_.symm; have f5_ := f3_.symm; clear f1_ f2_ f3_; subst f4_; subst f5_))
     refine hK.out _ _ ⟨(blk_cell BK748.out 0).trans rfl, (blk_cell BK748.out 1).trans rfl, (blk_cell BK748.out 2).trans rfl⟩ (fun hHeld => ?_);clear hK K;refine norm_ (a' := ?_) ?_ ?_;rotate_left
     ·show Act.put _ (some 17) _ = _
      simp only [Act.put, za_, zb_, zc_, i64_w, i32_w];rfl
     refine one_ (i := 5) (N := some 19) #[true, true, true, true, true, true, false, false, false, true, false, false] rfl rfl (one_of HT_.out (by kernel_rfl)) (by decide) (fun K hK => ?_);refine goes_ Try.func115 (by kernel_rfl) rfl #[.agg #[.int .i64 t751, .int .i64 t752, .slice Ao17 t753.length co17], .slice Ao18 t756.length co18, .int .i64 a1] (by rfl) rfl rfl (by (try simp only [ma_, mb_, mc_]); first | done | rfl | (simp only [List.length_drop, List.length_take]; rfl)) ?_;with_reducible refine (impl_drop.calls k t751 t752 (fun k_ => some k_ = (.slice Ao17 t753.length co17 : Value).ownBlock) (.slice Ao17 t753.length co17) t753 _ _ t756 a1 t759 t760 t761 t762 t765 w _ ?side1 ?side2 ?side3 ?side4 A7.out).mono ?_
     (case side1 => exact bm HB)
     (case side2 => exact Kd.R_tight rfl HO755.out)
     (case side3 => exact Kd.C_kept_own ((Kd.R_apart' HO758.out (Kd.R_typed HO755.out) (by decide))) (fun k_ hk_ hs_ => (hk_.2) hs_))
     (case side4 => exact (Kd.R_reads' HO758.out).2.1)
     rintro e w19 ⟨v763, rfl, ho0, hy0, hb, hkp⟩;refine ⟨_, rfl, ?_⟩;refine ev7 (blk_kept (km_ BK748) hkp (fun hs_ => (fun e_ => (Kd.R_ne HO755.out BK748.out (by decide)) e_) hs_)) (blk_kept (km_ BK749) hkp (fun hs_ => (fun e_ => (Kd.R_ne HO755.out BK749.out (by decide)) e_) hs_)) (Kd.R_reok rfl hy0 (fun k_ e_ => HO755.out.1 k_ e_)) (blk_kept (km_ BK766) hkp (fun hs_ => (fun e_ => (Kd.R_ne HO755.out BK766.out (by decide)) e_) hs_)) (Kd.R_mono (ok' := fun k_ => some k_ ≠ (v763 : Value).ownBlock) (Kd.R_keptB ((Kd.R_apart' HO758.out (Kd.R_typed HO755.out) (by decide))) hkp (fun k_ hk_ hs_ => (hk_.2) hs_)) (fun k_ hk_ => fun e_ => Or.elim (ho0.1 k_ e_.symm) (fun hs_ => hk_.2.1 hs_) (fun hn_ => Nat.not_le.2 hk_.2.2 hn_))) (Kd.R_mono (ok' := fun k_ => some k_ ≠ (.slice Ao18 t756.length co18 : Value).ownBlock) ho0 (fun k_ hk_ => Or.elim hk_ (fun hs_ => fun e_ => ((((Kd.R_apart' HO758.out (Kd.R_typed HO755.out) (by decide))).1 k_ e_.symm).2) hs_) (fun hn_ => (Kd.fresh' (Kd.R_lt (Kd.R_mv HO758.out)) k_ hn_)))) (hb) ?_;clear BK748 BK749 HO755 BK766 HO758 HB;intro BK748 BK749 HO755 BK766 HO758 HO764 HB;(try clear hb);(try clear hkp);(try clear ho0);(try clear hy0);refine hK.out _ _ ⟨(blk_cell BK748.out 0).trans rfl, (blk_cell BK748.out 1).trans rfl, (blk_cell BK748.out 2).trans rfl⟩ (fun hHeld => ?_);clear hK K;refine norm_ (a' := ?_) ?_ ?_;rotate_left
     ·show Act.put _ (some 19) _ = _
      simp only [Act.put, za_, zb_, zc_, i64_w, i32_w];rfl
     refine pure_ (i := 6) (N := some 13) (v := ?_) (a' := ?_) #[true, true, true, true, true, true, true, false, false, true, false, false] rfl rfl (any_of HT_.out (by kernel_rfl)) (fun _ _ _ h => h) (Or.inl ⟨by rfl, ?_⟩) ?_ ?_;rotate_left
     ·intro w'
      go_simp;with_reducible rfl
     rotate_left
     ·simp only [Act.put, za_, zb_, zc_, i64_w, i32_w]
      rfl
     refine pure_ (i := 7) (N := some 20) (v := ?_) (a' := ?_) #[true, true, true, true, true, true, true, true, false, true, false, false] rfl rfl (any_of HT_.out (by kernel_rfl)) (fun _ _ _ h => h) (Or.inl ⟨by rfl, ?_⟩) ?_ ?_;rotate_left
     ·intro w'
      go_simp;with_reducible rfl
     rotate_left
     ·simp only [Act.put, za_, zb_, zc_, i64_w, i32_w]
      rfl
     refine pure_ (i := 8) (N := some 21) (v := ?_) (a' := ?_) #[true, true, true, true, true, true, true, true, true, true, false, false] rfl rfl (any_of HT_.out (by kernel_rfl)) (fun _ _ _ h => h) (Or.inl ⟨by rfl, ?_⟩) ?_ ?_;rotate_left
     ·intro w'
      go_simp;with_reducible rfl
     rotate_left
     ·simp only [Act.put, za_, zb_, zc_, i64_w, i32_w]
      rfl
     exact norm_ (by simp only [putAll, Act.put, za_, zb_, zc_]) (hCont (.slice Ao17 t753.length co17, .slice Ao18 t756.length co18, v763, gb766) _ ⟨hHeld, (Kd.R_mv HO755.out), (Kd.R_mv HO758.out), (Kd.R_mv HO764.out), (km_ BK748), (km_ BK749), (km_ BK766), GW766.out, GE766.out, NB748_766.out, NB766_748.out, NB749_766.out, NB766_749.out, (bm HB)⟩)
   ·skip
    refine box_step ?hg (N := 6) ?hd (cs := #[.int .i64 0, .int .i64 0, .int .i64 0]) (t := 90) ?hr ?_; (case hd => rfl); (case hg => rfl); (case hr => first | (go_simp; done) | (go_simp; rfl));intro gb766 hg w14 hbox hb;refine ev10 (kb BK748 hb) (kb BK749 hb) (bs HB hb) (hbox) (gle hg HB) (gle hg HB) (gnf hg BK748) (gne hg BK748) (gnf hg BK749) (gne hg BK749) ?_;clear BK748 BK749 HB;intro BK748 BK749 HB BK766 GW766 GE766 NB748_766 NB766_748 NB749_766 NB766_749;clear hb hbox hg;refine hK.out _ _ ⟨(blk_cell BK748.out 0).trans rfl, (blk_cell BK748.out 1).trans rfl, (blk_cell BK748.out 2).trans rfl⟩ (fun hHeld => ?_);clear hK K;refine norm_ (a' := ?_) ?_ ?_;rotate_left
    ·show Act.put _ (some 6) _ = _
     simp only [Act.put, za_, zb_, zc_, i64_w, i32_w];rfl
    refine one_ (i := 1) (N := some 15) #[true, true, true, false, true, false, false, false, false, true, false, false] rfl rfl (one_of HT_.out (by kernel_rfl)) (by decide) (fun K hK => ?_);refine goes_ Try.func89 (by kernel_rfl) rfl #[.agg #[.int .i64 a0_0, .int .i64 a0_1, .slice A0_2 l0_2.length c0_2]] (by rfl) rfl rfl (by (try simp only [ma_, mb_, mc_]); first | done | rfl | (simp only [List.length_drop, List.length_take]; rfl)) ?_;with_reducible refine (impl_copyBoard.calls a0_0 a0_1 _ _ l0_2 t751 t752 t753 _ ?side1 ?side2 A5.out).mono ?_
    (case side1 => exact Kd.C_mv (Kd.C_below HR0_2.out HB.out))
    (case side2 => exact HC0_2.out)
    rintro e w15 ⟨v754, rfl, ho0, hb⟩;refine ⟨_, rfl, ?_⟩;refine ev5 (Kd.R_lower ho0 (below_size (bm HB))) (kb BK748 hb) (kb BK749 hb) (kb BK766 hb) (bs HB hb) ?_;clear BK748 BK749 BK766 HB;intro HO755 BK748 BK749 BK766 HB;(try clear hb);(try clear hb2);(try clear hk);(try clear hi);(try clear ho0);refine hK.out _ _ ⟨(blk_cell BK748.out 0).trans rfl, (blk_cell BK748.out 1).trans rfl, (blk_cell BK748.out 2).trans rfl⟩ (fun hHeld => ?_);clear hK K;refine norm_ (a' := ?_) ?_ ?_;rotate_left
    ·show Act.put _ (some 15) _ = _
     simp only [Act.put, za_, zb_, zc_, i64_w, i32_w];rfl
    refine one_ (i := 3) (N := some 17) #[true, true, true, true, true, false, false, false, false, true, false, false] rfl rfl (one_of HT_.out (by kernel_rfl)) (by decide) (fun K hK => ?_);refine goes_ Try.func116 (by kernel_rfl) rfl #[.agg #[.int .i64 a0_0, .int .i64 a0_1, .slice A0_2 l0_2.length c0_2]] (by rfl) rfl rfl (by (try simp only [ma_, mb_, mc_]); first | done | rfl | (simp only [List.length_drop, List.length_take]; rfl)) ?_;with_reducible refine (impl_groupNumbers.calls k a0_0 a0_1 _ _ l0_2 t756 _ ?side1 ?side2 A6.out).mono ?_
    (case side1 => exact Kd.C_mv (Kd.C_below HR0_2.out HB.out))
    (case side2 => exact HC0_2.out)
    rintro e w16 ⟨v757, rfl, ho0, hb⟩;refine ⟨_, rfl, ?_⟩;refine ev6 (Kd.R_below (Kd.R_mv HO755.out) hb) (Kd.R_lower ho0 (below_size (bm HB))) (kb BK748 hb) (kb BK749 hb) (kb BK766 hb) (bs HB hb) ?_;clear HO755 BK748 BK749 BK766 HB;intro HO755 HO758 BK748 BK749 BK766 HB;(try clear hb);(try clear hb2);(try clear hk);(try clear hi);(try clear ho0);obtain ⟨Ao17, co17, eo17⟩ := Kd.R_slice HO755.out;(first | subst eo17 | (injection eo17 with f1_ f2_ f3_; have f4_ := f1_.symm; have f5_ := f3_.symm; clear f1_ f2_ f3_; subst f4_; subst f5_))
    obtain ⟨Ao18, co18, eo18⟩ := Kd.R_slice HO758.out;(first | subst eo18 | (injection eo18 with f1_ f2_ f3_; have f4_ := f1_.symm; have f5_ := f3_.symm; clear f1_ f2_ f3_; subst f4_; subst f5_))
    refine hK.out _ _ ⟨(blk_cell BK748.out 0).trans rfl, (blk_cell BK748.out 1).trans rfl, (blk_cell BK748.out 2).trans rfl⟩ (fun hHeld => ?_);clear hK K;refine norm_ (a' := ?_) ?_ ?_;rotate_left
    ·show Act.put _ (some 17) _ = _
     simp only [Act.put, za_, zb_, zc_, i64_w, i32_w];rfl
    refine one_ (i := 5) (N := some 19) #[true, true, true, true, true, true, false, false, false, true, false, false] rfl rfl (one_of HT_.out (by kernel_rfl)) (by decide) (fun K hK => ?_);refine goes_ Try.func115 (by kernel_rfl) rfl #[.agg #[.int .i64 t751, .int .i64 t752, .slice Ao17 t753.length co17], .slice Ao18 t756.length co18, .int .i64 a1] (by rfl) rfl rfl (by (try simp only [ma_, mb_, mc_]); first | done | rfl | (simp only [List.length_drop, List.length_take]; rfl)) ?_;with_reducible refine (impl_drop.calls k t751 t752 (fun k_ => some k_ = (.slice Ao17 t753.length co17 : Value).ownBlock) (.slice Ao17 t753.length co17) t753 _ _ t756 a1 t759 t760 t761 t762 t765 w _ ?side1 ?side2 ?side3 ?side4 A7.out).mono ?_
    (case side1 => exact bm HB)
    (case side2 => exact Kd.R_tight rfl HO755.out)
    (case side3 => exact Kd.C_kept_own ((Kd.R_apart' HO758.out (Kd.R_typed HO755.out) (by decide))) (fun k_ hk_ hs_ => (hk_.2) hs_))
    (case side4 => exact (Kd.R_reads' HO758.out).2.1)
    rintro e w19 ⟨v763, rfl, ho0, hy0, hb, hkp⟩;refine ⟨_, rfl, ?_⟩;refine ev7 (blk_kept (km_ BK748) hkp (fun hs_ => (fun e_ => (Kd.R_ne HO755.out BK748.out (by decide)) e_) hs_)) (blk_kept (km_ BK749) hkp (fun hs_ => (fun e_ => (Kd.R_ne HO755.out BK749.out (by decide)) e_) hs_)) (blk_kept (km_ BK766) hkp (fun hs_ => (fun e_ => (Kd.R_ne HO755.out BK766.out (by decide)) e_) hs_)) (Kd.R_reok rfl hy0 (fun k_ e_ => HO755.out.1 k_ e_)) (Kd.R_mono (ok' := fun k_ => some k_ ≠ (v763 : Value).ownBlock) (Kd.R_keptB ((Kd.R_apart' HO758.out (Kd.R_typed HO755.out) (by decide))) hkp (fun k_ hk_ hs_ => (hk_.2) hs_)) (fun k_ hk_ => fun e_ => Or.elim (ho0.1 k_ e_.symm) (fun hs_ => hk_.2.1 hs_) (fun hn_ => Nat.not_le.2 hk_.2.2 hn_))) (Kd.R_mono (ok' := fun k_ => some k_ ≠ (.slice Ao18 t756.length co18 : Value).ownBlock) ho0 (fun k_ hk_ => Or.elim hk_ (fun hs_ => fun e_ => ((((Kd.R_apart' HO758.out (Kd.R_typed HO755.out) (by decide))).1 k_ e_.symm).2) hs_) (fun hn_ => (Kd.fresh' (Kd.R_lt (Kd.R_mv HO758.out)) k_ hn_)))) (hb) ?_;clear BK748 BK749 BK766 HO755 HO758 HB;intro BK748 BK749 BK766 HO755 HO758 HO764 HB;(try clear hb);(try clear hkp);(try clear ho0);(try clear hy0);refine hK.out _ _ ⟨(blk_cell BK748.out 0).trans rfl, (blk_cell BK748.out 1).trans rfl, (blk_cell BK748.out 2).trans rfl⟩ (fun hHeld => ?_);clear hK K;refine norm_ (a' := ?_) ?_ ?_;rotate_left
    ·show Act.put _ (some 19) _ = _
     simp only [Act.put, za_, zb_, zc_, i64_w, i32_w];rfl
    refine pure_ (i := 6) (N := some 13) (v := ?_) (a' := ?_) #[true, true, true, true, true, true, true, false, false, true, false, false] rfl rfl (any_of HT_.out (by kernel_rfl)) (fun _ _ _ h => h) (Or.inl ⟨by rfl, ?_⟩) ?_ ?_;rotate_left
    ·intro w'
     go_simp;with_reducible rfl
    rotate_left
    ·simp only [Act.put, za_, zb_, zc_, i64_w, i32_w]
     rfl
    refine pure_ (i := 7) (N := some 20) (v := ?_) (a' := ?_) #[true, true, true, true, true, true, true, true, false, true, false, false] rfl rfl (any_of HT_.out (by kernel_rfl)) (fun _ _ _ h => h) (Or.inl ⟨by rfl, ?_⟩) ?_ ?_;rotate_left
    ·intro w'
     go_simp;with_reducible rfl
    rotate_left
    ·simp only [Act.put, za_, zb_, zc_, i64_w, i32_w]
     rfl
    refine pure_ (i := 8) (N := some 21) (v := ?_) (a' := ?_) #[true, true, true, true, true, true, true, true, true, true, false, false] rfl rfl (any_of HT_.out (by kernel_rfl)) (fun _ _ _ h => h) (Or.inl ⟨by rfl, ?_⟩) ?_ ?_;rotate_left
    ·intro w'
     go_simp;with_reducible rfl
    rotate_left
    ·simp only [Act.put, za_, zb_, zc_, i64_w, i32_w]
     rfl
    exact norm_ (by simp only [putAll, Act.put, za_, zb_, zc_]) (hCont (.slice Ao17 t753.length co17, .slice Ao18 t756.length co18, v763, gb766) _ ⟨hHeld, (Kd.R_mv HO755.out), (Kd.R_mv HO758.out), (Kd.R_mv HO764.out), (km_ BK748), (km_ BK749), (km_ BK766), GW766.out, GE766.out, NB748_766.out, NB766_748.out, NB749_766.out, NB766_749.out, (bm HB)⟩)
  rintro ⟨v754, v757, v763, gb766⟩ w20 ⟨hS_, h0_, h1_, h2_, h3_, h4_, h5_, h6_, h7_, h8_, h9_, h10_, h11_, h12_⟩;have n0_ : Aside0 (Kd.R k78 78 w20 w.heap.size (fun _ => True) v754 t765) := ⟨h0_⟩
  have n1_ : Aside0 (Kd.R (Kd.int .i64) 3 w20 w.heap.size (fun k_ => some k_ ≠ (v763 : Value).ownBlock) v757 t756) := ⟨h1_⟩
  have n2_ : Aside0 (Kd.R (Kd.int .i64) 3 w20 w.heap.size (fun k_ => some k_ ≠ (v757 : Value).ownBlock) v763 t762) := ⟨h2_⟩
  have n3_ : Aside0 (w20.heap[gb748]? = some (.cells #[.int .i64 a0_0, .int .i64 a0_1, .slice A0_2 l0_2.length c0_2] 48 (0, 0))) := ⟨h3_⟩
  have n4_ : Aside0 (w20.heap[gb749]? = some (.cells #[.int .i64 0, .int .i64 0, .int .i64 0] 90 (0, 0))) := ⟨h4_⟩
  have n5_ : Aside0 (w20.heap[gb766]? = some (.cells #[.int .i64 0, .int .i64 0, .int .i64 0] 90 (0, 0))) := ⟨h5_⟩
  have n6_ : Aside0 (w.heap.size ≤ gb766) := ⟨h6_⟩
  have n7_ : Aside0 (w.heap.size ≤ gb766) := ⟨h7_⟩
  have n8_ : Aside0 (gb748 ≠ gb766) := ⟨h8_⟩
  have n9_ : Aside0 (gb766 ≠ gb748) := ⟨h9_⟩
  have n10_ : Aside0 (gb749 ≠ gb766) := ⟨h10_⟩
  have n11_ : Aside0 (gb766 ≠ gb749) := ⟨h11_⟩
  have n12_ : Aside0 (Below w.heap.size w w20) := ⟨h12_⟩
  clear BK748;clear BK749;clear HB;clear h0_ h1_ h2_ h3_ h4_ h5_ h6_ h7_ h8_ h9_ h10_ h11_ h12_;have HO755 := n0_;have HO758 := n1_;have HO764 := n2_;have BK748 := n3_;have BK749 := n4_;have BK766 := n5_;have GW766 := n6_;have GE766 := n7_;have NB748_766 := n8_;have NB766_748 := n9_;have NB749_766 := n10_;have NB766_749 := n11_;have HB := n12_;clear n0_ n1_ n2_ n3_ n4_ n5_ n6_ n7_ n8_ n9_ n10_ n11_ n12_;have hHeld : w20.cell? ⟨gb748, 0, none⟩ = some (.int .i64 a0_0) ∧ w20.cell? ⟨gb748, 1, none⟩ = some (.int .i64 a0_1) ∧ w20.cell? ⟨gb748, 2, none⟩ = some (.slice A0_2 l0_2.length c0_2) := hS_;refine norm_ (a' := ?_) ?_ ?_;rotate_left
  ·simp only [putAll, Act.put, za_, zb_, zc_]
   rfl
  refine one_ (i := 10) (N := none) #[true, true, true, true, true, true, true, true, true, true, true, false] rfl rfl (one_of HT_.out (by kernel_rfl)) (by decide) (fun K hK => ?_);have hs21 : w20.cell? ⟨gb766, 0, none⟩ = some (.int .i64 0) := (blk_cell BK766.out 0).trans rfl;have hfs21 := blk_frozen BK766.out 0;have hns21_0 := NB748_766.out;have hns21_1 := NB749_766.out;have hms21_0 := NB766_748.out;have hms21_1 := NB766_749.out;have hs22 : w20.cell? ⟨gb766, 1, none⟩ = some (.int .i64 0) := (blk_cell BK766.out 1).trans rfl;have hfs22 := blk_frozen BK766.out 1;have hns22_0 := NB748_766.out;have hns22_1 := NB749_766.out;have hms22_0 := NB766_748.out;have hms22_1 := NB766_749.out;have hs23 : w20.cell? ⟨gb766, 2, none⟩ = some (.int .i64 0) := (blk_cell BK766.out 2).trans rfl;have hfs23 := blk_frozen BK766.out 2;have hns23_0 := NB748_766.out;have hns23_1 := NB749_766.out;have hms23_0 := NB766_748.out;have hms23_1 := NB766_749.out;refine skip_ (w1 := ?_) (by rfl) rfl ?_ ?_;rotate_left
  ·go_simp
   rfl
  refine hK.out _ _ ⟨((cell_far (p := ⟨gb766, _, none⟩) NB748_766.out _).trans (((cell_far (p := ⟨gb766, _, none⟩) NB748_766.out _).trans (((cell_far (p := ⟨gb766, _, none⟩) NB748_766.out _).trans (hHeld.1)))))), ((cell_far (p := ⟨gb766, _, none⟩) NB748_766.out _).trans (((cell_far (p := ⟨gb766, _, none⟩) NB748_766.out _).trans (((cell_far (p := ⟨gb766, _, none⟩) NB748_766.out _).trans (hHeld.2.1)))))), ((cell_far (p := ⟨gb766, _, none⟩) NB748_766.out _).trans (((cell_far (p := ⟨gb766, _, none⟩) NB748_766.out _).trans (((cell_far (p := ⟨gb766, _, none⟩) NB748_766.out _).trans (hHeld.2.2))))))⟩ (fun hHeld => ?_);clear hK K;refine pure_ (i := 11) (N := some 7) (v := ?_) (a' := ?_) #[true, true, true, true, true, true, true, true, true, true, true, true] rfl rfl (any_of HT_.out (by kernel_rfl)) (fun _ _ _ h => h) (Or.inl ⟨by rfl, ?_⟩) ?_ ?_;rotate_left
  ·intro w'
   go_simp;with_reducible rfl
  rotate_left
  ·simp only [Act.put, za_, zb_, zc_, i64_w, i32_w]
   rfl
  refine done_ (done_of HT_.out (by kernel_rfl)) ?_;have hnb24 := NB766_748.out;have hnc24 := NB748_766.out;have hnb25 := NB766_749.out;have hnc25 := NB749_766.out;obtain ⟨hcz26_0, hcz26_1, hcz26_2, hfz26_0, hfz26_1, hfz26_2⟩ := bt3 BK766;obtain ⟨hcz27_0, hcz27_1, hcz27_2, hfz27_0, hfz27_1, hfz27_2⟩ := bt3 BK749;try go_wp2
  refine bodyPost_ret (results_ct rfl _ _ gb749 90 #[.int .i64 t759, .int .i64 t760, .int .i64 t761] (0, 0) _ rfl (fp BK749 rfl) Try.underlying90 rfl (by kernel_rfl)) rfl ?_;exact ⟨by first | rfl | (simp [e0_, e1_] <;> rfl) | (simp [*, e0_, e1_] <;> rfl), bm HB⟩
 ·replace c4 := Bool.eq_false_iff.mpr c4
  subst c4;have H1 : (some (0, 0, 0, false)) = some (r1, r2, r3, r4) := by rw [if_neg (show ¬ (false = true) by decide)] at H; exact H
  clear H;have H := H1;clear H1;simp only [Option.some.injEq, Prod.mk.injEq] at H;obtain ⟨rfl, rfl, rfl, rfl⟩ := H;go_enter Try.func79, Try.ntmps79;go_wp2_with (first | ((with_reducible refine gate_dst (N := 2) rfl ?_); refine box_event ?hg (N := 2) ?hd (cs := #[.int .i64 a0_0, .int .i64 a0_1, .slice A0_2 l0_2.length c0_2]) (t := 48) ?hr ?_; (case hd => rfl); (case hg => rfl); (case hr => first | (go_simp; done) | (go_simp; rfl)); intro gb748 hg w28 hbox hb; refine ev4 (bs HB hb) (hbox) (gle hg HB) (gle hg HB) ?_; clear HB; intro HB BK748 GW748 GE748; clear hb hbox hg) | ((with_reducible refine gate_dst (N := 4) rfl ?_); refine box_event ?hg (N := 4) ?hd (cs := #[.int .i64 0, .int .i64 0, .int .i64 0]) (t := 90) ?hr ?_; (case hd => rfl); (case hg => rfl); (case hr => first | (go_simp; done) | (go_simp; rfl)); intro gb749 hg w29 hbox hb; refine ev7 (kb BK748 hb) (bs HB hb) (hbox) (gle hg HB) (gle hg HB) (gnf hg BK748) (gne hg BK748) ?_; clear BK748 HB; intro BK748 HB BK749 GW749 GE749 NB748_749 NB749_748; clear hb hbox hg; have hnb30 := NB748_749.out; have hnc30 := NB749_748.out; obtain ⟨hcz31_0, hcz31_1, hcz31_2, hfz31_0, hfz31_1, hfz31_2⟩ := bt3 BK748) | ((with_reducible refine gate_callee (f := 78) rfl ?_); refine goesL_ (some 10) rfl rfl Try.func78 (by kernel_rfl) rfl #[.agg #[.int .i64 a0_0, .int .i64 a0_1, .slice A0_2 l0_2.length c0_2], .int .i64 a1] rfl (by (try simp only [ma_, mb_, mc_]); first | done | rfl | (simp only [List.length_drop, List.length_take]; rfl)) ?_; (with_reducible refine (impl_validEntry.calls k a0_0 a0_1 _ _ l0_2 a1 false _ (Kd.C_mv (Kd.C_below HR0_2.out HB.out)) HC0_2.out A3.out).mono ?_); rintro e w32 ⟨rfl, hb⟩; refine ⟨_, rfl, ?_⟩; refine ev3 (kb BK748 hb) (kb BK749 hb) (bs HB hb) ?_; clear BK748 BK749 HB; intro BK748 BK749 HB; (try clear hb); (try clear hb2); (try clear hk); (try clear hi); obtain ⟨hcz33_0, hcz33_1, hcz33_2, hfz33_0, hfz33_1, hfz33_2⟩ := bt3 BK749))
  refine bodyPost_ret (results_ct rfl _ _ gb749 90 #[.int .i64 0, .int .i64 0, .int .i64 0] (0, 0) _ rfl (fp BK749 rfl) Try.underlying90 rfl (by kernel_rfl)) rfl ?_;exact ⟨by first | rfl | (simp [e0_, e1_] <;> rfl) | (simp [*, e0_, e1_] <;> rfl), bm HB⟩
end Go.Proofs.Ytjogiiobaakjkaa.F
