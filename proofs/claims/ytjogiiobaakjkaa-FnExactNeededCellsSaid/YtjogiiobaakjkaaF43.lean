-- Written by a program of this session (a patched print) out of the translation; Lean checks it.
import Derived.Test.YtjogiiobaakjkaaF0
import Derived.Test.YtjogiiobaakjkaaF5
import Derived.Test.YtjogiiobaakjkaaF8
import Derived.Test.YtjogiiobaakjkaaF12
import Derived.Test.YtjogiiobaakjkaaF17
import Derived.Test.YtjogiiobaakjkaaF20
import Derived.Test.YtjogiiobaakjkaaF23
import Derived.Test.YtjogiiobaakjkaaF29
namespace Go.Proofs.Ytjogiiobaakjkaa.F
open Go.RowKit Go.Proofs.YtjogiiobaakjkaaV.PrintWords Go.Proofs.YtjogiiobaakjkaaV.PrintLast Go.Proofs.YtjogiiobaakjkaaV.PrintMore
attribute [local go_sem] max2_int min2_int max_two min_two max_three min_three max_four min_four
attribute [local go_sem] Try.underlying30 Try.underlying35 Try.underlying44 Try.underlying48 Try.underlying62 Try.underlying66 Try.underlying78 Try.underlying90 Try.underlying112
set_option linter.unusedVariables false
set_option linter.unusedSimpArgs false

/-! ### spec_NeededCells: function 54 -/
def spec_NeededCells.l0 : Nat → Int → List Int → List Int → List (S78) → Int → Int → Int → Int → List (S78) → Option (List Int × Bool)
 | 0, _, _, _, _, _, _, _, _, _ => none
 | k + 1, x1, x6, x7, x20, x21, x22, x1629000, x1629001, x1629002 => if x22 < x21 then (if 0 ≤ x22 then (if x22 < (x20.length : Int) then (if ((rd_T78 x20 x22).f0) = 0 then (spec_NeededCells.l0 k x1 x6 x7 x20 x21 (wrap64 (x22 + 1)) x1629000 x1629001 x1629002) else ((spec_boWith.f x1629000 x1629001 x1629002 x22 0 0).bind fun bt1636 => ((spec_vfValues.f k bt1636.1 bt1636.2.1 bt1636.2.2 x1).bind fun t1641 => ((spec_l1Same.f k t1641 x6).bind fun t1644 => (if t1644 = true then (spec_NeededCells.l0 k x1 x6 x7 x20 x21 (wrap64 (x22 + 1)) x1629000 x1629001 x1629002) else (if x7.length < 17592186044416 then (spec_NeededCells.l0 k x1 x6 (x7 ++ [x22]) x20 x21 (wrap64 (x22 + 1)) x1629000 x1629001 x1629002) else (none))))))) else (none)) else (none)) else (some (x7, true))
def spec_NeededCells.f (k : Nat) (a0_0 : Int) (a0_1 : Int) (l0_2 : List (S78)) (a1 : Int) : Option (List Int × Bool) := (spec_vfAsked.f k a0_0 a0_1 l0_2 a1).bind fun t1629 => (if t1629 = true then ((spec_vfValues.f k a0_0 a0_1 l0_2 a1).bind fun t1630 => ((spec_l1Has.f k t1630 (-1)).bind fun t1633 => (if t1633 = true then (some (([] : List Int), false)) else (spec_NeededCells.l0 k a1 t1630 ([] : List Int) l0_2 (l0_2.length : Int) 0 a0_0 a0_1 l0_2)))) else (some (([] : List Int), false)))
set_option maxHeartbeats 8000000 in
set_option maxRecDepth 100000 in
theorem spec_NeededCells.calls (k : Nat) (a0_0 : Int) (a0_1 : Int) (A0_2 : Option Addr) (c0_2 : Nat) (l0_2 : List (S78)) (a1 : Int) (r1 : List Int) (r2 : Bool) (w : World) (hr0_2 : Kd.C k78 w A0_2 l0_2.length l0_2) (hc0_2 : l0_2.length ≤ c0_2) (h : spec_NeededCells.f k a0_0 a0_1 l0_2 a1 = some (r1, r2)) :
  Calls Try.prog 54 #[.agg #[.int .i64 a0_0, .int .i64 a0_1, .slice A0_2 l0_2.length c0_2], .int .i64 a1] w fun e w' => ∃ v0_ : Value, e = .returned (.tuple #[v0_, .bool r2]) ∧ Kd.R (Kd.int .i64) 3 w' w.heap.size (fun _ => True) v0_ r1 ∧ Below w.heap.size w w' := by
 have HR0_2 := Aside0.mk hr0_2
 have HC0_2 := Aside0.mk hc0_2
 clear hr0_2 hc0_2
 have HB := Aside0.mk (Below.refl w.heap.size w)
 have H : ((spec_vfAsked.f k a0_0 a0_1 l0_2 a1).bind fun t1629 => (if t1629 = true then ((spec_vfValues.f k a0_0 a0_1 l0_2 a1).bind fun t1630 => ((spec_l1Has.f k t1630 (-1)).bind fun t1633 => (if t1633 = true then (some (([] : List Int), false)) else (spec_NeededCells.l0 k a1 t1630 ([] : List Int) l0_2 (l0_2.length : Int) 0 a0_0 a0_1 l0_2)))) else (some (([] : List Int), false)))) = some (r1, r2) := h
 clear h
 replace H := Option.bind_eq_some_iff.mp H
 obtain ⟨t1629, A30, H⟩ := H
 replace H : (if t1629 = true then ((spec_vfValues.f k a0_0 a0_1 l0_2 a1).bind fun t1630 => ((spec_l1Has.f k t1630 (-1)).bind fun t1633 => (if t1633 = true then (some (([] : List Int), false)) else (spec_NeededCells.l0 k a1 t1630 ([] : List Int) l0_2 (l0_2.length : Int) 0 a0_0 a0_1 l0_2)))) else (some (([] : List Int), false))) = some (r1, r2) := H
 have A3 := Aside0.mk A30
 clear A30
 by_cases c4 : t1629 = true
 ·subst c4
  have H1 : ((spec_vfValues.f k a0_0 a0_1 l0_2 a1).bind fun t1630 => ((spec_l1Has.f k t1630 (-1)).bind fun t1633 => (if t1633 = true then (some (([] : List Int), false)) else (spec_NeededCells.l0 k a1 t1630 ([] : List Int) l0_2 (l0_2.length : Int) 0 a0_0 a0_1 l0_2)))) = some (r1, r2) := by rw [if_pos rfl] at H; exact H
  clear H
  have H := H1
  clear H1
  replace H := Option.bind_eq_some_iff.mp H
  obtain ⟨t1630, A50, H⟩ := H
  replace H : ((spec_l1Has.f k t1630 (-1)).bind fun t1633 => (if t1633 = true then (some (([] : List Int), false)) else (spec_NeededCells.l0 k a1 t1630 ([] : List Int) l0_2 (l0_2.length : Int) 0 a0_0 a0_1 l0_2))) = some (r1, r2) := H
  have A5 := Aside0.mk A50
  clear A50
  replace H := Option.bind_eq_some_iff.mp H
  obtain ⟨t1633, A60, H⟩ := H
  replace H : (if t1633 = true then (some (([] : List Int), false)) else (spec_NeededCells.l0 k a1 t1630 ([] : List Int) l0_2 (l0_2.length : Int) 0 a0_0 a0_1 l0_2)) = some (r1, r2) := H
  have A6 := Aside0.mk A60
  clear A60
  by_cases c7 : t1633 = true
  ·subst c7
   have H1 : (some (([] : List Int), false)) = some (r1, r2) := by rw [if_pos rfl] at H; exact H
   clear H
   have H := H1
   clear H1
   simp only [Option.some.injEq, Prod.mk.injEq] at H
   obtain ⟨rfl, rfl⟩ := H
   go_enter Try.func54, Try.ntmps54
   go_wp2_with (first | ((with_reducible refine gate_dst (N := 2) rfl ?_); refine box_event ?hg (N := 2) ?hd (cs := #[.int .i64 a0_0, .int .i64 a0_1, .slice A0_2 l0_2.length c0_2]) (t := 48) ?hr ?_; (case hd => rfl); (case hg => rfl); (case hr => first | (go_simp; done) | (go_simp; rfl)); intro gb1628 hg w8 hbox hb; refine ev4 (bs HB hb) (hbox) (gle hg HB) (gle hg HB) ?_; clear HB; intro HB BK1628 GW1628 GE1628; clear hb hbox hg; obtain ⟨hcz9_0, hcz9_1, hcz9_2, hfz9_0, hfz9_1, hfz9_2⟩ := bt3 BK1628) | ((with_reducible refine gate_callee (f := 98) rfl ?_); refine goesL_ (some 12) rfl rfl Try.func98 (by kernel_rfl) rfl #[.agg #[.int .i64 a0_0, .int .i64 a0_1, .slice A0_2 l0_2.length c0_2], .int .i64 a1] rfl (by (try simp only [ma_, mb_, mc_]); first | done | rfl | (simp only [List.length_drop, List.length_take]; rfl)) ?_; (with_reducible refine (spec_vfAsked.calls k a0_0 a0_1 _ _ l0_2 a1 true _ (Kd.C_mv (Kd.C_below HR0_2.out HB.out)) HC0_2.out A3.out).mono ?_); rintro e w10 ⟨rfl, hb⟩; refine ⟨_, rfl, ?_⟩; refine ev2 (kb BK1628 hb) (bs HB hb) ?_; clear BK1628 HB; intro BK1628 HB; (try clear hb); (try clear hb2); (try clear hk); (try clear hi); obtain ⟨hcz11_0, hcz11_1, hcz11_2, hfz11_0, hfz11_1, hfz11_2⟩ := bt3 BK1628) | ((with_reducible refine gate_callee (f := 92) rfl ?_); refine goesL_ (some 16) rfl rfl Try.func92 (by kernel_rfl) rfl #[.agg #[.int .i64 a0_0, .int .i64 a0_1, .slice A0_2 l0_2.length c0_2], .int .i64 a1] rfl (by (try simp only [ma_, mb_, mc_]); first | done | rfl | (simp only [List.length_drop, List.length_take]; rfl)) ?_; (with_reducible refine (spec_vfValues.calls k a0_0 a0_1 _ _ l0_2 a1 t1630 _ (Kd.C_mv (Kd.C_below HR0_2.out HB.out)) HC0_2.out A5.out).mono ?_); rintro e w12 ⟨v1631, rfl, ho0, hb⟩; refine ⟨_, rfl, ?_⟩; refine ev3 (Kd.R_lower ho0 (below_size (bm HB))) (kb BK1628 hb) (bs HB hb) ?_; clear BK1628 HB; intro HO1632 BK1628 HB; (try clear hb); (try clear hb2); (try clear hk); (try clear hi); (try clear ho0); obtain ⟨Ao13, co13, eo13⟩ := Kd.R_slice HO1632.out; subst eo13) | ((with_reducible refine gate_callee (f := 99) rfl ?_); refine goesL_ (some 18) rfl rfl Try.func99 (by kernel_rfl) rfl #[.slice Ao13 t1630.length co13, .int .i64 (-1)] rfl (by (try simp only [ma_, mb_, mc_]); first | done | rfl | (simp only [List.length_drop, List.length_take]; rfl)) ?_; (with_reducible refine (spec_l1Has.calls k _ _ t1630 (-1) true _ (Kd.C_mv (Kd.R_reads' HO1632.out).2.2) ((Kd.R_reads' HO1632.out).2.1) A6.out).mono ?_); rintro e w' ⟨rfl, ⟨nd, rfl⟩⟩; refine ⟨_, rfl, ?_⟩))
   go_ret2
   exact ⟨_, by first | rfl | (simp [e0_, e1_] <;> rfl) | (simp [*, e0_, e1_] <;> rfl), by first | exact Kd.R_nil _ _ _ _ _ | exact Kd.N_nil _ _ _ _ _ | exact Kd.V_nil _ _ _ _ _ | exact Kd.Q_nil _ _ _ _ _ | exact Kd.S_nil _ _ _ _ _, bm HB⟩
  ·replace c7 := Bool.eq_false_iff.mpr c7
   subst c7
   have H1 : (spec_NeededCells.l0 k a1 t1630 ([] : List Int) l0_2 (l0_2.length : Int) 0 a0_0 a0_1 l0_2) = some (r1, r2) := by rw [if_neg (show ¬ (false = true) by decide)] at H; exact H
   clear H
   have H := H1
   clear H1
   have H' := Aside0.mk H
   clear H
   go_enter Try.func54, Try.ntmps54
   go_wp2_with (first | ((with_reducible refine gate_dst (N := 2) rfl ?_); refine box_event ?hg (N := 2) ?hd (cs := #[.int .i64 a0_0, .int .i64 a0_1, .slice A0_2 l0_2.length c0_2]) (t := 48) ?hr ?_; (case hd => rfl); (case hg => rfl); (case hr => first | (go_simp; done) | (go_simp; rfl)); intro gb1628 hg w14 hbox hb; refine ev4 (bs HB hb) (hbox) (gle hg HB) (gle hg HB) ?_; clear HB; intro HB BK1628 GW1628 GE1628; clear hb hbox hg; obtain ⟨hcz15_0, hcz15_1, hcz15_2, hfz15_0, hfz15_1, hfz15_2⟩ := bt3 BK1628) | ((with_reducible refine gate_callee (f := 98) rfl ?_); refine goesL_ (some 12) rfl rfl Try.func98 (by kernel_rfl) rfl #[.agg #[.int .i64 a0_0, .int .i64 a0_1, .slice A0_2 l0_2.length c0_2], .int .i64 a1] rfl (by (try simp only [ma_, mb_, mc_]); first | done | rfl | (simp only [List.length_drop, List.length_take]; rfl)) ?_; (with_reducible refine (spec_vfAsked.calls k a0_0 a0_1 _ _ l0_2 a1 true _ (Kd.C_mv (Kd.C_below HR0_2.out HB.out)) HC0_2.out A3.out).mono ?_); rintro e w16 ⟨rfl, hb⟩; refine ⟨_, rfl, ?_⟩; refine ev2 (kb BK1628 hb) (bs HB hb) ?_; clear BK1628 HB; intro BK1628 HB; (try clear hb); (try clear hb2); (try clear hk); (try clear hi); obtain ⟨hcz17_0, hcz17_1, hcz17_2, hfz17_0, hfz17_1, hfz17_2⟩ := bt3 BK1628) | ((with_reducible refine gate_callee (f := 92) rfl ?_); refine goesL_ (some 16) rfl rfl Try.func92 (by kernel_rfl) rfl #[.agg #[.int .i64 a0_0, .int .i64 a0_1, .slice A0_2 l0_2.length c0_2], .int .i64 a1] rfl (by (try simp only [ma_, mb_, mc_]); first | done | rfl | (simp only [List.length_drop, List.length_take]; rfl)) ?_; (with_reducible refine (spec_vfValues.calls k a0_0 a0_1 _ _ l0_2 a1 t1630 _ (Kd.C_mv (Kd.C_below HR0_2.out HB.out)) HC0_2.out A5.out).mono ?_); rintro e w18 ⟨v1631, rfl, ho0, hb⟩; refine ⟨_, rfl, ?_⟩; refine ev3 (Kd.R_lower ho0 (below_size (bm HB))) (kb BK1628 hb) (bs HB hb) ?_; clear BK1628 HB; intro HO1632 BK1628 HB; (try clear hb); (try clear hb2); (try clear hk); (try clear hi); (try clear ho0); obtain ⟨Ao19, co19, eo19⟩ := Kd.R_slice HO1632.out; subst eo19) | ((with_reducible refine gate_callee (f := 99) rfl ?_); refine goesL_ (some 18) rfl rfl Try.func99 (by kernel_rfl) rfl #[.slice Ao19 t1630.length co19, .int .i64 (-1)] rfl (by (try simp only [ma_, mb_, mc_]); first | done | rfl | (simp only [List.length_drop, List.length_take]; rfl)) ?_; (with_reducible refine (spec_l1Has.calls k _ _ t1630 (-1) false _ (Kd.C_mv (Kd.R_reads' HO1632.out).2.2) ((Kd.R_reads' HO1632.out).2.1) A6.out).mono ?_); rintro e w' ⟨rfl, ⟨nd, rfl⟩⟩; refine ⟨_, rfl, ?_⟩; obtain ⟨hcz20_0, hcz20_1, hcz20_2, hfz20_0, hfz20_1, hfz20_2⟩ := bt3 BK1628))
   go_loopg [7, 22] k (fun kq v7 v22 w' => ∃ (x7_1 : List Int) (x22_1 : Int), v22 = .int .i64 x22_1 ∧ Aside0 (spec_NeededCells.l0 kq a1 t1630 x7_1 l0_2 (l0_2.length : Int) x22_1 a0_0 a0_1 l0_2 = some (r1, r2)) ∧ Aside0 (kq ≤ k) ∧ Aside0 (Kd.R (Kd.int .i64) 3 w' w.heap.size (fun k_ => some k_ ≠ (v7 : Value).ownBlock) (.slice Ao19 t1630.length co19) t1630) ∧ Aside0 (Kd.R (Kd.int .i64) 3 w' w.heap.size (fun k_ => some k_ ≠ ((.slice Ao19 t1630.length co19) : Value).ownBlock) v7 x7_1) ∧ Aside0 (w'.heap[gb1628]? = some (.cells #[.int .i64 a0_0, .int .i64 a0_1, (.slice A0_2 l0_2.length c0_2)] 48 (0, 0))) ∧ Aside0 (Below w.heap.size w w'))
   case atStart => exact ⟨(([] : List Int)), (0), (by first | rfl | (simp; done) | (simp [*]; done)), H', ⟨Nat.le_refl _⟩, ⟨Kd.R_mv (Kd.R_mono HO1632.out (fun _ hk => (by simp [Value.ownBlock])))⟩, ⟨by first | exact Kd.R_nil _ _ _ _ _ | exact Kd.N_nil _ _ _ _ _ | exact Kd.V_nil _ _ _ _ _ | exact Kd.Q_nil _ _ _ _ _ | exact Kd.S_nil _ _ _ _ _⟩, ⟨km_ BK1628⟩, ⟨bm HB⟩⟩
   case round =>
    clear H'
    try clear p2
    try clear c4
    try clear c5
    try clear c7
    try clear c9
    try clear hcz15_0
    try clear hcz15_1
    try clear hcz15_2
    try clear hcz17_0
    try clear hcz17_1
    try clear hcz17_2
    try clear hcz20_0
    try clear hcz20_1
    try clear hcz20_2
    try clear hfz15_0
    try clear hfz15_1
    try clear hfz15_2
    try clear hfz17_0
    try clear hfz17_1
    try clear hfz17_2
    try clear hfz20_0
    try clear hfz20_1
    try clear hfz20_2
    obtain ⟨x7_1, x22_1, rfl, HA, HK1, HO_6, HO_7, BK1628, HB⟩ := hrel
    cases gk with
    | zero => exact absurd HA.out (by simp [spec_NeededCells.l0])
    | succ k1 =>
     have H := HA.out
     clear HA
     simp only [spec_NeededCells.l0] at H
     by_cases c21 : x22_1 < (l0_2.length : Int)
     ·rw [if_pos c21] at H
      have c21b0 : decide (x22_1 < (l0_2.length : Int)) = true := decide_eq_true c21
      clear c21
      by_cases c22 : 0 ≤ x22_1
      ·rw [if_pos c22] at H
       have c22b0 : decide (0 ≤ x22_1) = true := decide_eq_true c22
       clear c22
       by_cases c23 : x22_1 < (l0_2.length : Int)
       ·rw [if_pos c23] at H
        have c23b0 : decide (x22_1 < (l0_2.length : Int)) = true := decide_eq_true c23
        clear c23
        by_cases c24 : ((rd_T78 l0_2 x22_1).f0) = 0
        ·rw [if_pos c24] at H
         have c24b0 : (((rd_T78 l0_2 x22_1).f0) == 0) = true := beq_iff_eq.mpr c24
         have c24b1 : (((rd_T78 l0_2 x22_1).f0) != 0) = false := bne_eq_false_iff_eq.mpr c24
         clear c24
         have H' := Aside0.mk H
         clear H
         have p1634 : 0 ≤ (x22_1 : Int) := of_decide_eq_true (by first | (with_reducible assumption) | assumption)
         have q1634 : x22_1 < (l0_2.length : Int) := of_decide_eq_true (by first | (with_reducible assumption) | assumption)
         obtain ⟨ad1634, e1634, hx1634_0, hx1634_1⟩ := at_T78 HR0_2.out x22_1 p1634 q1634
         cases e1634
         replace hx1634_0 := (HB.out.cell (World.block_lt_of_cell? w _ hx1634_0)).trans hx1634_0
         replace hx1634_1 := (HB.out.cell (World.block_lt_of_cell? w _ hx1634_1)).trans hx1634_1
         replace p1634 := eq_true p1634
         replace q1634 := eq_true q1634
         go_wp2_with (first | ((with_reducible refine gate_dst (N := 9) rfl ?_); refine box_event ?hg (N := 9) ?hd (cs := #[.int .i64 0, .int .i64 0]) (t := 78) ?hr ?_; (case hd => rfl); (case hg => rfl); (case hr => first | (go_simp; done) | (go_simp; rfl)); intro gb1635 hg w25 hbox hb; refine ev9 (Kd.R_below (Kd.R_mv HO_6.out) hb) (Kd.R_below (Kd.R_mv HO_7.out) hb) (kb BK1628 hb) (bs HB hb) (hbox) (gle hg HB) (gle hg HB) (gnf hg BK1628) (gne hg BK1628) ?_; clear HO_6 HO_7 BK1628 HB; intro HO_6 HO_7 BK1628 HB BK1635 GW1635 GE1635 NB1628_1635 NB1635_1628; clear hb hbox hg; have hnb26 := NB1635_1628.out; have hnc26 := NB1628_1635.out; obtain ⟨hcz27_0, hcz27_1, hfz27_0, hfz27_1⟩ := bt2 BK1635))
         go_roundg k1
         case measure => have := HK1.out; omega
         case rel => exact ⟨(x7_1), (wrap64 (x22_1 + 1)), (by first | rfl | (simp; done) | (simp [*]; done)), H', ⟨by have := HK1.out; omega⟩, ⟨Kd.R_mv (Kd.R_mono (Kd.R_far (p := ⟨gb1635, 1, none⟩) (Kd.R_far (p := ⟨gb1635, 0, none⟩) (Kd.R_types HO_6.out BK1635.out (by decide)) (fun _ hk => hk.2) (.int .i64 ((rd_T78 l0_2 x22_1).f0))) (fun _ hk => hk.2) (.int .i64 ((rd_T78 l0_2 x22_1).f1))) (fun _ hk => hk.1))⟩, ⟨Kd.R_mv (Kd.R_mono (Kd.R_far (p := ⟨gb1635, 1, none⟩) (Kd.R_far (p := ⟨gb1635, 0, none⟩) (Kd.R_types HO_7.out BK1635.out (by decide)) (fun _ hk => hk.2) (.int .i64 ((rd_T78 l0_2 x22_1).f0))) (fun _ hk => hk.2) (.int .i64 ((rd_T78 l0_2 x22_1).f1))) (fun _ hk => hk.1))⟩, ⟨fp BK1628 rfl⟩, ⟨bm HB⟩⟩
        ·rw [if_neg c24] at H
         have c24b0 : (((rd_T78 l0_2 x22_1).f0) == 0) = false := beq_eq_false_iff_ne.mpr c24
         have c24b1 : (((rd_T78 l0_2 x22_1).f0) != 0) = true := bne_iff_ne.mpr c24
         replace H := Option.bind_eq_some_iff.mp H
         obtain ⟨⟨t1636, t1637, t1638⟩, A280, H⟩ := H
         replace H : ((spec_vfValues.f k1 t1636 t1637 t1638 a1).bind fun t1641 => ((spec_l1Same.f k1 t1641 t1630).bind fun t1644 => (if t1644 = true then (spec_NeededCells.l0 k1 a1 t1630 x7_1 l0_2 (l0_2.length : Int) (wrap64 (x22_1 + 1)) a0_0 a0_1 l0_2) else (if x7_1.length < 17592186044416 then (spec_NeededCells.l0 k1 a1 t1630 (x7_1 ++ [x22_1]) l0_2 (l0_2.length : Int) (wrap64 (x22_1 + 1)) a0_0 a0_1 l0_2) else (none))))) = some (r1, r2) := H
         have A28 := Aside0.mk A280
         clear A280
         replace H := Option.bind_eq_some_iff.mp H
         obtain ⟨t1641, A290, H⟩ := H
         replace H : ((spec_l1Same.f k1 t1641 t1630).bind fun t1644 => (if t1644 = true then (spec_NeededCells.l0 k1 a1 t1630 x7_1 l0_2 (l0_2.length : Int) (wrap64 (x22_1 + 1)) a0_0 a0_1 l0_2) else (if x7_1.length < 17592186044416 then (spec_NeededCells.l0 k1 a1 t1630 (x7_1 ++ [x22_1]) l0_2 (l0_2.length : Int) (wrap64 (x22_1 + 1)) a0_0 a0_1 l0_2) else (none)))) = some (r1, r2) := H
         have A29 := Aside0.mk A290
         clear A290
         replace H := Option.bind_eq_some_iff.mp H
         obtain ⟨t1644, A300, H⟩ := H
         replace H : (if t1644 = true then (spec_NeededCells.l0 k1 a1 t1630 x7_1 l0_2 (l0_2.length : Int) (wrap64 (x22_1 + 1)) a0_0 a0_1 l0_2) else (if x7_1.length < 17592186044416 then (spec_NeededCells.l0 k1 a1 t1630 (x7_1 ++ [x22_1]) l0_2 (l0_2.length : Int) (wrap64 (x22_1 + 1)) a0_0 a0_1 l0_2) else (none))) = some (r1, r2) := H
         have A30 := Aside0.mk A300
         clear A300
         by_cases c31 : t1644 = true
         ·subst c31
          have H1 : (spec_NeededCells.l0 k1 a1 t1630 x7_1 l0_2 (l0_2.length : Int) (wrap64 (x22_1 + 1)) a0_0 a0_1 l0_2) = some (r1, r2) := by rw [if_pos rfl] at H; exact H
          clear H
          have H := H1
          clear H1
          have H' := Aside0.mk H
          clear H
          have p1634 : 0 ≤ (x22_1 : Int) := of_decide_eq_true (by first | (with_reducible assumption) | assumption)
          have q1634 : x22_1 < (l0_2.length : Int) := of_decide_eq_true (by first | (with_reducible assumption) | assumption)
          obtain ⟨ad1634, e1634, hx1634_0, hx1634_1⟩ := at_T78 HR0_2.out x22_1 p1634 q1634
          cases e1634
          replace hx1634_0 := (HB.out.cell (World.block_lt_of_cell? w _ hx1634_0)).trans hx1634_0
          replace hx1634_1 := (HB.out.cell (World.block_lt_of_cell? w _ hx1634_1)).trans hx1634_1
          replace p1634 := eq_true p1634
          replace q1634 := eq_true q1634
          go_wp2_with (first | ((with_reducible refine gate_dst (N := 9) rfl ?_); refine box_event ?hg (N := 9) ?hd (cs := #[.int .i64 0, .int .i64 0]) (t := 78) ?hr ?_; (case hd => rfl); (case hg => rfl); (case hr => first | (go_simp; done) | (go_simp; rfl)); intro gb1635 hg w32 hbox hb; refine ev9 (Kd.R_below (Kd.R_mv HO_6.out) hb) (Kd.R_below (Kd.R_mv HO_7.out) hb) (kb BK1628 hb) (bs HB hb) (hbox) (gle hg HB) (gle hg HB) (gnf hg BK1628) (gne hg BK1628) ?_; clear HO_6 HO_7 BK1628 HB; intro HO_6 HO_7 BK1628 HB BK1635 GW1635 GE1635 NB1628_1635 NB1635_1628; clear hb hbox hg; have hnb33 := NB1635_1628.out; have hnc33 := NB1628_1635.out; obtain ⟨hcz34_0, hcz34_1, hfz34_0, hfz34_1⟩ := bt2 BK1635; obtain ⟨hcz35_0, hcz35_1, hcz35_2, hfz35_0, hfz35_1, hfz35_2⟩ := bt3 BK1628) | (go_at_call 100; (with_reducible refine (spec_boWith.calls a0_0 a0_1 _ _ l0_2 x22_1 0 0 t1636 t1637 t1638 _ (Kd.C_below HR0_2.out (bm HB)) HC0_2.out A28.out).mono ?_); rintro e w36 ⟨v1639, rfl, ho0, hb⟩; refine ev6 (Kd.R_below (Kd.R_mv (Kd.R_mono (Kd.R_far (p := ⟨gb1635, 1, none⟩) (Kd.R_far (p := ⟨gb1635, 0, none⟩) (Kd.R_types HO_6.out BK1635.out (by decide)) (fun _ hk => hk.2) (.int .i64 ((rd_T78 l0_2 x22_1).f0))) (fun _ hk => hk.2) (.int .i64 ((rd_T78 l0_2 x22_1).f1))) (fun _ h_ => h_.1))) hb) (Kd.R_below (Kd.R_mv (Kd.R_mono (Kd.R_far (p := ⟨gb1635, 1, none⟩) (Kd.R_far (p := ⟨gb1635, 0, none⟩) (Kd.R_types HO_7.out BK1635.out (by decide)) (fun _ hk => hk.2) (.int .i64 ((rd_T78 l0_2 x22_1).f0))) (fun _ hk => hk.2) (.int .i64 ((rd_T78 l0_2 x22_1).f1))) (fun _ h_ => h_.1))) hb) (Kd.R_lower (Kd.R_newB ho0 (g := gb1635) (o := .cells #[.int .i64 ((rd_T78 l0_2 x22_1).f0), .int .i64 ((rd_T78 l0_2 x22_1).f1)] 78 (0, 0)) (fp BK1635 rfl)) (below_size (bm HB))) (blk_below (g := gb1628) (o := .cells #[.int .i64 a0_0, .int .i64 a0_1, .slice (some ad1634) l0_2.length c0_2] 48 (0, 0)) (fp BK1628 rfl) hb) (blk_below (g := gb1635) (o := .cells #[.int .i64 ((rd_T78 l0_2 x22_1).f0), .int .i64 ((rd_T78 l0_2 x22_1).f1)] 78 (0, 0)) (fp BK1635 rfl) hb) (bs HB hb) ?_; clear HO_6 HO_7 BK1628 BK1635 HB; intro HO_6 HO_7 HO1640 BK1628 BK1635 HB; (try clear hb); (try clear hb2); (try clear hk); (try clear hi); (try clear ho0); obtain ⟨Ao37, co37, eo37⟩ := Kd.R_slice HO1640.out; subst eo37) | (go_at_call 92; (with_reducible refine (spec_vfValues.calls k1 t1636 t1637 _ _ t1638 a1 t1641 _ (Kd.C_mv (Kd.R_reads' HO1640.out).2.2) ((Kd.R_reads' HO1640.out).2.1) A29.out).mono ?_); rintro e w38 ⟨v1642, rfl, ho0, hb⟩; refine ev7 (Kd.R_elder' (Kd.R_mv HO_6.out) (Kd.R_base ho0) hb) (Kd.R_elder' (Kd.R_mv HO_7.out) (Kd.R_base ho0) hb) (Kd.R_below (Kd.R_mv HO1640.out) hb) (Kd.R_lower (Kd.R_new' (Kd.R_new' ho0 (Kd.R_lt (Kd.R_mv HO_6.out))) (Kd.R_lt (Kd.R_mv HO_7.out))) (below_size (bm HB))) (kb BK1628 hb) (kb BK1635 hb) (bs HB hb) ?_; clear HO_6 HO_7 HO1640 BK1628 BK1635 HB; intro HO_6 HO_7 HO1640 HO1643 BK1628 BK1635 HB; (try clear hb); (try clear hb2); (try clear hk); (try clear hi); (try clear ho0); obtain ⟨Ao39, co39, eo39⟩ := Kd.R_slice HO1643.out; subst eo39) | (go_at_call 101; (with_reducible refine (spec_l1Same.calls k1 _ _ t1641 _ _ t1630 true _ (Kd.C_mv (Kd.R_reads' HO1643.out).2.2) ((Kd.R_reads' HO1643.out).2.1) (Kd.C_mv (Kd.R_reads' HO_6.out).2.2) ((Kd.R_reads' HO_6.out).2.1) A30.out).mono ?_); rintro e w' ⟨rfl, ⟨nd, rfl⟩⟩))
          go_roundg k1
          case measure => have := HK1.out; omega
          case rel => exact ⟨(x7_1), (wrap64 (x22_1 + 1)), (by first | rfl | (simp; done) | (simp [*]; done)), H', ⟨by have := HK1.out; omega⟩, ⟨Kd.R_mv (Kd.R_mono HO_6.out (fun _ hk => hk.1))⟩, ⟨Kd.R_mv (Kd.R_mono HO_7.out (fun _ hk => hk.1))⟩, ⟨km_ BK1628⟩, ⟨bm HB⟩⟩
         ·replace c31 := Bool.eq_false_iff.mpr c31
          subst c31
          have H1 : (if x7_1.length < 17592186044416 then (spec_NeededCells.l0 k1 a1 t1630 (x7_1 ++ [x22_1]) l0_2 (l0_2.length : Int) (wrap64 (x22_1 + 1)) a0_0 a0_1 l0_2) else (none)) = some (r1, r2) := by rw [if_neg (show ¬ (false = true) by decide)] at H; exact H
          clear H
          have H := H1
          clear H1
          by_cases c40 : x7_1.length < 17592186044416
          ·rw [if_pos c40] at H
           have LMc40 := Aside0.mk c40
           clear c40
           obtain ⟨y1645, hy1645⟩ : ∃ y_ : List Int, y_ = (x7_1 ++ [x22_1]) := ⟨_, rfl⟩
           replace H : (spec_NeededCells.l0 k1 a1 t1630 y1645 l0_2 (l0_2.length : Int) (wrap64 (x22_1 + 1)) a0_0 a0_1 l0_2) = some (r1, r2) := by first | (rw [hy1645]; with_reducible exact H) | (have H2_ := (Option.bind_some _ _).symm.trans H; rw [hy1645]; with_reducible exact H2_) | (have H2_ := (Option.bind_some _ _).symm.trans H; with_reducible exact H2_) | with_reducible exact H | (rw [hy1645]; exact H) | exact H
           have Ny1645 := Aside0.mk hy1645
           clear hy1645
           have H' := Aside0.mk H
           clear H
           have p1634 : 0 ≤ (x22_1 : Int) := of_decide_eq_true (by first | (with_reducible assumption) | assumption)
           have q1634 : x22_1 < (l0_2.length : Int) := of_decide_eq_true (by first | (with_reducible assumption) | assumption)
           obtain ⟨ad1634, e1634, hx1634_0, hx1634_1⟩ := at_T78 HR0_2.out x22_1 p1634 q1634
           cases e1634
           replace hx1634_0 := (HB.out.cell (World.block_lt_of_cell? w _ hx1634_0)).trans hx1634_0
           replace hx1634_1 := (HB.out.cell (World.block_lt_of_cell? w _ hx1634_1)).trans hx1634_1
           replace p1634 := eq_true p1634
           replace q1634 := eq_true q1634
           go_wp2_with (first | ((with_reducible refine gate_dst (N := 9) rfl ?_); refine box_event ?hg (N := 9) ?hd (cs := #[.int .i64 0, .int .i64 0]) (t := 78) ?hr ?_; (case hd => rfl); (case hg => rfl); (case hr => first | (go_simp; done) | (go_simp; rfl)); intro gb1635 hg w41 hbox hb; refine ev9 (Kd.R_below (Kd.R_mv HO_6.out) hb) (Kd.R_below (Kd.R_mv HO_7.out) hb) (kb BK1628 hb) (bs HB hb) (hbox) (gle hg HB) (gle hg HB) (gnf hg BK1628) (gne hg BK1628) ?_; clear HO_6 HO_7 BK1628 HB; intro HO_6 HO_7 BK1628 HB BK1635 GW1635 GE1635 NB1628_1635 NB1635_1628; clear hb hbox hg; have hnb42 := NB1635_1628.out; have hnc42 := NB1628_1635.out; obtain ⟨hcz43_0, hcz43_1, hfz43_0, hfz43_1⟩ := bt2 BK1635; obtain ⟨hcz44_0, hcz44_1, hcz44_2, hfz44_0, hfz44_1, hfz44_2⟩ := bt3 BK1628) | (go_at_call 100; (with_reducible refine (spec_boWith.calls a0_0 a0_1 _ _ l0_2 x22_1 0 0 t1636 t1637 t1638 _ (Kd.C_below HR0_2.out (bm HB)) HC0_2.out A28.out).mono ?_); rintro e w45 ⟨v1639, rfl, ho0, hb⟩; refine ev6 (Kd.R_below (Kd.R_mv (Kd.R_mono (Kd.R_far (p := ⟨gb1635, 1, none⟩) (Kd.R_far (p := ⟨gb1635, 0, none⟩) (Kd.R_types HO_6.out BK1635.out (by decide)) (fun _ hk => hk.2) (.int .i64 ((rd_T78 l0_2 x22_1).f0))) (fun _ hk => hk.2) (.int .i64 ((rd_T78 l0_2 x22_1).f1))) (fun _ h_ => h_.1))) hb) (Kd.R_below (Kd.R_mv (Kd.R_mono (Kd.R_far (p := ⟨gb1635, 1, none⟩) (Kd.R_far (p := ⟨gb1635, 0, none⟩) (Kd.R_types HO_7.out BK1635.out (by decide)) (fun _ hk => hk.2) (.int .i64 ((rd_T78 l0_2 x22_1).f0))) (fun _ hk => hk.2) (.int .i64 ((rd_T78 l0_2 x22_1).f1))) (fun _ h_ => h_.1))) hb) (Kd.R_lower (Kd.R_newB ho0 (g := gb1635) (o := .cells #[.int .i64 ((rd_T78 l0_2 x22_1).f0), .int .i64 ((rd_T78 l0_2 x22_1).f1)] 78 (0, 0)) (fp BK1635 rfl)) (below_size (bm HB))) (blk_below (g := gb1628) (o := .cells #[.int .i64 a0_0, .int .i64 a0_1, .slice (some ad1634) l0_2.length c0_2] 48 (0, 0)) (fp BK1628 rfl) hb) (blk_below (g := gb1635) (o := .cells #[.int .i64 ((rd_T78 l0_2 x22_1).f0), .int .i64 ((rd_T78 l0_2 x22_1).f1)] 78 (0, 0)) (fp BK1635 rfl) hb) (bs HB hb) ?_; clear HO_6 HO_7 BK1628 BK1635 HB; intro HO_6 HO_7 HO1640 BK1628 BK1635 HB; (try clear hb); (try clear hb2); (try clear hk); (try clear hi); (try clear ho0); obtain ⟨Ao46, co46, eo46⟩ := Kd.R_slice HO1640.out; subst eo46) | (go_at_call 92; (with_reducible refine (spec_vfValues.calls k1 t1636 t1637 _ _ t1638 a1 t1641 _ (Kd.C_mv (Kd.R_reads' HO1640.out).2.2) ((Kd.R_reads' HO1640.out).2.1) A29.out).mono ?_); rintro e w47 ⟨v1642, rfl, ho0, hb⟩; refine ev7 (Kd.R_elder' (Kd.R_mv HO_6.out) (Kd.R_base ho0) hb) (Kd.R_elder' (Kd.R_mv HO_7.out) (Kd.R_base ho0) hb) (Kd.R_below (Kd.R_mv HO1640.out) hb) (Kd.R_lower (Kd.R_new' (Kd.R_new' ho0 (Kd.R_lt (Kd.R_mv HO_6.out))) (Kd.R_lt (Kd.R_mv HO_7.out))) (below_size (bm HB))) (kb BK1628 hb) (kb BK1635 hb) (bs HB hb) ?_; clear HO_6 HO_7 HO1640 BK1628 BK1635 HB; intro HO_6 HO_7 HO1640 HO1643 BK1628 BK1635 HB; (try clear hb); (try clear hb2); (try clear hk); (try clear hi); (try clear ho0); obtain ⟨Ao48, co48, eo48⟩ := Kd.R_slice HO1643.out; subst eo48) | (go_at_call 101; (with_reducible refine (spec_l1Same.calls k1 _ _ t1641 _ _ t1630 false _ (Kd.C_mv (Kd.R_reads' HO1643.out).2.2) ((Kd.R_reads' HO1643.out).2.1) (Kd.C_mv (Kd.R_reads' HO_6.out).2.2) ((Kd.R_reads' HO_6.out).2.1) A30.out).mono ?_); rintro e w' ⟨rfl, ⟨nd, rfl⟩⟩) | ((with_reducible refine gate_builtin (b := .append) (xs := #[.tmp 41, .tmp 43]) rfl ?_); at_builtin; refine Kd.R_append (Kd.int .i64) (w0 := w) w.heap.size rfl (.tmp 41) (.tmp 43) 22 3 (.int .i64 0) 8 rfl Try.underlying22 info3 rfl (by decide) (by omega) u7 x7_1 x22_1 [.int .i64 x22_1] (fun k_ => some k_ ≠ (.slice Ao19 t1630.length co19 : Value).ownBlock ∧ some k_ ≠ (.slice Ao48 t1641.length co48 : Value).ownBlock) (fun _ => False) rfl rfl ?aP (fun _ hk => hk.elim) ?aF ?aO ?aB ?aS ?aL ?_; (case aP => exact rfl); (case aB => exact (bm HB)); (case aF => exact (fun k_ hk => ⟨Kd.fresh' (Kd.R_lt (Kd.R_mv HO_6.out)) k_ hk, Kd.fresh' (Kd.R_lt (Kd.R_mv HO1643.out)) k_ hk⟩)); (case aO => exact (Kd.R_mv HO_7.out)); (case aS => exact (below_size (bm HB))); (case aL => have := LMc40.out; omega); intro v1646 w49 ho hb hg hat; rw [← Ny1645.out] at ho; refine ev7 (Kd.R_after (ok := (fun k_ => some k_ ≠ (.slice Ao48 t1641.length co48 : Value).ownBlock)) (Kd.R_mv (Kd.R_mono HO_6.out (fun _ hk => ⟨hk.2, hk.1⟩))) hg hat) (blk_grown (km_ BK1628) hg (Kd.R_ne HO_7.out BK1628.out (by decide))) (blk_grown (km_ BK1635) hg (Kd.R_ne HO_7.out BK1635.out (by decide))) (Kd.R_over' (Kd.R_mv HO1640.out) (Kd.R_typed (Kd.R_mv HO_7.out)) (by decide) hg) (Kd.R_after (ok := (fun k_ => some k_ ≠ (.slice Ao19 t1630.length co19 : Value).ownBlock)) (Kd.R_mv (Kd.R_mono HO1643.out (fun _ hk => ⟨hk.1.2, hk.2⟩))) hg hat) (hb) (ho) ?_; clear HO_6 BK1628 BK1635 HO1640 HO1643 HB HO_7; intro HO_6 BK1628 BK1635 HO1640 HO1643 HB HO1647; clear ho hb hg hat))
           go_roundg k1
           case measure => have := HK1.out; omega
           case rel => exact ⟨(y1645), (wrap64 (x22_1 + 1)), (by first | rfl | (simp; done) | (simp [*]; done)), H', ⟨by have := HK1.out; omega⟩, ⟨Kd.R_mv (Kd.R_mono HO_6.out (fun _ hk => hk.2))⟩, ⟨Kd.R_mv (Kd.R_mono HO1647.out (fun _ hk => hk.1))⟩, ⟨km_ BK1628⟩, ⟨bm HB⟩⟩
          ·rw [if_neg c40] at H
           exact absurd H (by simp)
       ·rw [if_neg c23] at H
        exact absurd H (by simp)
      ·rw [if_neg c22] at H
       exact absurd H (by simp)
     ·rw [if_neg c21] at H
      have c21b0 : decide (x22_1 < (l0_2.length : Int)) = false := decide_eq_false c21
      clear c21
      simp only [Option.some.injEq, Prod.mk.injEq] at H
      obtain ⟨rfl, rfl⟩ := H
      go_wp2
      go_ret2
      exact ⟨_, by first | rfl | (simp [e0_, e1_] <;> rfl) | (simp [*, e0_, e1_] <;> rfl), Kd.R_mv (Kd.R_mono (ok' := fun k_ => True) HO_7.out (fun _ hk => trivial)), bm HB⟩
 ·replace c4 := Bool.eq_false_iff.mpr c4
  subst c4
  have H1 : (some (([] : List Int), false)) = some (r1, r2) := by rw [if_neg (show ¬ (false = true) by decide)] at H; exact H
  clear H
  have H := H1
  clear H1
  simp only [Option.some.injEq, Prod.mk.injEq] at H
  obtain ⟨rfl, rfl⟩ := H
  go_enter Try.func54, Try.ntmps54
  go_wp2_with (first | ((with_reducible refine gate_dst (N := 2) rfl ?_); refine box_event ?hg (N := 2) ?hd (cs := #[.int .i64 a0_0, .int .i64 a0_1, .slice A0_2 l0_2.length c0_2]) (t := 48) ?hr ?_; (case hd => rfl); (case hg => rfl); (case hr => first | (go_simp; done) | (go_simp; rfl)); intro gb1628 hg w50 hbox hb; refine ev4 (bs HB hb) (hbox) (gle hg HB) (gle hg HB) ?_; clear HB; intro HB BK1628 GW1628 GE1628; clear hb hbox hg; obtain ⟨hcz51_0, hcz51_1, hcz51_2, hfz51_0, hfz51_1, hfz51_2⟩ := bt3 BK1628) | ((with_reducible refine gate_callee (f := 98) rfl ?_); refine goesL_ (some 12) rfl rfl Try.func98 (by kernel_rfl) rfl #[.agg #[.int .i64 a0_0, .int .i64 a0_1, .slice A0_2 l0_2.length c0_2], .int .i64 a1] rfl (by (try simp only [ma_, mb_, mc_]); first | done | rfl | (simp only [List.length_drop, List.length_take]; rfl)) ?_; (with_reducible refine (spec_vfAsked.calls k a0_0 a0_1 _ _ l0_2 a1 false _ (Kd.C_mv (Kd.C_below HR0_2.out HB.out)) HC0_2.out A3.out).mono ?_); rintro e w52 ⟨rfl, hb⟩; refine ⟨_, rfl, ?_⟩; refine ev2 (kb BK1628 hb) (bs HB hb) ?_; clear BK1628 HB; intro BK1628 HB; (try clear hb); (try clear hb2); (try clear hk); (try clear hi)))
  go_ret2
  exact ⟨_, by first | rfl | (simp [e0_, e1_] <;> rfl) | (simp [*, e0_, e1_] <;> rfl), by first | exact Kd.R_nil _ _ _ _ _ | exact Kd.N_nil _ _ _ _ _ | exact Kd.V_nil _ _ _ _ _ | exact Kd.Q_nil _ _ _ _ _ | exact Kd.S_nil _ _ _ _ _, bm HB⟩

/-! ### impl_NeededCells: function 55 -/
def impl_NeededCells.l0 : Nat → Int → List Int → List Int → List (S78) → Int → Int → Int → Int → List (S78) → Option (List Int × Bool)
 | 0, _, _, _, _, _, _, _, _, _ => none
 | k + 1, x1, x6, x7, x22, x23, x24, x1649000, x1649001, x1649002 => if x24 < x23 then (if 0 ≤ x24 then (if x24 < (x22.length : Int) then (if ((rd_T78 x22 x24).f0) = 0 then (impl_NeededCells.l0 k x1 x6 x7 x22 x23 (wrap64 (x24 + 1)) x1649000 x1649001 x1649002) else ((impl_copyBoard.f x1649000 x1649001 x1649002).bind fun bt1659 => (if x24 < (bt1659.2.2.length : Int) then ((impl_entryValues.f k bt1659.1 bt1659.2.1 (bt1659.2.2.set (x24 : Int).toNat (⟨0, 0⟩ : S78)) x1).bind fun t1666 => ((slices_Equal_int_int.f k t1666 x6).bind fun t1669 => (if t1669 = true then (impl_NeededCells.l0 k x1 x6 x7 x22 x23 (wrap64 (x24 + 1)) x1649000 x1649001 x1649002) else (if x7.length < 17592186044416 then (impl_NeededCells.l0 k x1 x6 (x7 ++ [x24]) x22 x23 (wrap64 (x24 + 1)) x1649000 x1649001 x1649002) else (none))))) else (none)))) else (none)) else (none)) else (some (x7, true))
def impl_NeededCells.f (k : Nat) (a0_0 : Int) (a0_1 : Int) (l0_2 : List (S78)) (a1 : Int) : Option (List Int × Bool) := (impl_readByEntries.f k a0_0 a0_1 l0_2 a1).bind fun t1649 => (if t1649 = true then ((impl_entryValues.f k a0_0 a0_1 l0_2 a1).bind fun t1650 => ((slices_Contains_int_int.f k t1650 (-1)).bind fun t1653 => (if t1653 = true then (some (([] : List Int), false)) else (impl_NeededCells.l0 k a1 t1650 (([] : List Int)) l0_2 (l0_2.length : Int) 0 a0_0 a0_1 l0_2)))) else (some (([] : List Int), false)))
set_option maxHeartbeats 8000000 in
set_option maxRecDepth 100000 in
theorem impl_NeededCells.calls (k : Nat) (a0_0 : Int) (a0_1 : Int) (A0_2 : Option Addr) (c0_2 : Nat) (l0_2 : List (S78)) (a1 : Int) (r1 : List Int) (r2 : Bool) (w : World) (hr0_2 : Kd.C k78 w A0_2 l0_2.length l0_2) (hc0_2 : l0_2.length ≤ c0_2) (h : impl_NeededCells.f k a0_0 a0_1 l0_2 a1 = some (r1, r2)) :
  Calls Try.prog 55 #[.agg #[.int .i64 a0_0, .int .i64 a0_1, .slice A0_2 l0_2.length c0_2], .int .i64 a1] w fun e w' => ∃ v0_ : Value, e = .returned (.tuple #[v0_, .bool r2]) ∧ Kd.R (Kd.int .i64) 3 w' w.heap.size (fun _ => True) v0_ r1 ∧ Below w.heap.size w w' := by
 have HR0_2 := Aside0.mk hr0_2
 have HC0_2 := Aside0.mk hc0_2
 clear hr0_2 hc0_2
 have HB := Aside0.mk (Below.refl w.heap.size w)
 have H : ((impl_readByEntries.f k a0_0 a0_1 l0_2 a1).bind fun t1649 => (if t1649 = true then ((impl_entryValues.f k a0_0 a0_1 l0_2 a1).bind fun t1650 => ((slices_Contains_int_int.f k t1650 (-1)).bind fun t1653 => (if t1653 = true then (some (([] : List Int), false)) else (impl_NeededCells.l0 k a1 t1650 (([] : List Int)) l0_2 (l0_2.length : Int) 0 a0_0 a0_1 l0_2)))) else (some (([] : List Int), false)))) = some (r1, r2) := h
 clear h
 replace H := Option.bind_eq_some_iff.mp H
 obtain ⟨t1649, A30, H⟩ := H
 replace H : (if t1649 = true then ((impl_entryValues.f k a0_0 a0_1 l0_2 a1).bind fun t1650 => ((slices_Contains_int_int.f k t1650 (-1)).bind fun t1653 => (if t1653 = true then (some (([] : List Int), false)) else (impl_NeededCells.l0 k a1 t1650 (([] : List Int)) l0_2 (l0_2.length : Int) 0 a0_0 a0_1 l0_2)))) else (some (([] : List Int), false))) = some (r1, r2) := H
 have A3 := Aside0.mk A30
 clear A30
 by_cases c4 : t1649 = true
 ·subst c4
  have H1 : ((impl_entryValues.f k a0_0 a0_1 l0_2 a1).bind fun t1650 => ((slices_Contains_int_int.f k t1650 (-1)).bind fun t1653 => (if t1653 = true then (some (([] : List Int), false)) else (impl_NeededCells.l0 k a1 t1650 (([] : List Int)) l0_2 (l0_2.length : Int) 0 a0_0 a0_1 l0_2)))) = some (r1, r2) := by rw [if_pos rfl] at H; exact H
  clear H
  have H := H1
  clear H1
  replace H := Option.bind_eq_some_iff.mp H
  obtain ⟨t1650, A50, H⟩ := H
  replace H : ((slices_Contains_int_int.f k t1650 (-1)).bind fun t1653 => (if t1653 = true then (some (([] : List Int), false)) else (impl_NeededCells.l0 k a1 t1650 (([] : List Int)) l0_2 (l0_2.length : Int) 0 a0_0 a0_1 l0_2))) = some (r1, r2) := H
  have A5 := Aside0.mk A50
  clear A50
  replace H := Option.bind_eq_some_iff.mp H
  obtain ⟨t1653, A60, H⟩ := H
  replace H : (if t1653 = true then (some (([] : List Int), false)) else (impl_NeededCells.l0 k a1 t1650 (([] : List Int)) l0_2 (l0_2.length : Int) 0 a0_0 a0_1 l0_2)) = some (r1, r2) := H
  have A6 := Aside0.mk A60
  clear A60
  by_cases c7 : t1653 = true
  ·subst c7
   have H1 : (some (([] : List Int), false)) = some (r1, r2) := by rw [if_pos rfl] at H; exact H
   clear H
   have H := H1
   clear H1
   simp only [Option.some.injEq, Prod.mk.injEq] at H
   obtain ⟨rfl, rfl⟩ := H
   go_enter Try.func55, Try.ntmps55
   go_wp2_with (first | ((with_reducible refine gate_dst (N := 2) rfl ?_); refine box_event ?hg (N := 2) ?hd (cs := #[.int .i64 a0_0, .int .i64 a0_1, .slice A0_2 l0_2.length c0_2]) (t := 48) ?hr ?_; (case hd => rfl); (case hg => rfl); (case hr => first | (go_simp; done) | (go_simp; rfl)); intro gb1648 hg w8 hbox hb; refine ev4 (bs HB hb) (hbox) (gle hg HB) (gle hg HB) ?_; clear HB; intro HB BK1648 GW1648 GE1648; clear hb hbox hg; obtain ⟨hcz9_0, hcz9_1, hcz9_2, hfz9_0, hfz9_1, hfz9_2⟩ := bt3 BK1648) | ((with_reducible refine gate_callee (f := 102) rfl ?_); refine goesL_ (some 13) rfl rfl Try.func102 (by kernel_rfl) rfl #[.agg #[.int .i64 a0_0, .int .i64 a0_1, .slice A0_2 l0_2.length c0_2], .int .i64 a1] rfl (by (try simp only [ma_, mb_, mc_]); first | done | rfl | (simp only [List.length_drop, List.length_take]; rfl)) ?_; (with_reducible refine (impl_readByEntries.calls k a0_0 a0_1 _ _ l0_2 a1 true _ (Kd.C_mv (Kd.C_below HR0_2.out HB.out)) HC0_2.out A3.out).mono ?_); rintro e w10 ⟨rfl, hb⟩; refine ⟨_, rfl, ?_⟩; refine ev2 (kb BK1648 hb) (bs HB hb) ?_; clear BK1648 HB; intro BK1648 HB; (try clear hb); (try clear hb2); (try clear hk); (try clear hi); obtain ⟨hcz11_0, hcz11_1, hcz11_2, hfz11_0, hfz11_1, hfz11_2⟩ := bt3 BK1648) | ((with_reducible refine gate_callee (f := 103) rfl ?_); refine goesL_ (some 17) rfl rfl Try.func103 (by kernel_rfl) rfl #[.agg #[.int .i64 a0_0, .int .i64 a0_1, .slice A0_2 l0_2.length c0_2], .int .i64 a1] rfl (by (try simp only [ma_, mb_, mc_]); first | done | rfl | (simp only [List.length_drop, List.length_take]; rfl)) ?_; (with_reducible refine (impl_entryValues.calls k a0_0 a0_1 _ _ l0_2 a1 t1650 _ (Kd.C_mv (Kd.C_below HR0_2.out HB.out)) HC0_2.out A5.out).mono ?_); rintro e w12 ⟨v1651, rfl, ho0, hb⟩; refine ⟨_, rfl, ?_⟩; refine ev3 (Kd.R_lower ho0 (below_size (bm HB))) (kb BK1648 hb) (bs HB hb) ?_; clear BK1648 HB; intro HO1652 BK1648 HB; (try clear hb); (try clear hb2); (try clear hk); (try clear hi); (try clear ho0); obtain ⟨Ao13, co13, eo13⟩ := Kd.R_slice HO1652.out; subst eo13) | ((with_reducible refine gate_callee (f := 87) rfl ?_); refine goesL_ (some 19) rfl rfl Try.func87 (by kernel_rfl) rfl #[.slice Ao13 t1650.length co13, .int .i64 (-1)] rfl (by (try simp only [ma_, mb_, mc_]); first | done | rfl | (simp only [List.length_drop, List.length_take]; rfl)) ?_; (with_reducible refine (slices_Contains_int_int.calls k _ _ t1650 (-1) true _ (Kd.C_mv (Kd.R_reads' HO1652.out).2.2) ((Kd.R_reads' HO1652.out).2.1) A6.out).mono ?_); rintro e w' ⟨rfl, ⟨nd, rfl⟩⟩; refine ⟨_, rfl, ?_⟩))
   go_ret2
   exact ⟨_, by first | rfl | (simp [e0_, e1_] <;> rfl) | (simp [*, e0_, e1_] <;> rfl), by first | exact Kd.R_nil _ _ _ _ _ | exact Kd.N_nil _ _ _ _ _ | exact Kd.V_nil _ _ _ _ _ | exact Kd.Q_nil _ _ _ _ _ | exact Kd.S_nil _ _ _ _ _, bm HB⟩
  ·replace c7 := Bool.eq_false_iff.mpr c7
   subst c7
   have H1 : (impl_NeededCells.l0 k a1 t1650 (([] : List Int)) l0_2 (l0_2.length : Int) 0 a0_0 a0_1 l0_2) = some (r1, r2) := by rw [if_neg (show ¬ (false = true) by decide)] at H; exact H
   clear H
   have H := H1
   clear H1
   obtain ⟨y1654, hy1654⟩ : ∃ y_ : List Int, y_ = (([] : List Int)) := ⟨_, rfl⟩
   replace H : (impl_NeededCells.l0 k a1 t1650 y1654 l0_2 (l0_2.length : Int) 0 a0_0 a0_1 l0_2) = some (r1, r2) := by first | (rw [hy1654]; with_reducible exact H) | (have H2_ := (Option.bind_some _ _).symm.trans H; rw [hy1654]; with_reducible exact H2_) | (have H2_ := (Option.bind_some _ _).symm.trans H; with_reducible exact H2_) | with_reducible exact H | (rw [hy1654]; exact H) | exact H
   have Ny1654 := Aside0.mk hy1654
   clear hy1654
   have H' := Aside0.mk H
   clear H
   go_enter Try.func55, Try.ntmps55
   go_wp2_with (first | ((with_reducible refine gate_dst (N := 2) rfl ?_); refine box_event ?hg (N := 2) ?hd (cs := #[.int .i64 a0_0, .int .i64 a0_1, .slice A0_2 l0_2.length c0_2]) (t := 48) ?hr ?_; (case hd => rfl); (case hg => rfl); (case hr => first | (go_simp; done) | (go_simp; rfl)); intro gb1648 hg w14 hbox hb; refine ev4 (bs HB hb) (hbox) (gle hg HB) (gle hg HB) ?_; clear HB; intro HB BK1648 GW1648 GE1648; clear hb hbox hg; obtain ⟨hcz15_0, hcz15_1, hcz15_2, hfz15_0, hfz15_1, hfz15_2⟩ := bt3 BK1648) | ((with_reducible refine gate_callee (f := 102) rfl ?_); refine goesL_ (some 13) rfl rfl Try.func102 (by kernel_rfl) rfl #[.agg #[.int .i64 a0_0, .int .i64 a0_1, .slice A0_2 l0_2.length c0_2], .int .i64 a1] rfl (by (try simp only [ma_, mb_, mc_]); first | done | rfl | (simp only [List.length_drop, List.length_take]; rfl)) ?_; (with_reducible refine (impl_readByEntries.calls k a0_0 a0_1 _ _ l0_2 a1 true _ (Kd.C_mv (Kd.C_below HR0_2.out HB.out)) HC0_2.out A3.out).mono ?_); rintro e w16 ⟨rfl, hb⟩; refine ⟨_, rfl, ?_⟩; refine ev2 (kb BK1648 hb) (bs HB hb) ?_; clear BK1648 HB; intro BK1648 HB; (try clear hb); (try clear hb2); (try clear hk); (try clear hi); obtain ⟨hcz17_0, hcz17_1, hcz17_2, hfz17_0, hfz17_1, hfz17_2⟩ := bt3 BK1648) | ((with_reducible refine gate_callee (f := 103) rfl ?_); refine goesL_ (some 17) rfl rfl Try.func103 (by kernel_rfl) rfl #[.agg #[.int .i64 a0_0, .int .i64 a0_1, .slice A0_2 l0_2.length c0_2], .int .i64 a1] rfl (by (try simp only [ma_, mb_, mc_]); first | done | rfl | (simp only [List.length_drop, List.length_take]; rfl)) ?_; (with_reducible refine (impl_entryValues.calls k a0_0 a0_1 _ _ l0_2 a1 t1650 _ (Kd.C_mv (Kd.C_below HR0_2.out HB.out)) HC0_2.out A5.out).mono ?_); rintro e w18 ⟨v1651, rfl, ho0, hb⟩; refine ⟨_, rfl, ?_⟩; refine ev3 (Kd.R_lower ho0 (below_size (bm HB))) (kb BK1648 hb) (bs HB hb) ?_; clear BK1648 HB; intro HO1652 BK1648 HB; (try clear hb); (try clear hb2); (try clear hk); (try clear hi); (try clear ho0); obtain ⟨Ao19, co19, eo19⟩ := Kd.R_slice HO1652.out; subst eo19) | ((with_reducible refine gate_callee (f := 87) rfl ?_); refine goesL_ (some 19) rfl rfl Try.func87 (by kernel_rfl) rfl #[.slice Ao19 t1650.length co19, .int .i64 (-1)] rfl (by (try simp only [ma_, mb_, mc_]); first | done | rfl | (simp only [List.length_drop, List.length_take]; rfl)) ?_; (with_reducible refine (slices_Contains_int_int.calls k _ _ t1650 (-1) false _ (Kd.C_mv (Kd.R_reads' HO1652.out).2.2) ((Kd.R_reads' HO1652.out).2.1) A6.out).mono ?_); rintro e w' ⟨rfl, ⟨nd, rfl⟩⟩; refine ⟨_, rfl, ?_⟩) | ((with_reducible refine gate_dst (N := 20) rfl ?_); refine Kd.R_lit (Kd.int .i64) _ 3 ?hg (N := 20) ?hd (xs := ([] : List Int)) (inner := []) (ok := fun _ => True) (okp := fun _ => True) ?hr ?hp (fun _ hk => hk) trivial (Below.refl _ _) (Nat.le_refl _) (by simp) ?_; (case hd => rfl); (case hg => rfl); (case hr => first | (go_simp; done) | (go_simp; rfl)); (case hp => exact (Reps.none _ _)); intro v1655 w20 ho21 hb hg_ hnew_; clear hg_ hnew_; (first | rw [← Ny1654.out] at ho21 | (simp only [Int.reduceToNat] at ho21; rw [← Ny1654.out] at ho21)); refine ev4 (Kd.R_elder' (Kd.R_mv HO1652.out) (Kd.R_base ho21) hb) (Kd.R_lower (Kd.R_new' ho21 (Kd.R_lt (Kd.R_mv HO1652.out))) (below_size (bm HB))) (kb BK1648 hb) (bs HB hb) ?_; clear HO1652 BK1648 HB; intro HO1652 HO1656 BK1648 HB; clear hb ho21; obtain ⟨hcz22_0, hcz22_1, hcz22_2, hfz22_0, hfz22_1, hfz22_2⟩ := bt3 BK1648))
   go_loopg [7, 24] k (fun kq v7 v24 w' => ∃ (x7_1 : List Int) (x24_1 : Int), v24 = .int .i64 x24_1 ∧ Aside0 (impl_NeededCells.l0 kq a1 t1650 x7_1 l0_2 (l0_2.length : Int) x24_1 a0_0 a0_1 l0_2 = some (r1, r2)) ∧ Aside0 (kq ≤ k) ∧ Aside0 (Kd.R (Kd.int .i64) 3 w' w.heap.size (fun k_ => some k_ ≠ (v7 : Value).ownBlock) (.slice Ao19 t1650.length co19) t1650) ∧ Aside0 (Kd.R (Kd.int .i64) 3 w' w.heap.size (fun k_ => some k_ ≠ ((.slice Ao19 t1650.length co19) : Value).ownBlock) v7 x7_1) ∧ Aside0 (w'.heap[gb1648]? = some (.cells #[.int .i64 a0_0, .int .i64 a0_1, (.slice A0_2 l0_2.length c0_2)] 48 (0, 0))) ∧ Aside0 (Below w.heap.size w w'))
   case atStart => exact ⟨(y1654), (0), (by first | rfl | (simp; done) | (simp [*]; done)), H', ⟨Nat.le_refl _⟩, ⟨Kd.R_mv (Kd.R_mono HO1652.out (fun _ hk => hk.2))⟩, ⟨Kd.R_mv (Kd.R_mono HO1656.out (fun _ hk => hk.2))⟩, ⟨km_ BK1648⟩, ⟨bm HB⟩⟩
   case round =>
    clear H'
    try clear c1
    try clear p2
    try clear c4
    try clear c5
    try clear c7
    try clear c8
    try clear c10
    try clear hcz15_0
    try clear hcz15_1
    try clear hcz15_2
    try clear hcz17_0
    try clear hcz17_1
    try clear hcz17_2
    try clear hcz22_0
    try clear hcz22_1
    try clear hcz22_2
    try clear hfz15_0
    try clear hfz15_1
    try clear hfz15_2
    try clear hfz17_0
    try clear hfz17_1
    try clear hfz17_2
    try clear hfz22_0
    try clear hfz22_1
    try clear hfz22_2
    obtain ⟨x7_1, x24_1, rfl, HA, HK1, HO_6, HO_7, BK1648, HB⟩ := hrel
    cases gk with
    | zero => exact absurd HA.out (by simp [impl_NeededCells.l0])
    | succ k1 =>
     have H := HA.out
     clear HA
     simp only [impl_NeededCells.l0] at H
     by_cases c23 : x24_1 < (l0_2.length : Int)
     ·rw [if_pos c23] at H
      have c23b0 : decide (x24_1 < (l0_2.length : Int)) = true := decide_eq_true c23
      clear c23
      by_cases c24 : 0 ≤ x24_1
      ·rw [if_pos c24] at H
       have c24b0 : decide (0 ≤ x24_1) = true := decide_eq_true c24
       clear c24
       by_cases c25 : x24_1 < (l0_2.length : Int)
       ·rw [if_pos c25] at H
        have c25b0 : decide (x24_1 < (l0_2.length : Int)) = true := decide_eq_true c25
        clear c25
        by_cases c26 : ((rd_T78 l0_2 x24_1).f0) = 0
        ·rw [if_pos c26] at H
         have c26b0 : (((rd_T78 l0_2 x24_1).f0) == 0) = true := beq_iff_eq.mpr c26
         have c26b1 : (((rd_T78 l0_2 x24_1).f0) != 0) = false := bne_eq_false_iff_eq.mpr c26
         clear c26
         have H' := Aside0.mk H
         clear H
         have p1657 : 0 ≤ (x24_1 : Int) := of_decide_eq_true (by first | (with_reducible assumption) | assumption)
         have q1657 : x24_1 < (l0_2.length : Int) := of_decide_eq_true (by first | (with_reducible assumption) | assumption)
         obtain ⟨ad1657, e1657, hx1657_0, hx1657_1⟩ := at_T78 HR0_2.out x24_1 p1657 q1657
         cases e1657
         replace hx1657_0 := (HB.out.cell (World.block_lt_of_cell? w _ hx1657_0)).trans hx1657_0
         replace hx1657_1 := (HB.out.cell (World.block_lt_of_cell? w _ hx1657_1)).trans hx1657_1
         replace p1657 := eq_true p1657
         replace q1657 := eq_true q1657
         go_wp2_with (first | ((with_reducible refine gate_dst (N := 9) rfl ?_); refine box_event ?hg (N := 9) ?hd (cs := #[.int .i64 0, .int .i64 0]) (t := 78) ?hr ?_; (case hd => rfl); (case hg => rfl); (case hr => first | (go_simp; done) | (go_simp; rfl)); intro gb1658 hg w27 hbox hb; refine ev9 (Kd.R_below (Kd.R_mv HO_6.out) hb) (Kd.R_below (Kd.R_mv HO_7.out) hb) (kb BK1648 hb) (bs HB hb) (hbox) (gle hg HB) (gle hg HB) (gnf hg BK1648) (gne hg BK1648) ?_; clear HO_6 HO_7 BK1648 HB; intro HO_6 HO_7 BK1648 HB BK1658 GW1658 GE1658 NB1648_1658 NB1658_1648; clear hb hbox hg; have hnb28 := NB1658_1648.out; have hnc28 := NB1648_1658.out; obtain ⟨hcz29_0, hcz29_1, hfz29_0, hfz29_1⟩ := bt2 BK1658))
         go_roundg k1
         case measure => have := HK1.out; omega
         case rel => exact ⟨(x7_1), (wrap64 (x24_1 + 1)), (by first | rfl | (simp; done) | (simp [*]; done)), H', ⟨by have := HK1.out; omega⟩, ⟨Kd.R_mv (Kd.R_mono (Kd.R_far (p := ⟨gb1658, 1, none⟩) (Kd.R_far (p := ⟨gb1658, 0, none⟩) (Kd.R_types HO_6.out BK1658.out (by decide)) (fun _ hk => hk.2) (.int .i64 ((rd_T78 l0_2 x24_1).f0))) (fun _ hk => hk.2) (.int .i64 ((rd_T78 l0_2 x24_1).f1))) (fun _ hk => hk.1))⟩, ⟨Kd.R_mv (Kd.R_mono (Kd.R_far (p := ⟨gb1658, 1, none⟩) (Kd.R_far (p := ⟨gb1658, 0, none⟩) (Kd.R_types HO_7.out BK1658.out (by decide)) (fun _ hk => hk.2) (.int .i64 ((rd_T78 l0_2 x24_1).f0))) (fun _ hk => hk.2) (.int .i64 ((rd_T78 l0_2 x24_1).f1))) (fun _ hk => hk.1))⟩, ⟨fp BK1648 rfl⟩, ⟨bm HB⟩⟩
        ·rw [if_neg c26] at H
         have c26b0 : (((rd_T78 l0_2 x24_1).f0) == 0) = false := beq_eq_false_iff_ne.mpr c26
         have c26b1 : (((rd_T78 l0_2 x24_1).f0) != 0) = true := bne_iff_ne.mpr c26
         replace H := Option.bind_eq_some_iff.mp H
         obtain ⟨⟨t1659, t1660, t1661⟩, A300, H⟩ := H
         replace H : (if x24_1 < (t1661.length : Int) then ((impl_entryValues.f k1 t1659 t1660 (t1661.set (x24_1 : Int).toNat (⟨0, 0⟩ : S78)) a1).bind fun t1666 => ((slices_Equal_int_int.f k1 t1666 t1650).bind fun t1669 => (if t1669 = true then (impl_NeededCells.l0 k1 a1 t1650 x7_1 l0_2 (l0_2.length : Int) (wrap64 (x24_1 + 1)) a0_0 a0_1 l0_2) else (if x7_1.length < 17592186044416 then (impl_NeededCells.l0 k1 a1 t1650 (x7_1 ++ [x24_1]) l0_2 (l0_2.length : Int) (wrap64 (x24_1 + 1)) a0_0 a0_1 l0_2) else (none))))) else (none)) = some (r1, r2) := H
         have A30 := Aside0.mk A300
         clear A300
         by_cases c31 : x24_1 < (t1661.length : Int)
         ·rw [if_pos c31] at H
          have c31b0 : decide (x24_1 < (t1661.length : Int)) = true := decide_eq_true c31
          clear c31
          obtain ⟨y1665, hy1665⟩ : ∃ y_ : List (S78), y_ = (t1661.set (x24_1 : Int).toNat (⟨0, 0⟩ : S78)) := ⟨_, rfl⟩
          replace H : ((impl_entryValues.f k1 t1659 t1660 y1665 a1).bind fun t1666 => ((slices_Equal_int_int.f k1 t1666 t1650).bind fun t1669 => (if t1669 = true then (impl_NeededCells.l0 k1 a1 t1650 x7_1 l0_2 (l0_2.length : Int) (wrap64 (x24_1 + 1)) a0_0 a0_1 l0_2) else (if x7_1.length < 17592186044416 then (impl_NeededCells.l0 k1 a1 t1650 (x7_1 ++ [x24_1]) l0_2 (l0_2.length : Int) (wrap64 (x24_1 + 1)) a0_0 a0_1 l0_2) else (none))))) = some (r1, r2) := by first | (rw [hy1665]; with_reducible exact H) | (have H2_ := (Option.bind_some _ _).symm.trans H; rw [hy1665]; with_reducible exact H2_) | (have H2_ := (Option.bind_some _ _).symm.trans H; with_reducible exact H2_) | with_reducible exact H | (rw [hy1665]; exact H) | exact H
          have Ny1665 := Aside0.mk hy1665
          clear hy1665
          replace H := Option.bind_eq_some_iff.mp H
          obtain ⟨t1666, A330, H⟩ := H
          replace H : ((slices_Equal_int_int.f k1 t1666 t1650).bind fun t1669 => (if t1669 = true then (impl_NeededCells.l0 k1 a1 t1650 x7_1 l0_2 (l0_2.length : Int) (wrap64 (x24_1 + 1)) a0_0 a0_1 l0_2) else (if x7_1.length < 17592186044416 then (impl_NeededCells.l0 k1 a1 t1650 (x7_1 ++ [x24_1]) l0_2 (l0_2.length : Int) (wrap64 (x24_1 + 1)) a0_0 a0_1 l0_2) else (none)))) = some (r1, r2) := H
          have A33 := Aside0.mk A330
          clear A330
          replace H := Option.bind_eq_some_iff.mp H
          obtain ⟨t1669, A340, H⟩ := H
          replace H : (if t1669 = true then (impl_NeededCells.l0 k1 a1 t1650 x7_1 l0_2 (l0_2.length : Int) (wrap64 (x24_1 + 1)) a0_0 a0_1 l0_2) else (if x7_1.length < 17592186044416 then (impl_NeededCells.l0 k1 a1 t1650 (x7_1 ++ [x24_1]) l0_2 (l0_2.length : Int) (wrap64 (x24_1 + 1)) a0_0 a0_1 l0_2) else (none))) = some (r1, r2) := H
          have A34 := Aside0.mk A340
          clear A340
          by_cases c35 : t1669 = true
          ·subst c35
           have H1 : (impl_NeededCells.l0 k1 a1 t1650 x7_1 l0_2 (l0_2.length : Int) (wrap64 (x24_1 + 1)) a0_0 a0_1 l0_2) = some (r1, r2) := by rw [if_pos rfl] at H; exact H
           clear H
           have H := H1
           clear H1
           have H' := Aside0.mk H
           clear H
           have p1657 : 0 ≤ (x24_1 : Int) := of_decide_eq_true (by first | (with_reducible assumption) | assumption)
           have q1657 : x24_1 < (l0_2.length : Int) := of_decide_eq_true (by first | (with_reducible assumption) | assumption)
           obtain ⟨ad1657, e1657, hx1657_0, hx1657_1⟩ := at_T78 HR0_2.out x24_1 p1657 q1657
           cases e1657
           replace hx1657_0 := (HB.out.cell (World.block_lt_of_cell? w _ hx1657_0)).trans hx1657_0
           replace hx1657_1 := (HB.out.cell (World.block_lt_of_cell? w _ hx1657_1)).trans hx1657_1
           replace p1657 := eq_true p1657
           replace q1657 := eq_true q1657
           go_wp2_with (first | ((with_reducible refine gate_dst (N := 9) rfl ?_); refine box_event ?hg (N := 9) ?hd (cs := #[.int .i64 0, .int .i64 0]) (t := 78) ?hr ?_; (case hd => rfl); (case hg => rfl); (case hr => first | (go_simp; done) | (go_simp; rfl)); intro gb1658 hg w36 hbox hb; refine ev9 (Kd.R_below (Kd.R_mv HO_6.out) hb) (Kd.R_below (Kd.R_mv HO_7.out) hb) (kb BK1648 hb) (bs HB hb) (hbox) (gle hg HB) (gle hg HB) (gnf hg BK1648) (gne hg BK1648) ?_; clear HO_6 HO_7 BK1648 HB; intro HO_6 HO_7 BK1648 HB BK1658 GW1658 GE1658 NB1648_1658 NB1658_1648; clear hb hbox hg; have hnb37 := NB1658_1648.out; have hnc37 := NB1648_1658.out; obtain ⟨hcz38_0, hcz38_1, hfz38_0, hfz38_1⟩ := bt2 BK1658; obtain ⟨hcz39_0, hcz39_1, hcz39_2, hfz39_0, hfz39_1, hfz39_2⟩ := bt3 BK1648) | ((with_reducible refine gate_callee (f := 89) rfl ?_); refine goesL_ (some 33) rfl rfl Try.func89 (by kernel_rfl) rfl #[.agg #[.int .i64 a0_0, .int .i64 a0_1, .slice (some ad1657) l0_2.length c0_2]] rfl (by (try simp only [ma_, mb_, mc_]); first | done | rfl | (simp only [List.length_drop, List.length_take]; rfl)) ?_; (with_reducible refine (impl_copyBoard.calls a0_0 a0_1 _ _ l0_2 t1659 t1660 t1661 _ (Kd.C_below HR0_2.out (bm HB)) HC0_2.out A30.out).mono ?_); rintro e w40 ⟨v1662, rfl, ho0, hb⟩; refine ⟨_, rfl, ?_⟩; refine ev6 (Kd.R_below (Kd.R_mv (Kd.R_mono (Kd.R_far (p := ⟨gb1658, 1, none⟩) (Kd.R_far (p := ⟨gb1658, 0, none⟩) (Kd.R_types HO_6.out BK1658.out (by decide)) (fun _ hk => hk.2) (.int .i64 ((rd_T78 l0_2 x24_1).f0))) (fun _ hk => hk.2) (.int .i64 ((rd_T78 l0_2 x24_1).f1))) (fun _ h_ => h_.1))) hb) (Kd.R_below (Kd.R_mv (Kd.R_mono (Kd.R_far (p := ⟨gb1658, 1, none⟩) (Kd.R_far (p := ⟨gb1658, 0, none⟩) (Kd.R_types HO_7.out BK1658.out (by decide)) (fun _ hk => hk.2) (.int .i64 ((rd_T78 l0_2 x24_1).f0))) (fun _ hk => hk.2) (.int .i64 ((rd_T78 l0_2 x24_1).f1))) (fun _ h_ => h_.1))) hb) (Kd.R_lower (Kd.R_newB ho0 (g := gb1658) (o := .cells #[.int .i64 ((rd_T78 l0_2 x24_1).f0), .int .i64 ((rd_T78 l0_2 x24_1).f1)] 78 (0, 0)) (fp BK1658 rfl)) (below_size (bm HB))) (blk_below (g := gb1648) (o := .cells #[.int .i64 a0_0, .int .i64 a0_1, .slice (some ad1657) l0_2.length c0_2] 48 (0, 0)) (fp BK1648 rfl) hb) (blk_below (g := gb1658) (o := .cells #[.int .i64 ((rd_T78 l0_2 x24_1).f0), .int .i64 ((rd_T78 l0_2 x24_1).f1)] 78 (0, 0)) (fp BK1658 rfl) hb) (bs HB hb) ?_; clear HO_6 HO_7 BK1648 BK1658 HB; intro HO_6 HO_7 HO1663 BK1648 BK1658 HB; (try clear hb); (try clear hb2); (try clear hk); (try clear hi); (try clear ho0)) | ((with_reducible refine gate_dst (N := 10) rfl ?_); refine box_event ?hg (N := 10) ?hd (cs := #[.int .i64 0, .int .i64 0, .slice none 0 0]) (t := 48) ?hr ?_; (case hd => rfl); (case hg => rfl); (case hr => first | (go_simp; done) | (go_simp; rfl)); intro gb1664 hg w41 hbox hb; refine ev12 (Kd.R_below (Kd.R_mv HO_6.out) hb) (Kd.R_below (Kd.R_mv HO_7.out) hb) (Kd.R_below (Kd.R_mv HO1663.out) hb) (kb BK1648 hb) (kb BK1658 hb) (bs HB hb) (hbox) (gle hg HB) (gle hg HB) (gnf hg BK1648) (gne hg BK1648) (gnf hg BK1658) ?_; intro n0_ n1_ n2_ n3_ n4_ n5_ n6_ n7_ n8_ n9_ n10_ n11_; refine ev1 (gne hg BK1658) ?_; intro n12_; clear HO_6 HO_7 HO1663 BK1648 BK1658 HB; revert n0_ n1_ n2_ n3_ n4_ n5_ n6_ n7_ n8_ n9_ n10_ n11_ n12_; intro HO_6 HO_7 HO1663 BK1648 BK1658 HB BK1664 GW1664 GE1664 NB1648_1664 NB1664_1648 NB1658_1664 NB1664_1658; clear hb hbox hg; have hnb42 := NB1664_1648.out; have hnc42 := NB1648_1664.out; have hnb43 := NB1664_1658.out; have hnc43 := NB1658_1664.out; obtain ⟨hcz44_0, hcz44_1, hcz44_2, hfz44_0, hfz44_1, hfz44_2⟩ := bt3 BK1664; obtain ⟨Ao45, co45, eo45⟩ := Kd.R_slice HO1663.out; subst eo45) | ((with_reducible refine gate_store (t := 48) (p := 10) rfl ?_); refine store_event (t := 48) (p := 10) (v := ?vo_w46) (w1 := (((w41.setCell ⟨gb1664, 0, none⟩ (.int .i64 t1659)).setCell ⟨gb1664, 1, none⟩ (.int .i64 t1660)).setCell ⟨gb1664, 2, none⟩ (.slice Ao45 t1661.length co45))) ?hg ?ho ?hn ?hr ?_; (case ho => rfl); (case hg => rfl); (case hn => rfl); (case hr => first | (go_simp; done) | (go_simp; rfl)); intro w46 hw; have n0_ : Aside0 (Kd.R (Kd.int .i64) 3 w46 w.heap.size (fun k_ => some k_ ≠ (u7 : Value).ownBlock) (.slice Ao19 t1650.length co19) t1650) := ⟨(by rw [hw]; exact (Kd.R_mv (Kd.R_mono (Kd.R_far (p := ⟨gb1664, 2, none⟩) (Kd.R_far (p := ⟨gb1664, 1, none⟩) (Kd.R_far (p := ⟨gb1664, 0, none⟩) (Kd.R_types HO_6.out BK1664.out (by decide)) (fun _ hk => hk.2) (.int .i64 t1659)) (fun _ hk => hk.2) (.int .i64 t1660)) (fun _ hk => hk.2) (.slice Ao45 t1661.length co45)) (fun _ hk => hk.1))))⟩; have n1_ : Aside0 (Kd.R (Kd.int .i64) 3 w46 w.heap.size (fun k_ => some k_ ≠ (.slice Ao19 t1650.length co19 : Value).ownBlock) u7 x7_1) := ⟨(by rw [hw]; exact (Kd.R_mv (Kd.R_mono (Kd.R_far (p := ⟨gb1664, 2, none⟩) (Kd.R_far (p := ⟨gb1664, 1, none⟩) (Kd.R_far (p := ⟨gb1664, 0, none⟩) (Kd.R_types HO_7.out BK1664.out (by decide)) (fun _ hk => hk.2) (.int .i64 t1659)) (fun _ hk => hk.2) (.int .i64 t1660)) (fun _ hk => hk.2) (.slice Ao45 t1661.length co45)) (fun _ hk => hk.1))))⟩; have n2_ : Aside0 (Kd.R k78 78 w46 w.heap.size (fun k_ => k_ ≠ gb1658) (.slice Ao45 t1661.length co45) t1661) := ⟨(by rw [hw]; exact (Kd.R_mv (Kd.R_mono (ok' := fun k_ => k_ ≠ gb1658) (Kd.R_far (p := ⟨gb1664, 2, none⟩) (Kd.R_far (p := ⟨gb1664, 1, none⟩) (Kd.R_far (p := ⟨gb1664, 0, none⟩) (Kd.R_types HO1663.out BK1664.out (by decide)) (fun _ hk => hk.2) (.int .i64 t1659)) (fun _ hk => hk.2) (.int .i64 t1660)) (fun _ hk => hk.2) (.slice Ao45 t1661.length co45)) (fun _ hk => hk.1.2))))⟩; have n3_ : Aside0 (w46.heap[gb1648]? = some (.cells #[.int .i64 a0_0, .int .i64 a0_1, .slice (some ad1657) l0_2.length c0_2] 48 (0, 0))) := ⟨(by rw [hw]; exact (fp BK1648 rfl))⟩; have n4_ : Aside0 (w46.heap[gb1658]? = some (.cells #[.int .i64 ((rd_T78 l0_2 x24_1).f0), .int .i64 ((rd_T78 l0_2 x24_1).f1)] 78 (0, 0))) := ⟨(by rw [hw]; exact (fp BK1658 rfl))⟩; have n5_ : Aside0 (w46.heap[gb1664]? = some (.cells #[.int .i64 t1659, .int .i64 t1660, .slice Ao45 t1661.length co45] 48 (0, 0))) := ⟨(by rw [hw]; exact (fp BK1664 rfl))⟩; have n6_ : Aside0 (Below w.heap.size w w46) := ⟨(by rw [hw]; exact (bm HB))⟩; clear hw; clear HO_6; clear HO_7; clear HO1663; clear BK1648; clear BK1658; clear BK1664; clear HB; have HO_6 := n0_; have HO_7 := n1_; have HO1663 := n2_; have BK1648 := n3_; have BK1658 := n4_; have BK1664 := n5_; have HB := n6_; clear n0_ n1_ n2_ n3_ n4_ n5_ n6_; obtain ⟨hcz47_0, hcz47_1, hcz47_2, hfz47_0, hfz47_1, hfz47_2⟩ := bt3 BK1664; have p32 : 0 ≤ (x24_1 : Int) := of_decide_eq_true (by first | (with_reducible assumption) | assumption); have q32 : (x24_1 : Int) < ((t1661.length : Int) : Int) := of_decide_eq_true (by first | (with_reducible assumption) | assumption); obtain ⟨go32, co32, eo32, gb32, gl32, cl32, HG32⟩ := Kd.R_form HO1663.out (by omega); (first | cases eo32 | (injection eo32 with ea_ en_ ec_; (first | subst ea_ | (injection ea_ with ea_; subst ea_)); subst ec_; clear en_)); have GB32 := Aside0.mk gb32; have GG32 := Aside0.mk HG32; clear gb32 gl32 HG32; obtain ⟨ce32, hcl32, hM32, hcc32, hfr32⟩ := Kd.R_elem HO1663.out z78 (x24_1 : Int) p32 q32; obtain rfl := k78_openM hM32; have hx32_0 : w46.cell? ⟨go32, (x24_1 : Int).toNat * 2, none⟩ = some (.int .i64 ((rd_T78 t1661 x24_1).f0)) := hcc32 0 _ rfl; have hx32_1 : w46.cell? ⟨go32, (x24_1 : Int).toNat * 2 + 1, none⟩ = some (.int .i64 ((rd_T78 t1661 x24_1).f1)) := hcc32 1 _ rfl; have hf32_0 : w46.frozen? ⟨go32, (x24_1 : Int).toNat * 2, none⟩ = false := hfr32 0; have hf32_1 : w46.frozen? ⟨go32, (x24_1 : Int).toNat * 2 + 1, none⟩ = false := hfr32 1; clear hcl32 hcc32 hfr32 hM32; replace p32 := eq_true p32; replace q32 := eq_true q32; have HX48 := Aside0.mk (show Kd.R k78 78 w46 w.heap.size (fun k_ => k_ ≠ gb1658) (.slice (some ⟨go32, 0, none⟩) t1661.length co45) t1661 from (Kd.R_mv HO1663.out)); obtain ⟨ce48, hcl48, hM48, hcc48, hfr48⟩ := Kd.R_elem HX48.out z78 (x24_1 : Int) (of_decide_eq_true (by first | (with_reducible assumption) | assumption)) (by have h_ : (x24_1 : Int) < ((t1661.length : Int) : Int) := of_decide_eq_true (by first | (with_reducible assumption) | assumption); first | exact h_ | (have e_ := (Kd.R_reads' HO1663.out).1; omega) | simpa using h_); obtain rfl := k78_openM hM48; have HP48 := Kd.R_seg HX48.out (x24_1 : Int) (of_decide_eq_true (by first | (with_reducible assumption) | assumption)) (by have h_ : (x24_1 : Int) < ((t1661.length : Int) : Int) := of_decide_eq_true (by first | (with_reducible assumption) | assumption); first | exact h_ | (have e_ := (Kd.R_reads' HO1663.out).1; omega) | simpa using h_) (seg := [.int .i64 0, .int .i64 0]) (j := 0) hcl48 hcc48 (show 2 ≤ 2 from by decide) (x' := (⟨0, 0⟩ : S78)) (k78_mkM _ _ _ (⟨0, 0⟩ : S78) ) (fun _ hk => hk); have hx48_0 := hcc48 0 _ rfl; (try simp only [show (k78).sz = 2 from rfl, Nat.mul_one, Nat.add_zero] at hx48_0); have hf48_0 := hfr48 0; (try simp only [show (k78).sz = 2 from rfl, Nat.mul_one, Nat.add_zero] at hf48_0); have hx48_1 := hcc48 1 _ rfl; (try simp only [show (k78).sz = 2 from rfl, Nat.mul_one, Nat.add_zero] at hx48_1); have hf48_1 := hfr48 1; (try simp only [show (k78).sz = 2 from rfl, Nat.mul_one, Nat.add_zero] at hf48_1); clear hcl48 hcc48 hfr48 hM48) | ((with_reducible refine gate_store (t := 78) (p := 38) rfl ?_); refine store_event (t := 78) (p := 38) (v := ?vo_w49) (w1 := ((w46.setCell ⟨go32, (x24_1 : Int).toNat * 2, none⟩ (.int .i64 0)).setCell ⟨go32, (x24_1 : Int).toNat * 2 + 1, none⟩ (.int .i64 0))) ?hg ?ho ?hn ?hr ?_; (case ho => rfl); (case hg => rfl); (case hn => rfl); (case hr => first | (go_simp; done) | (go_simp; rfl)); intro w49 hw; have hg : w46.grownBy w49 (some go32) := (by rw [hw]; exact HP48.2); have hp_ : Kd.R k78 78 w49 w.heap.size (fun k_ => k_ ≠ gb1658) (.slice (some ⟨go32, 0, none⟩) t1661.length co45) y1665 := (by rw [hw, Ny1665.out]; exact HP48.1); clear HP48; refine ev7 (Kd.R_over' (v := (.slice (some ⟨go32, 0, none⟩) t1661.length co45)) (Kd.R_mv HO_6.out) (Kd.R_typed HO1663.out) (by decide) hg) (Kd.R_over' (v := (.slice (some ⟨go32, 0, none⟩) t1661.length co45)) (Kd.R_mv HO_7.out) (Kd.R_typed HO1663.out) (by decide) hg) (blk_grown (km_ BK1648) hg (Kd.R_ne HO1663.out BK1648.out (by decide))) (blk_grown (km_ BK1658) hg (Kd.R_away HO1663.out (fun _ hk => hk))) (hp_) (blk_grown (km_ BK1664) hg (Kd.R_ne HO1663.out BK1664.out (by decide))) ((by rw [hw]; exact below_set (below_set (HB.out) GB32.out) GB32.out : Below w.heap.size w w49)) ?_; clear HO_6 HO_7 BK1648 BK1658 HO1663 BK1664 HB; intro HO_6 HO_7 BK1648 BK1658 HO1663 BK1664 HB; clear hg hw hp_; obtain ⟨hcz50_0, hcz50_1, hcz50_2, hfz50_0, hfz50_1, hfz50_2⟩ := bt3 BK1664) | ((with_reducible refine gate_callee (f := 103) rfl ?_); refine goesL_ (some 41) rfl rfl Try.func103 (by kernel_rfl) rfl #[.agg #[.int .i64 t1659, .int .i64 t1660, .slice (some ⟨go32, 0, none⟩) y1665.length co45], .int .i64 a1] rfl (by (try simp only [ma_, mb_, mc_]); first | done | (rw [show y1665.length = t1661.length from (Kd.R_reads' HO1663.out).1.symm] <;> rfl) | rfl | (simp only [List.length_drop, List.length_take]; rfl)) ?_; (with_reducible refine (impl_entryValues.calls k1 t1659 t1660 _ _ y1665 a1 t1666 _ (Kd.C_mv (Kd.R_reads' HO1663.out).2.2) ?side2 A33.out).mono ?_); (case side2 => rw [show y1665.length = t1661.length from (Kd.R_reads' HO1663.out).1.symm]; exact (Kd.R_reads' HO1663.out).2.1); rintro e w51 ⟨v1667, rfl, ho0, hb⟩; refine ⟨_, rfl, ?_⟩; refine ev8 (Kd.R_elder' (Kd.R_mv HO_6.out) (Kd.R_base ho0) hb) (Kd.R_elder' (Kd.R_mv HO_7.out) (Kd.R_base ho0) hb) (Kd.R_below (Kd.R_mv HO1663.out) hb) (Kd.R_lower (Kd.R_new' (Kd.R_new' ho0 (Kd.R_lt (Kd.R_mv HO_6.out))) (Kd.R_lt (Kd.R_mv HO_7.out))) (below_size (bm HB))) (kb BK1648 hb) (kb BK1658 hb) (kb BK1664 hb) (bs HB hb) ?_; clear HO_6 HO_7 HO1663 BK1648 BK1658 BK1664 HB; intro HO_6 HO_7 HO1663 HO1668 BK1648 BK1658 BK1664 HB; (try clear hb); (try clear hb2); (try clear hk); (try clear hi); (try clear ho0); obtain ⟨Ao52, co52, eo52⟩ := Kd.R_slice HO1668.out; subst eo52) | ((with_reducible refine gate_callee (f := 104) rfl ?_); refine goesL_ (some 43) rfl rfl Try.func104 (by kernel_rfl) rfl #[.slice Ao52 t1666.length co52, .slice Ao19 t1650.length co19] rfl (by (try simp only [ma_, mb_, mc_]); first | done | rfl | (simp only [List.length_drop, List.length_take]; rfl)) ?_; (with_reducible refine (slices_Equal_int_int.calls k1 _ _ t1666 _ _ t1650 true _ (Kd.C_mv (Kd.R_reads' HO1668.out).2.2) ((Kd.R_reads' HO1668.out).2.1) (Kd.C_mv (Kd.R_reads' HO_6.out).2.2) ((Kd.R_reads' HO_6.out).2.1) A34.out).mono ?_); rintro e w' ⟨rfl, ⟨nd, rfl⟩⟩; refine ⟨_, rfl, ?_⟩))
           go_roundg k1
           case measure => have := HK1.out; omega
           case rel => exact ⟨(x7_1), (wrap64 (x24_1 + 1)), (by first | rfl | (simp; done) | (simp [*]; done)), H', ⟨by have := HK1.out; omega⟩, ⟨Kd.R_mv (Kd.R_mono HO_6.out (fun _ hk => hk.1))⟩, ⟨Kd.R_mv (Kd.R_mono HO_7.out (fun _ hk => hk.1))⟩, ⟨km_ BK1648⟩, ⟨bm HB⟩⟩
          ·replace c35 := Bool.eq_false_iff.mpr c35
           subst c35
           have H1 : (if x7_1.length < 17592186044416 then (impl_NeededCells.l0 k1 a1 t1650 (x7_1 ++ [x24_1]) l0_2 (l0_2.length : Int) (wrap64 (x24_1 + 1)) a0_0 a0_1 l0_2) else (none)) = some (r1, r2) := by rw [if_neg (show ¬ (false = true) by decide)] at H; exact H
           clear H
           have H := H1
           clear H1
           by_cases c53 : x7_1.length < 17592186044416
           ·rw [if_pos c53] at H
            have LMc53 := Aside0.mk c53
            clear c53
            obtain ⟨y1670, hy1670⟩ : ∃ y_ : List Int, y_ = (x7_1 ++ [x24_1]) := ⟨_, rfl⟩
            replace H : (impl_NeededCells.l0 k1 a1 t1650 y1670 l0_2 (l0_2.length : Int) (wrap64 (x24_1 + 1)) a0_0 a0_1 l0_2) = some (r1, r2) := by first | (rw [hy1670]; with_reducible exact H) | (have H2_ := (Option.bind_some _ _).symm.trans H; rw [hy1670]; with_reducible exact H2_) | (have H2_ := (Option.bind_some _ _).symm.trans H; with_reducible exact H2_) | with_reducible exact H | (rw [hy1670]; exact H) | exact H
            have Ny1670 := Aside0.mk hy1670
            clear hy1670
            have H' := Aside0.mk H
            clear H
            have p1657 : 0 ≤ (x24_1 : Int) := of_decide_eq_true (by first | (with_reducible assumption) | assumption)
            have q1657 : x24_1 < (l0_2.length : Int) := of_decide_eq_true (by first | (with_reducible assumption) | assumption)
            obtain ⟨ad1657, e1657, hx1657_0, hx1657_1⟩ := at_T78 HR0_2.out x24_1 p1657 q1657
            cases e1657
            replace hx1657_0 := (HB.out.cell (World.block_lt_of_cell? w _ hx1657_0)).trans hx1657_0
            replace hx1657_1 := (HB.out.cell (World.block_lt_of_cell? w _ hx1657_1)).trans hx1657_1
            replace p1657 := eq_true p1657
            replace q1657 := eq_true q1657
            go_wp2_with (first | ((with_reducible refine gate_dst (N := 9) rfl ?_); refine box_event ?hg (N := 9) ?hd (cs := #[.int .i64 0, .int .i64 0]) (t := 78) ?hr ?_; (case hd => rfl); (case hg => rfl); (case hr => first | (go_simp; done) | (go_simp; rfl)); intro gb1658 hg w54 hbox hb; refine ev9 (Kd.R_below (Kd.R_mv HO_6.out) hb) (Kd.R_below (Kd.R_mv HO_7.out) hb) (kb BK1648 hb) (bs HB hb) (hbox) (gle hg HB) (gle hg HB) (gnf hg BK1648) (gne hg BK1648) ?_; clear HO_6 HO_7 BK1648 HB; intro HO_6 HO_7 BK1648 HB BK1658 GW1658 GE1658 NB1648_1658 NB1658_1648; clear hb hbox hg; have hnb55 := NB1658_1648.out; have hnc55 := NB1648_1658.out; obtain ⟨hcz56_0, hcz56_1, hfz56_0, hfz56_1⟩ := bt2 BK1658; obtain ⟨hcz57_0, hcz57_1, hcz57_2, hfz57_0, hfz57_1, hfz57_2⟩ := bt3 BK1648) | ((with_reducible refine gate_callee (f := 89) rfl ?_); refine goesL_ (some 33) rfl rfl Try.func89 (by kernel_rfl) rfl #[.agg #[.int .i64 a0_0, .int .i64 a0_1, .slice (some ad1657) l0_2.length c0_2]] rfl (by (try simp only [ma_, mb_, mc_]); first | done | rfl | (simp only [List.length_drop, List.length_take]; rfl)) ?_; (with_reducible refine (impl_copyBoard.calls a0_0 a0_1 _ _ l0_2 t1659 t1660 t1661 _ (Kd.C_below HR0_2.out (bm HB)) HC0_2.out A30.out).mono ?_); rintro e w58 ⟨v1662, rfl, ho0, hb⟩; refine ⟨_, rfl, ?_⟩; refine ev6 (Kd.R_below (Kd.R_mv (Kd.R_mono (Kd.R_far (p := ⟨gb1658, 1, none⟩) (Kd.R_far (p := ⟨gb1658, 0, none⟩) (Kd.R_types HO_6.out BK1658.out (by decide)) (fun _ hk => hk.2) (.int .i64 ((rd_T78 l0_2 x24_1).f0))) (fun _ hk => hk.2) (.int .i64 ((rd_T78 l0_2 x24_1).f1))) (fun _ h_ => h_.1))) hb) (Kd.R_below (Kd.R_mv (Kd.R_mono (Kd.R_far (p := ⟨gb1658, 1, none⟩) (Kd.R_far (p := ⟨gb1658, 0, none⟩) (Kd.R_types HO_7.out BK1658.out (by decide)) (fun _ hk => hk.2) (.int .i64 ((rd_T78 l0_2 x24_1).f0))) (fun _ hk => hk.2) (.int .i64 ((rd_T78 l0_2 x24_1).f1))) (fun _ h_ => h_.1))) hb) (Kd.R_lower (Kd.R_newB ho0 (g := gb1658) (o := .cells #[.int .i64 ((rd_T78 l0_2 x24_1).f0), .int .i64 ((rd_T78 l0_2 x24_1).f1)] 78 (0, 0)) (fp BK1658 rfl)) (below_size (bm HB))) (blk_below (g := gb1648) (o := .cells #[.int .i64 a0_0, .int .i64 a0_1, .slice (some ad1657) l0_2.length c0_2] 48 (0, 0)) (fp BK1648 rfl) hb) (blk_below (g := gb1658) (o := .cells #[.int .i64 ((rd_T78 l0_2 x24_1).f0), .int .i64 ((rd_T78 l0_2 x24_1).f1)] 78 (0, 0)) (fp BK1658 rfl) hb) (bs HB hb) ?_; clear HO_6 HO_7 BK1648 BK1658 HB; intro HO_6 HO_7 HO1663 BK1648 BK1658 HB; (try clear hb); (try clear hb2); (try clear hk); (try clear hi); (try clear ho0)) | ((with_reducible refine gate_dst (N := 10) rfl ?_); refine box_event ?hg (N := 10) ?hd (cs := #[.int .i64 0, .int .i64 0, .slice none 0 0]) (t := 48) ?hr ?_; (case hd => rfl); (case hg => rfl); (case hr => first | (go_simp; done) | (go_simp; rfl)); intro gb1664 hg w59 hbox hb; refine ev12 (Kd.R_below (Kd.R_mv HO_6.out) hb) (Kd.R_below (Kd.R_mv HO_7.out) hb) (Kd.R_below (Kd.R_mv HO1663.out) hb) (kb BK1648 hb) (kb BK1658 hb) (bs HB hb) (hbox) (gle hg HB) (gle hg HB) (gnf hg BK1648) (gne hg BK1648) (gnf hg BK1658) ?_; intro n0_ n1_ n2_ n3_ n4_ n5_ n6_ n7_ n8_ n9_ n10_ n11_; refine ev1 (gne hg BK1658) ?_; intro n12_; clear HO_6 HO_7 HO1663 BK1648 BK1658 HB; revert n0_ n1_ n2_ n3_ n4_ n5_ n6_ n7_ n8_ n9_ n10_ n11_ n12_; intro HO_6 HO_7 HO1663 BK1648 BK1658 HB BK1664 GW1664 GE1664 NB1648_1664 NB1664_1648 NB1658_1664 NB1664_1658; clear hb hbox hg; have hnb60 := NB1664_1648.out; have hnc60 := NB1648_1664.out; have hnb61 := NB1664_1658.out; have hnc61 := NB1658_1664.out; obtain ⟨hcz62_0, hcz62_1, hcz62_2, hfz62_0, hfz62_1, hfz62_2⟩ := bt3 BK1664; obtain ⟨Ao63, co63, eo63⟩ := Kd.R_slice HO1663.out; subst eo63) | ((with_reducible refine gate_store (t := 48) (p := 10) rfl ?_); refine store_event (t := 48) (p := 10) (v := ?vo_w64) (w1 := (((w59.setCell ⟨gb1664, 0, none⟩ (.int .i64 t1659)).setCell ⟨gb1664, 1, none⟩ (.int .i64 t1660)).setCell ⟨gb1664, 2, none⟩ (.slice Ao63 t1661.length co63))) ?hg ?ho ?hn ?hr ?_; (case ho => rfl); (case hg => rfl); (case hn => rfl); (case hr => first | (go_simp; done) | (go_simp; rfl)); intro w64 hw; have n0_ : Aside0 (Kd.R (Kd.int .i64) 3 w64 w.heap.size (fun k_ => some k_ ≠ (u7 : Value).ownBlock) (.slice Ao19 t1650.length co19) t1650) := ⟨(by rw [hw]; exact (Kd.R_mv (Kd.R_mono (Kd.R_far (p := ⟨gb1664, 2, none⟩) (Kd.R_far (p := ⟨gb1664, 1, none⟩) (Kd.R_far (p := ⟨gb1664, 0, none⟩) (Kd.R_types HO_6.out BK1664.out (by decide)) (fun _ hk => hk.2) (.int .i64 t1659)) (fun _ hk => hk.2) (.int .i64 t1660)) (fun _ hk => hk.2) (.slice Ao63 t1661.length co63)) (fun _ hk => hk.1))))⟩; have n1_ : Aside0 (Kd.R (Kd.int .i64) 3 w64 w.heap.size (fun k_ => some k_ ≠ (.slice Ao19 t1650.length co19 : Value).ownBlock) u7 x7_1) := ⟨(by rw [hw]; exact (Kd.R_mv (Kd.R_mono (Kd.R_far (p := ⟨gb1664, 2, none⟩) (Kd.R_far (p := ⟨gb1664, 1, none⟩) (Kd.R_far (p := ⟨gb1664, 0, none⟩) (Kd.R_types HO_7.out BK1664.out (by decide)) (fun _ hk => hk.2) (.int .i64 t1659)) (fun _ hk => hk.2) (.int .i64 t1660)) (fun _ hk => hk.2) (.slice Ao63 t1661.length co63)) (fun _ hk => hk.1))))⟩; have n2_ : Aside0 (Kd.R k78 78 w64 w.heap.size (fun k_ => k_ ≠ gb1658) (.slice Ao63 t1661.length co63) t1661) := ⟨(by rw [hw]; exact (Kd.R_mv (Kd.R_mono (ok' := fun k_ => k_ ≠ gb1658) (Kd.R_far (p := ⟨gb1664, 2, none⟩) (Kd.R_far (p := ⟨gb1664, 1, none⟩) (Kd.R_far (p := ⟨gb1664, 0, none⟩) (Kd.R_types HO1663.out BK1664.out (by decide)) (fun _ hk => hk.2) (.int .i64 t1659)) (fun _ hk => hk.2) (.int .i64 t1660)) (fun _ hk => hk.2) (.slice Ao63 t1661.length co63)) (fun _ hk => hk.1.2))))⟩; have n3_ : Aside0 (w64.heap[gb1648]? = some (.cells #[.int .i64 a0_0, .int .i64 a0_1, .slice (some ad1657) l0_2.length c0_2] 48 (0, 0))) := ⟨(by rw [hw]; exact (fp BK1648 rfl))⟩; have n4_ : Aside0 (w64.heap[gb1658]? = some (.cells #[.int .i64 ((rd_T78 l0_2 x24_1).f0), .int .i64 ((rd_T78 l0_2 x24_1).f1)] 78 (0, 0))) := ⟨(by rw [hw]; exact (fp BK1658 rfl))⟩; have n5_ : Aside0 (w64.heap[gb1664]? = some (.cells #[.int .i64 t1659, .int .i64 t1660, .slice Ao63 t1661.length co63] 48 (0, 0))) := ⟨(by rw [hw]; exact (fp BK1664 rfl))⟩; have n6_ : Aside0 (Below w.heap.size w w64) := ⟨(by rw [hw]; exact (bm HB))⟩; clear hw; clear HO_6; clear HO_7; clear HO1663; clear BK1648; clear BK1658; clear BK1664; clear HB; have HO_6 := n0_; have HO_7 := n1_; have HO1663 := n2_; have BK1648 := n3_; have BK1658 := n4_; have BK1664 := n5_; have HB := n6_; clear n0_ n1_ n2_ n3_ n4_ n5_ n6_; obtain ⟨hcz65_0, hcz65_1, hcz65_2, hfz65_0, hfz65_1, hfz65_2⟩ := bt3 BK1664; have p32 : 0 ≤ (x24_1 : Int) := of_decide_eq_true (by first | (with_reducible assumption) | assumption); have q32 : (x24_1 : Int) < ((t1661.length : Int) : Int) := of_decide_eq_true (by first | (with_reducible assumption) | assumption); obtain ⟨go32, co32, eo32, gb32, gl32, cl32, HG32⟩ := Kd.R_form HO1663.out (by omega); (first | cases eo32 | (injection eo32 with ea_ en_ ec_; (first | subst ea_ | (injection ea_ with ea_; subst ea_)); subst ec_; clear en_)); have GB32 := Aside0.mk gb32; have GG32 := Aside0.mk HG32; clear gb32 gl32 HG32; obtain ⟨ce32, hcl32, hM32, hcc32, hfr32⟩ := Kd.R_elem HO1663.out z78 (x24_1 : Int) p32 q32; obtain rfl := k78_openM hM32; have hx32_0 : w64.cell? ⟨go32, (x24_1 : Int).toNat * 2, none⟩ = some (.int .i64 ((rd_T78 t1661 x24_1).f0)) := hcc32 0 _ rfl; have hx32_1 : w64.cell? ⟨go32, (x24_1 : Int).toNat * 2 + 1, none⟩ = some (.int .i64 ((rd_T78 t1661 x24_1).f1)) := hcc32 1 _ rfl; have hf32_0 : w64.frozen? ⟨go32, (x24_1 : Int).toNat * 2, none⟩ = false := hfr32 0; have hf32_1 : w64.frozen? ⟨go32, (x24_1 : Int).toNat * 2 + 1, none⟩ = false := hfr32 1; clear hcl32 hcc32 hfr32 hM32; replace p32 := eq_true p32; replace q32 := eq_true q32; have HX66 := Aside0.mk (show Kd.R k78 78 w64 w.heap.size (fun k_ => k_ ≠ gb1658) (.slice (some ⟨go32, 0, none⟩) t1661.length co63) t1661 from (Kd.R_mv HO1663.out)); obtain ⟨ce66, hcl66, hM66, hcc66, hfr66⟩ := Kd.R_elem HX66.out z78 (x24_1 : Int) (of_decide_eq_true (by first | (with_reducible assumption) | assumption)) (by have h_ : (x24_1 : Int) < ((t1661.length : Int) : Int) := of_decide_eq_true (by first | (with_reducible assumption) | assumption); first | exact h_ | (have e_ := (Kd.R_reads' HO1663.out).1; omega) | simpa using h_); obtain rfl := k78_openM hM66; have HP66 := Kd.R_seg HX66.out (x24_1 : Int) (of_decide_eq_true (by first | (with_reducible assumption) | assumption)) (by have h_ : (x24_1 : Int) < ((t1661.length : Int) : Int) := of_decide_eq_true (by first | (with_reducible assumption) | assumption); first | exact h_ | (have e_ := (Kd.R_reads' HO1663.out).1; omega) | simpa using h_) (seg := [.int .i64 0, .int .i64 0]) (j := 0) hcl66 hcc66 (show 2 ≤ 2 from by decide) (x' := (⟨0, 0⟩ : S78)) (k78_mkM _ _ _ (⟨0, 0⟩ : S78) ) (fun _ hk => hk); have hx66_0 := hcc66 0 _ rfl; (try simp only [show (k78).sz = 2 from rfl, Nat.mul_one, Nat.add_zero] at hx66_0); have hf66_0 := hfr66 0; (try simp only [show (k78).sz = 2 from rfl, Nat.mul_one, Nat.add_zero] at hf66_0); have hx66_1 := hcc66 1 _ rfl; (try simp only [show (k78).sz = 2 from rfl, Nat.mul_one, Nat.add_zero] at hx66_1); have hf66_1 := hfr66 1; (try simp only [show (k78).sz = 2 from rfl, Nat.mul_one, Nat.add_zero] at hf66_1); clear hcl66 hcc66 hfr66 hM66) | ((with_reducible refine gate_store (t := 78) (p := 38) rfl ?_); refine store_event (t := 78) (p := 38) (v := ?vo_w67) (w1 := ((w64.setCell ⟨go32, (x24_1 : Int).toNat * 2, none⟩ (.int .i64 0)).setCell ⟨go32, (x24_1 : Int).toNat * 2 + 1, none⟩ (.int .i64 0))) ?hg ?ho ?hn ?hr ?_; (case ho => rfl); (case hg => rfl); (case hn => rfl); (case hr => first | (go_simp; done) | (go_simp; rfl)); intro w67 hw; have hg : w64.grownBy w67 (some go32) := (by rw [hw]; exact HP66.2); have hp_ : Kd.R k78 78 w67 w.heap.size (fun k_ => k_ ≠ gb1658) (.slice (some ⟨go32, 0, none⟩) t1661.length co63) y1665 := (by rw [hw, Ny1665.out]; exact HP66.1); clear HP66; refine ev7 (Kd.R_over' (v := (.slice (some ⟨go32, 0, none⟩) t1661.length co63)) (Kd.R_mv HO_6.out) (Kd.R_typed HO1663.out) (by decide) hg) (Kd.R_over' (v := (.slice (some ⟨go32, 0, none⟩) t1661.length co63)) (Kd.R_mv HO_7.out) (Kd.R_typed HO1663.out) (by decide) hg) (blk_grown (km_ BK1648) hg (Kd.R_ne HO1663.out BK1648.out (by decide))) (blk_grown (km_ BK1658) hg (Kd.R_away HO1663.out (fun _ hk => hk))) (hp_) (blk_grown (km_ BK1664) hg (Kd.R_ne HO1663.out BK1664.out (by decide))) ((by rw [hw]; exact below_set (below_set (HB.out) GB32.out) GB32.out : Below w.heap.size w w67)) ?_; clear HO_6 HO_7 BK1648 BK1658 HO1663 BK1664 HB; intro HO_6 HO_7 BK1648 BK1658 HO1663 BK1664 HB; clear hg hw hp_; obtain ⟨hcz68_0, hcz68_1, hcz68_2, hfz68_0, hfz68_1, hfz68_2⟩ := bt3 BK1664) | ((with_reducible refine gate_callee (f := 103) rfl ?_); refine goesL_ (some 41) rfl rfl Try.func103 (by kernel_rfl) rfl #[.agg #[.int .i64 t1659, .int .i64 t1660, .slice (some ⟨go32, 0, none⟩) y1665.length co63], .int .i64 a1] rfl (by (try simp only [ma_, mb_, mc_]); first | done | (rw [show y1665.length = t1661.length from (Kd.R_reads' HO1663.out).1.symm] <;> rfl) | rfl | (simp only [List.length_drop, List.length_take]; rfl)) ?_; (with_reducible refine (impl_entryValues.calls k1 t1659 t1660 _ _ y1665 a1 t1666 _ (Kd.C_mv (Kd.R_reads' HO1663.out).2.2) ?side2 A33.out).mono ?_); (case side2 => rw [show y1665.length = t1661.length from (Kd.R_reads' HO1663.out).1.symm]; exact (Kd.R_reads' HO1663.out).2.1); rintro e w69 ⟨v1667, rfl, ho0, hb⟩; refine ⟨_, rfl, ?_⟩; refine ev8 (Kd.R_elder' (Kd.R_mv HO_6.out) (Kd.R_base ho0) hb) (Kd.R_elder' (Kd.R_mv HO_7.out) (Kd.R_base ho0) hb) (Kd.R_below (Kd.R_mv HO1663.out) hb) (Kd.R_lower (Kd.R_new' (Kd.R_new' ho0 (Kd.R_lt (Kd.R_mv HO_6.out))) (Kd.R_lt (Kd.R_mv HO_7.out))) (below_size (bm HB))) (kb BK1648 hb) (kb BK1658 hb) (kb BK1664 hb) (bs HB hb) ?_; clear HO_6 HO_7 HO1663 BK1648 BK1658 BK1664 HB; intro HO_6 HO_7 HO1663 HO1668 BK1648 BK1658 BK1664 HB; (try clear hb); (try clear hb2); (try clear hk); (try clear hi); (try clear ho0); obtain ⟨Ao70, co70, eo70⟩ := Kd.R_slice HO1668.out; subst eo70) | ((with_reducible refine gate_callee (f := 104) rfl ?_); refine goesL_ (some 43) rfl rfl Try.func104 (by kernel_rfl) rfl #[.slice Ao70 t1666.length co70, .slice Ao19 t1650.length co19] rfl (by (try simp only [ma_, mb_, mc_]); first | done | rfl | (simp only [List.length_drop, List.length_take]; rfl)) ?_; (with_reducible refine (slices_Equal_int_int.calls k1 _ _ t1666 _ _ t1650 false _ (Kd.C_mv (Kd.R_reads' HO1668.out).2.2) ((Kd.R_reads' HO1668.out).2.1) (Kd.C_mv (Kd.R_reads' HO_6.out).2.2) ((Kd.R_reads' HO_6.out).2.1) A34.out).mono ?_); rintro e w' ⟨rfl, ⟨nd, rfl⟩⟩; refine ⟨_, rfl, ?_⟩) | ((with_reducible refine gate_builtin (b := .append) (xs := #[.tmp 45, .tmp 47]) rfl ?_); at_builtin; refine Kd.R_append (Kd.int .i64) (w0 := w) w.heap.size rfl (.tmp 45) (.tmp 47) 22 3 (.int .i64 0) 8 rfl Try.underlying22 info3 rfl (by decide) (by omega) u7 x7_1 x24_1 [.int .i64 x24_1] (fun k_ => some k_ ≠ (.slice Ao19 t1650.length co19 : Value).ownBlock ∧ some k_ ≠ (.slice Ao70 t1666.length co70 : Value).ownBlock) (fun _ => False) rfl rfl ?aP (fun _ hk => hk.elim) ?aF ?aO ?aB ?aS ?aL ?_; (case aP => exact rfl); (case aB => exact (bm HB)); (case aF => exact (fun k_ hk => ⟨Kd.fresh' (Kd.R_lt (Kd.R_mv HO_6.out)) k_ hk, Kd.fresh' (Kd.R_lt (Kd.R_mv HO1668.out)) k_ hk⟩)); (case aO => exact (Kd.R_mv HO_7.out)); (case aS => exact (below_size (bm HB))); (case aL => have := LMc53.out; omega); intro v1671 w71 ho hb hg hat; rw [← Ny1670.out] at ho; refine ev8 (Kd.R_after (ok := (fun k_ => some k_ ≠ (.slice Ao70 t1666.length co70 : Value).ownBlock)) (Kd.R_mv (Kd.R_mono HO_6.out (fun _ hk => ⟨hk.2, hk.1⟩))) hg hat) (blk_grown (km_ BK1648) hg (Kd.R_ne HO_7.out BK1648.out (by decide))) (blk_grown (km_ BK1658) hg (Kd.R_ne HO_7.out BK1658.out (by decide))) (Kd.R_over' (Kd.R_mv HO1663.out) (Kd.R_typed (Kd.R_mv HO_7.out)) (by decide) hg) (blk_grown (km_ BK1664) hg (Kd.R_ne HO_7.out BK1664.out (by decide))) (Kd.R_after (ok := (fun k_ => some k_ ≠ (.slice Ao19 t1650.length co19 : Value).ownBlock)) (Kd.R_mv (Kd.R_mono HO1668.out (fun _ hk => ⟨hk.1.2, hk.2⟩))) hg hat) (hb) (ho) ?_; clear HO_6 BK1648 BK1658 HO1663 BK1664 HO1668 HB HO_7; intro HO_6 BK1648 BK1658 HO1663 BK1664 HO1668 HB HO1672; clear ho hb hg hat))
            go_roundg k1
            case measure => have := HK1.out; omega
            case rel => exact ⟨(y1670), (wrap64 (x24_1 + 1)), (by first | rfl | (simp; done) | (simp [*]; done)), H', ⟨by have := HK1.out; omega⟩, ⟨Kd.R_mv (Kd.R_mono HO_6.out (fun _ hk => hk.2))⟩, ⟨Kd.R_mv (Kd.R_mono HO1672.out (fun _ hk => hk.1))⟩, ⟨km_ BK1648⟩, ⟨bm HB⟩⟩
           ·rw [if_neg c53] at H
            exact absurd H (by simp)
         ·rw [if_neg c31] at H
          exact absurd H (by simp)
       ·rw [if_neg c25] at H
        exact absurd H (by simp)
      ·rw [if_neg c24] at H
       exact absurd H (by simp)
     ·rw [if_neg c23] at H
      have c23b0 : decide (x24_1 < (l0_2.length : Int)) = false := decide_eq_false c23
      clear c23
      simp only [Option.some.injEq, Prod.mk.injEq] at H
      obtain ⟨rfl, rfl⟩ := H
      go_wp2
      go_ret2
      exact ⟨_, by first | rfl | (simp [e0_, e1_] <;> rfl) | (simp [*, e0_, e1_] <;> rfl), Kd.R_mv (Kd.R_mono (ok' := fun k_ => True) HO_7.out (fun _ hk => trivial)), bm HB⟩
 ·replace c4 := Bool.eq_false_iff.mpr c4
  subst c4
  have H1 : (some (([] : List Int), false)) = some (r1, r2) := by rw [if_neg (show ¬ (false = true) by decide)] at H; exact H
  clear H
  have H := H1
  clear H1
  simp only [Option.some.injEq, Prod.mk.injEq] at H
  obtain ⟨rfl, rfl⟩ := H
  go_enter Try.func55, Try.ntmps55
  go_wp2_with (first | ((with_reducible refine gate_dst (N := 2) rfl ?_); refine box_event ?hg (N := 2) ?hd (cs := #[.int .i64 a0_0, .int .i64 a0_1, .slice A0_2 l0_2.length c0_2]) (t := 48) ?hr ?_; (case hd => rfl); (case hg => rfl); (case hr => first | (go_simp; done) | (go_simp; rfl)); intro gb1648 hg w72 hbox hb; refine ev4 (bs HB hb) (hbox) (gle hg HB) (gle hg HB) ?_; clear HB; intro HB BK1648 GW1648 GE1648; clear hb hbox hg; obtain ⟨hcz73_0, hcz73_1, hcz73_2, hfz73_0, hfz73_1, hfz73_2⟩ := bt3 BK1648) | ((with_reducible refine gate_callee (f := 102) rfl ?_); refine goesL_ (some 13) rfl rfl Try.func102 (by kernel_rfl) rfl #[.agg #[.int .i64 a0_0, .int .i64 a0_1, .slice A0_2 l0_2.length c0_2], .int .i64 a1] rfl (by (try simp only [ma_, mb_, mc_]); first | done | rfl | (simp only [List.length_drop, List.length_take]; rfl)) ?_; (with_reducible refine (impl_readByEntries.calls k a0_0 a0_1 _ _ l0_2 a1 false _ (Kd.C_mv (Kd.C_below HR0_2.out HB.out)) HC0_2.out A3.out).mono ?_); rintro e w74 ⟨rfl, hb⟩; refine ⟨_, rfl, ?_⟩; refine ev2 (kb BK1648 hb) (bs HB hb) ?_; clear BK1648 HB; intro BK1648 HB; (try clear hb); (try clear hb2); (try clear hk); (try clear hi)))
  go_ret2
  exact ⟨_, by first | rfl | (simp [e0_, e1_] <;> rfl) | (simp [*, e0_, e1_] <;> rfl), by first | exact Kd.R_nil _ _ _ _ _ | exact Kd.N_nil _ _ _ _ _ | exact Kd.V_nil _ _ _ _ _ | exact Kd.Q_nil _ _ _ _ _ | exact Kd.S_nil _ _ _ _ _, bm HB⟩

/-! ### laws_FnExactNeededCells: function 14 -/
mutual
def laws_FnExactNeededCells.j0 : Nat → Int → List Int → Bool → List Int → Bool → Bool → Int → Int → List (S112) → Int → Int → List (S78) → Option (Bool)
 | 0, _, _, _, _, _, _, _, _, _, _, _, _ => none
 | k + 1, x1, x6, x7, x9, x10, x44, x1674000, x1674001, x1674002, x1690000, x1690001, x1690002 => if x44 = true then (some false) else ((laws_toBoard.f k x1674000 x1674001 x1674002).bind fun bt1695 => ((laws_eqBoard.f k x1690000 x1690001 x1690002 bt1695.1 bt1695.2.1 bt1695.2.2).bind fun t1700 => (if t1700 = true then ((laws_markBoard.f k x1690000 x1690001 x1690002 1).bind fun bt1701 => (if bt1701.1 < 0 then (laws_FnExactNeededCells.j1 k x1 x6 x7 x9 true x1674000 x1674001 x1674002) else ((laws_eqIntS.f k x9 x6).bind fun t1703 => (if t1703 = true then (laws_FnExactNeededCells.j1 k x1 x6 x7 x9 (x10 != x7) x1674000 x1674001 x1674002) else (laws_FnExactNeededCells.j1 k x1 x6 x7 x9 true x1674000 x1674001 x1674002))))) else (some false))))
def laws_FnExactNeededCells.j1 : Nat → Int → List Int → Bool → List Int → Bool → Int → Int → List (S112) → Option (Bool)
 | 0, _, _, _, _, _, _, _, _ => none
 | k + 1, x1, x6, x7, x9, x65, x1674000, x1674001, x1674002 => if x65 = true then (some false) else ((laws_markIntS.f k x9 1).bind fun bt1704 => ((laws_heldIntS.f k bt1704.2 1).bind fun t1706 => (if t1706 < 0 then (some false) else (if t1706 = bt1704.1 then ((laws_toBoard.f k x1674000 x1674001 x1674002).bind fun bt1707 => ((impl_NeededCells.f k bt1707.1 bt1707.2.1 bt1707.2.2 x1).bind fun bt1712 => ((laws_eqIntS.f k bt1712.1 x6).bind fun t1716 => (if t1716 = true then (laws_FnExactNeededCells.j2 k bt1704.2 bt1704.1 (bt1712.2 != x7)) else (laws_FnExactNeededCells.j2 k bt1704.2 bt1704.1 true))))) else (some false)))))
def laws_FnExactNeededCells.j2 : Nat → List Int → Int → Bool → Option (Bool)
 | 0, _, _, _ => none
 | k + 1, x9, x12, x92 => if x92 = true then (some false) else ((laws_heldIntS.f k x9 1).bind fun t1717 => (if t1717 < 0 then (some false) else (if t1717 = x12 then (some true) else (some false))))
end
def laws_FnExactNeededCells.f (k : Nat) (a0_0 : Int) (a0_1 : Int) (l0_2 : List (S112)) (a1 : Int) : Option (Bool) := (laws_szBoard.f a0_0 a0_1 l0_2 1048576).bind fun t1674 => (if t1674 < 0 then (some true) else ((laws_toBoard.f k a0_0 a0_1 l0_2).bind fun bt1675 => ((spec_NeededCells.f k bt1675.1 bt1675.2.1 bt1675.2.2 a1).bind fun bt1680 => ((laws_toBoard.f k a0_0 a0_1 l0_2).bind fun bt1684 => ((impl_NeededCells.f k bt1684.1 bt1684.2.1 bt1684.2.2 a1).bind fun bt1690 => ((laws_eqIntS.f k bt1690.1 bt1680.1).bind fun t1694 => (if t1694 = true then (laws_FnExactNeededCells.j0 k a1 bt1680.1 bt1680.2 bt1690.1 bt1690.2 (bt1690.2 != bt1680.2) a0_0 a0_1 l0_2 bt1684.1 bt1684.2.1 bt1684.2.2) else (laws_FnExactNeededCells.j0 k a1 bt1680.1 bt1680.2 bt1690.1 bt1690.2 true a0_0 a0_1 l0_2 bt1684.1 bt1684.2.1 bt1684.2.2))))))))
set_option maxHeartbeats 8000000 in
set_option maxRecDepth 100000 in
theorem laws_FnExactNeededCells.calls (k : Nat) (a0_0 : Int) (a0_1 : Int) (A0_2 : Option Addr) (c0_2 : Nat) (l0_2 : List (S112)) (a1 : Int) (r : Bool) (w : World) (hr0_2 : Kd.C k112 w A0_2 l0_2.length l0_2) (hc0_2 : l0_2.length ≤ c0_2) (hrt : r = true) (h : laws_FnExactNeededCells.f k a0_0 a0_1 l0_2 a1 = some r) :
  Calls Try.prog 14 #[.agg #[.int .i64 a0_0, .int .i64 a0_1, .slice A0_2 l0_2.length c0_2], .int .i64 a1] w fun e w' => e = .returned (.bool r) ∧ Below w.heap.size w w' := by
 have HR0_2 := Aside0.mk hr0_2
 have HC0_2 := Aside0.mk hc0_2
 clear hr0_2 hc0_2
 have HRT := Aside0.mk hrt
 clear hrt
 have HB := Aside0.mk (Below.refl w.heap.size w)
 have H : ((laws_szBoard.f a0_0 a0_1 l0_2 1048576).bind fun t1674 => (if t1674 < 0 then (some true) else ((laws_toBoard.f k a0_0 a0_1 l0_2).bind fun bt1675 => ((spec_NeededCells.f k bt1675.1 bt1675.2.1 bt1675.2.2 a1).bind fun bt1680 => ((laws_toBoard.f k a0_0 a0_1 l0_2).bind fun bt1684 => ((impl_NeededCells.f k bt1684.1 bt1684.2.1 bt1684.2.2 a1).bind fun bt1690 => ((laws_eqIntS.f k bt1690.1 bt1680.1).bind fun t1694 => (if t1694 = true then (laws_FnExactNeededCells.j0 k a1 bt1680.1 bt1680.2 bt1690.1 bt1690.2 (bt1690.2 != bt1680.2) a0_0 a0_1 l0_2 bt1684.1 bt1684.2.1 bt1684.2.2) else (laws_FnExactNeededCells.j0 k a1 bt1680.1 bt1680.2 bt1690.1 bt1690.2 true a0_0 a0_1 l0_2 bt1684.1 bt1684.2.1 bt1684.2.2))))))))) = some r := h
 clear h
 replace H := Option.bind_eq_some_iff.mp H
 obtain ⟨t1674, A30, H⟩ := H
 replace H : (if t1674 < 0 then (some true) else ((laws_toBoard.f k a0_0 a0_1 l0_2).bind fun bt1675 => ((spec_NeededCells.f k bt1675.1 bt1675.2.1 bt1675.2.2 a1).bind fun bt1680 => ((laws_toBoard.f k a0_0 a0_1 l0_2).bind fun bt1684 => ((impl_NeededCells.f k bt1684.1 bt1684.2.1 bt1684.2.2 a1).bind fun bt1690 => ((laws_eqIntS.f k bt1690.1 bt1680.1).bind fun t1694 => (if t1694 = true then (laws_FnExactNeededCells.j0 k a1 bt1680.1 bt1680.2 bt1690.1 bt1690.2 (bt1690.2 != bt1680.2) a0_0 a0_1 l0_2 bt1684.1 bt1684.2.1 bt1684.2.2) else (laws_FnExactNeededCells.j0 k a1 bt1680.1 bt1680.2 bt1690.1 bt1690.2 true a0_0 a0_1 l0_2 bt1684.1 bt1684.2.1 bt1684.2.2)))))))) = some r := H
 have A3 := Aside0.mk A30
 clear A30
 by_cases c4 : t1674 < 0
 ·rw [if_pos c4] at H
  have c4b0 : decide (t1674 < 0) = true := decide_eq_true c4
  clear c4
  obtain rfl := Option.some.inj H
  go_enter Try.func14, Try.ntmps14
  go_wp2_with (first | ((with_reducible refine gate_dst (N := 2) rfl ?_); refine box_event ?hg (N := 2) ?hd (cs := #[.int .i64 a0_0, .int .i64 a0_1, .slice A0_2 l0_2.length c0_2]) (t := 44) ?hr ?_; (case hd => rfl); (case hg => rfl); (case hr => first | (go_simp; done) | (go_simp; rfl)); intro gb1673 hg w5 hbox hb; refine ev4 (bs HB hb) (hbox) (gle hg HB) (gle hg HB) ?_; clear HB; intro HB BK1673 GW1673 GE1673; clear hb hbox hg; obtain ⟨hcz6_0, hcz6_1, hcz6_2, hfz6_0, hfz6_1, hfz6_2⟩ := bt3 BK1673) | ((with_reducible refine gate_callee (f := 30) rfl ?_); refine goesL_ (some 18) rfl rfl Try.func30 (by kernel_rfl) rfl #[.agg #[.int .i64 a0_0, .int .i64 a0_1, .slice A0_2 l0_2.length c0_2], .int .i64 1048576] rfl (by (try simp only [ma_, mb_, mc_]); first | done | rfl | (simp only [List.length_drop, List.length_take]; rfl)) ?_; (with_reducible refine (laws_szBoard.calls a0_0 a0_1 _ _ l0_2 1048576 t1674 _ (Kd.C_mv (Kd.C_below HR0_2.out HB.out)) HC0_2.out A3.out).mono ?_); rintro e w7 ⟨rfl, hb⟩; refine ⟨_, rfl, ?_⟩; refine ev2 (kb BK1673 hb) (bs HB hb) ?_; clear BK1673 HB; intro BK1673 HB; (try clear hb); (try clear hb2); (try clear hk); (try clear hi)))
  go_ret
  exact ⟨by first | rfl | (simp [e0_, e1_] <;> rfl) | (simp [*, e0_, e1_] <;> rfl), bm HB⟩
 ·rw [if_neg c4] at H
  have c4b0 : decide (t1674 < 0) = false := decide_eq_false c4
  clear c4
  replace H := Option.bind_eq_some_iff.mp H
  obtain ⟨⟨t1675, t1676, t1677⟩, A80, H⟩ := H
  replace H : ((spec_NeededCells.f k t1675 t1676 t1677 a1).bind fun bt1680 => ((laws_toBoard.f k a0_0 a0_1 l0_2).bind fun bt1684 => ((impl_NeededCells.f k bt1684.1 bt1684.2.1 bt1684.2.2 a1).bind fun bt1690 => ((laws_eqIntS.f k bt1690.1 bt1680.1).bind fun t1694 => (if t1694 = true then (laws_FnExactNeededCells.j0 k a1 bt1680.1 bt1680.2 bt1690.1 bt1690.2 (bt1690.2 != bt1680.2) a0_0 a0_1 l0_2 bt1684.1 bt1684.2.1 bt1684.2.2) else (laws_FnExactNeededCells.j0 k a1 bt1680.1 bt1680.2 bt1690.1 bt1690.2 true a0_0 a0_1 l0_2 bt1684.1 bt1684.2.1 bt1684.2.2)))))) = some r := H
  have A8 := Aside0.mk A80
  clear A80
  replace H := Option.bind_eq_some_iff.mp H
  obtain ⟨⟨t1680, t1683⟩, A90, H⟩ := H
  replace H : ((laws_toBoard.f k a0_0 a0_1 l0_2).bind fun bt1684 => ((impl_NeededCells.f k bt1684.1 bt1684.2.1 bt1684.2.2 a1).bind fun bt1690 => ((laws_eqIntS.f k bt1690.1 t1680).bind fun t1694 => (if t1694 = true then (laws_FnExactNeededCells.j0 k a1 t1680 t1683 bt1690.1 bt1690.2 (bt1690.2 != t1683) a0_0 a0_1 l0_2 bt1684.1 bt1684.2.1 bt1684.2.2) else (laws_FnExactNeededCells.j0 k a1 t1680 t1683 bt1690.1 bt1690.2 true a0_0 a0_1 l0_2 bt1684.1 bt1684.2.1 bt1684.2.2))))) = some r := H
  have A9 := Aside0.mk A90
  clear A90
  replace H := Option.bind_eq_some_iff.mp H
  obtain ⟨⟨t1684, t1685, t1686⟩, A100, H⟩ := H
  replace H : ((impl_NeededCells.f k t1684 t1685 t1686 a1).bind fun bt1690 => ((laws_eqIntS.f k bt1690.1 t1680).bind fun t1694 => (if t1694 = true then (laws_FnExactNeededCells.j0 k a1 t1680 t1683 bt1690.1 bt1690.2 (bt1690.2 != t1683) a0_0 a0_1 l0_2 t1684 t1685 t1686) else (laws_FnExactNeededCells.j0 k a1 t1680 t1683 bt1690.1 bt1690.2 true a0_0 a0_1 l0_2 t1684 t1685 t1686)))) = some r := H
  have A10 := Aside0.mk A100
  clear A100
  replace H := Option.bind_eq_some_iff.mp H
  obtain ⟨⟨t1690, t1693⟩, A110, H⟩ := H
  replace H : ((laws_eqIntS.f k t1690 t1680).bind fun t1694 => (if t1694 = true then (laws_FnExactNeededCells.j0 k a1 t1680 t1683 t1690 t1693 (t1693 != t1683) a0_0 a0_1 l0_2 t1684 t1685 t1686) else (laws_FnExactNeededCells.j0 k a1 t1680 t1683 t1690 t1693 true a0_0 a0_1 l0_2 t1684 t1685 t1686))) = some r := H
  have A11 := Aside0.mk A110
  clear A110
  have HC12 := Aside0.mk H
  clear H
  go_enter Try.func14, Try.ntmps14
  go_upto_region 8 with (first | ((with_reducible refine gate_dst (N := 2) rfl ?_); refine box_event ?hg (N := 2) ?hd (cs := #[.int .i64 a0_0, .int .i64 a0_1, .slice A0_2 l0_2.length c0_2]) (t := 44) ?hr ?_; (case hd => rfl); (case hg => rfl); (case hr => first | (go_simp; done) | (go_simp; rfl)); intro gb1673 hg w13 hbox hb; refine ev4 (bs HB hb) (hbox) (gle hg HB) (gle hg HB) ?_; clear HB; intro HB BK1673 GW1673 GE1673; clear hb hbox hg; obtain ⟨hcz14_0, hcz14_1, hcz14_2, hfz14_0, hfz14_1, hfz14_2⟩ := bt3 BK1673) | ((with_reducible refine gate_callee (f := 30) rfl ?_); refine goesL_ (some 18) rfl rfl Try.func30 (by kernel_rfl) rfl #[.agg #[.int .i64 a0_0, .int .i64 a0_1, .slice A0_2 l0_2.length c0_2], .int .i64 1048576] rfl (by (try simp only [ma_, mb_, mc_]); first | done | rfl | (simp only [List.length_drop, List.length_take]; rfl)) ?_; (with_reducible refine (laws_szBoard.calls a0_0 a0_1 _ _ l0_2 1048576 t1674 _ (Kd.C_mv (Kd.C_below HR0_2.out HB.out)) HC0_2.out A3.out).mono ?_); rintro e w15 ⟨rfl, hb⟩; refine ⟨_, rfl, ?_⟩; refine ev2 (kb BK1673 hb) (bs HB hb) ?_; clear BK1673 HB; intro BK1673 HB; (try clear hb); (try clear hb2); (try clear hk); (try clear hi); obtain ⟨hcz16_0, hcz16_1, hcz16_2, hfz16_0, hfz16_1, hfz16_2⟩ := bt3 BK1673) | ((with_reducible refine gate_callee (f := 32) rfl ?_); refine goesL_ (some 23) rfl rfl Try.func32 (by kernel_rfl) rfl #[.agg #[.int .i64 a0_0, .int .i64 a0_1, .slice A0_2 l0_2.length c0_2]] rfl (by (try simp only [ma_, mb_, mc_]); first | done | rfl | (simp only [List.length_drop, List.length_take]; rfl)) ?_; (with_reducible refine (laws_toBoard.calls k a0_0 a0_1 _ _ l0_2 t1675 t1676 t1677 _ (Kd.C_mv (Kd.C_below HR0_2.out HB.out)) HC0_2.out A8.out).mono ?_); rintro e w17 ⟨v1678, rfl, ho0, hb⟩; refine ⟨_, rfl, ?_⟩; refine ev3 (Kd.R_lower ho0 (below_size (bm HB))) (kb BK1673 hb) (bs HB hb) ?_; clear BK1673 HB; intro HO1679 BK1673 HB; (try clear hb); (try clear hb2); (try clear hk); (try clear hi); (try clear ho0); obtain ⟨Ao18, co18, eo18⟩ := Kd.R_slice HO1679.out; subst eo18) | ((with_reducible refine gate_callee (f := 54) rfl ?_); refine goesL_ (some 25) rfl rfl Try.func54 (by kernel_rfl) rfl #[.agg #[.int .i64 t1675, .int .i64 t1676, .slice Ao18 t1677.length co18], .int .i64 a1] rfl (by (try simp only [ma_, mb_, mc_]); first | done | rfl | (simp only [List.length_drop, List.length_take]; rfl)) ?_; (with_reducible refine (spec_NeededCells.calls k t1675 t1676 _ _ t1677 a1 t1680 t1683 _ (Kd.C_mv (Kd.R_reads' HO1679.out).2.2) ((Kd.R_reads' HO1679.out).2.1) A9.out).mono ?_); rintro e w19 ⟨v1681, rfl, ho0, hb⟩; refine ⟨_, rfl, ?_⟩; refine ev4 (Kd.R_below (Kd.R_mv HO1679.out) hb) (Kd.R_lower ho0 (below_size (bm HB))) (kb BK1673 hb) (bs HB hb) ?_; clear HO1679 BK1673 HB; intro HO1679 HO1682 BK1673 HB; (try clear hb); (try clear hb2); (try clear hk); (try clear hi); (try clear ho0); obtain ⟨hcz20_0, hcz20_1, hcz20_2, hfz20_0, hfz20_1, hfz20_2⟩ := bt3 BK1673) | ((with_reducible refine gate_callee (f := 32) rfl ?_); refine goesL_ (some 29) rfl rfl Try.func32 (by kernel_rfl) rfl #[.agg #[.int .i64 a0_0, .int .i64 a0_1, .slice A0_2 l0_2.length c0_2]] rfl (by (try simp only [ma_, mb_, mc_]); first | done | rfl | (simp only [List.length_drop, List.length_take]; rfl)) ?_; (with_reducible refine (laws_toBoard.calls k a0_0 a0_1 _ _ l0_2 t1684 t1685 t1686 _ (Kd.C_mv (Kd.C_below HR0_2.out HB.out)) HC0_2.out A10.out).mono ?_); rintro e w21 ⟨v1687, rfl, ho0, hb⟩; refine ⟨_, rfl, ?_⟩; refine ev5 (Kd.R_elder' (Kd.R_mv HO1679.out) (Kd.R_base ho0) hb) (Kd.R_below (Kd.R_mv HO1682.out) hb) (Kd.R_lower (Kd.R_new' ho0 (Kd.R_lt (Kd.R_mv HO1679.out))) (below_size (bm HB))) (kb BK1673 hb) (bs HB hb) ?_; clear HO1679 HO1682 BK1673 HB; intro HO1679 HO1682 HO1688 BK1673 HB; (try clear hb); (try clear hb2); (try clear hk); (try clear hi); (try clear ho0)) | ((with_reducible refine gate_dst (N := 8) rfl ?_); refine box_event ?hg (N := 8) ?hd (cs := #[.int .i64 0, .int .i64 0, .slice none 0 0]) (t := 48) ?hr ?_; (case hd => rfl); (case hg => rfl); (case hr => first | (go_simp; done) | (go_simp; rfl)); intro gb1689 hg w22 hbox hb; refine ev10 (Kd.R_below (Kd.R_mv HO1679.out) hb) (Kd.R_below (Kd.R_mv HO1682.out) hb) (Kd.R_below (Kd.R_mv HO1688.out) hb) (kb BK1673 hb) (bs HB hb) (hbox) (gle hg HB) (gle hg HB) (gnf hg BK1673) (gne hg BK1673) ?_; clear HO1679 HO1682 HO1688 BK1673 HB; intro HO1679 HO1682 HO1688 BK1673 HB BK1689 GW1689 GE1689 NB1673_1689 NB1689_1673; clear hb hbox hg; have hnb23 := NB1689_1673.out; have hnc23 := NB1673_1689.out; obtain ⟨hcz24_0, hcz24_1, hcz24_2, hfz24_0, hfz24_1, hfz24_2⟩ := bt3 BK1689; obtain ⟨Ao25, co25, eo25⟩ := Kd.R_slice HO1688.out; subst eo25) | ((with_reducible refine gate_callee (f := 55) rfl ?_); refine goesL_ (some 33) rfl rfl Try.func55 (by kernel_rfl) rfl #[.agg #[.int .i64 t1684, .int .i64 t1685, .slice Ao25 t1686.length co25], .int .i64 a1] rfl (by (try simp only [ma_, mb_, mc_]); first | done | rfl | (simp only [List.length_drop, List.length_take]; rfl)) ?_; (with_reducible refine (impl_NeededCells.calls k t1684 t1685 _ _ t1686 a1 t1690 t1693 _ ?side1 ((Kd.R_reads' HO1688.out).2.1) A11.out).mono ?_); (case side1 => refine (Kd.R_reads' (e := 78) (base := w.heap.size) (ok := fun k_ => (True ∧ some k_ ≠ (.slice Ao18 t1677.length co18 : Value).ownBlock)) (n := t1686.length) (c := co25) ?_).2.2; exact (Kd.R_mv (Kd.R_mono (Kd.R_far (p := ⟨gb1689, 2, none⟩) (Kd.R_far (p := ⟨gb1689, 1, none⟩) (Kd.R_far (p := ⟨gb1689, 0, none⟩) (Kd.R_types HO1688.out BK1689.out (by decide)) (fun _ hk => hk.2) (.int .i64 t1684)) (fun _ hk => hk.2) (.int .i64 t1685)) (fun _ hk => hk.2) (.slice Ao25 t1686.length co25)) (fun _ h_ => h_.1)))); rintro e w26 ⟨v1691, rfl, ho0, hb⟩; refine ⟨_, rfl, ?_⟩; refine ev7 (Kd.R_below (Kd.R_mv (Kd.R_mono (Kd.R_far (p := ⟨gb1689, 2, none⟩) (Kd.R_far (p := ⟨gb1689, 1, none⟩) (Kd.R_far (p := ⟨gb1689, 0, none⟩) (Kd.R_types HO1679.out BK1689.out (by decide)) (fun _ hk => hk.2) (.int .i64 t1684)) (fun _ hk => hk.2) (.int .i64 t1685)) (fun _ hk => hk.2) (.slice Ao25 t1686.length co25)) (fun _ h_ => h_.1))) hb) (Kd.R_elder' (Kd.R_mv (Kd.R_mono (Kd.R_far (p := ⟨gb1689, 2, none⟩) (Kd.R_far (p := ⟨gb1689, 1, none⟩) (Kd.R_far (p := ⟨gb1689, 0, none⟩) (Kd.R_types HO1682.out BK1689.out (by decide)) (fun _ hk => hk.2) (.int .i64 t1684)) (fun _ hk => hk.2) (.int .i64 t1685)) (fun _ hk => hk.2) (.slice Ao25 t1686.length co25)) (fun _ h_ => h_.1))) (Kd.R_base ho0) hb) (Kd.R_below (Kd.R_mv (Kd.R_mono (Kd.R_far (p := ⟨gb1689, 2, none⟩) (Kd.R_far (p := ⟨gb1689, 1, none⟩) (Kd.R_far (p := ⟨gb1689, 0, none⟩) (Kd.R_types HO1688.out BK1689.out (by decide)) (fun _ hk => hk.2) (.int .i64 t1684)) (fun _ hk => hk.2) (.int .i64 t1685)) (fun _ hk => hk.2) (.slice Ao25 t1686.length co25)) (fun _ h_ => h_.1))) hb) (Kd.R_lower (Kd.R_new' ho0 (Kd.R_lt (Kd.R_mv (Kd.R_mono (Kd.R_far (p := ⟨gb1689, 2, none⟩) (Kd.R_far (p := ⟨gb1689, 1, none⟩) (Kd.R_far (p := ⟨gb1689, 0, none⟩) (Kd.R_types HO1682.out BK1689.out (by decide)) (fun _ hk => hk.2) (.int .i64 t1684)) (fun _ hk => hk.2) (.int .i64 t1685)) (fun _ hk => hk.2) (.slice Ao25 t1686.length co25)) (fun _ h_ => h_.1))))) (below_size (bm HB))) (blk_below (g := gb1673) (o := .cells #[.int .i64 a0_0, .int .i64 a0_1, .slice A0_2 l0_2.length c0_2] 44 (0, 0)) (fp BK1673 rfl) hb) (blk_below (g := gb1689) (o := .cells #[.int .i64 t1684, .int .i64 t1685, .slice Ao25 t1686.length co25] 48 (0, 0)) (fp BK1689 rfl) hb) (bs HB hb) ?_; clear HO1679 HO1682 HO1688 BK1673 BK1689 HB; intro HO1679 HO1682 HO1688 HO1692 BK1673 BK1689 HB; (try clear hb); (try clear hb2); (try clear hk); (try clear hi); (try clear ho0)))
  (try simp only [Act.put, za_, zb_, zc_])
  go_cut [44] (fun v44 wc => ∃ (kq : Nat) (x44_11 : Bool), v44 = .bool x44_11 ∧ Aside0 (laws_FnExactNeededCells.j0 kq a1 t1680 t1683 t1690 t1693 x44_11 a0_0 a0_1 l0_2 t1684 t1685 t1686 = some r) ∧ Aside0 (kq ≤ k) ∧ Aside0 (Kd.R (Kd.int .i64) 3 wc w.heap.size (fun k_ => some k_ ≠ (v1691 : Value).ownBlock) v1681 t1680) ∧ Aside0 (Kd.R (Kd.int .i64) 3 wc w.heap.size (fun k_ => some k_ ≠ (v1681 : Value).ownBlock) v1691 t1690) ∧ Aside0 (Kd.R k78 78 wc w.heap.size (fun _ => True) (.slice Ao25 t1686.length co25) t1686) ∧ Aside0 (wc.heap[gb1673]? = some (.cells #[.int .i64 a0_0, .int .i64 a0_1, (.slice A0_2 l0_2.length c0_2)] 44 (0, 0))) ∧ Aside0 (wc.heap[gb1689]? = some (.cells #[.int .i64 t1684, .int .i64 t1685, (.slice Ao25 t1686.length co25)] 48 (0, 0))) ∧ Aside0 (Below w.heap.size w wc))
  case first =>
   have H := HC12.out
   clear HC12
   replace H := Option.bind_eq_some_iff.mp H
   obtain ⟨t1694, A270, H⟩ := H
   replace H : (if t1694 = true then (laws_FnExactNeededCells.j0 k a1 t1680 t1683 t1690 t1693 (t1693 != t1683) a0_0 a0_1 l0_2 t1684 t1685 t1686) else (laws_FnExactNeededCells.j0 k a1 t1680 t1683 t1690 t1693 true a0_0 a0_1 l0_2 t1684 t1685 t1686)) = some r := H
   have A27 := Aside0.mk A270
   clear A270
   by_cases c28 : t1694 = true
   ·subst c28
    have H1 : (laws_FnExactNeededCells.j0 k a1 t1680 t1683 t1690 t1693 (t1693 != t1683) a0_0 a0_1 l0_2 t1684 t1685 t1686) = some r := by rw [if_pos rfl] at H; exact H
    clear H
    have H := H1
    clear H1
    have H' := Aside0.mk H
    clear H
    obtain ⟨Ao29, co29, eo29⟩ := Kd.R_slice HO1692.out
    subst eo29
    obtain ⟨Ao30, co30, eo30⟩ := Kd.R_slice HO1682.out
    subst eo30
    go_wp2_with (first | ((with_reducible refine gate_callee (f := 18) rfl ?_); refine goesL_ (some 38) rfl rfl Try.func18 (by kernel_rfl) rfl #[.slice Ao29 t1690.length co29, .slice Ao30 t1680.length co30] rfl (by (try simp only [ma_, mb_, mc_]); first | done | rfl | (simp only [List.length_drop, List.length_take]; rfl)) ?_; (with_reducible refine (laws_eqIntS.calls k _ _ t1690 _ _ t1680 true _ (Kd.C_mv (Kd.R_reads' HO1692.out).2.2) ((Kd.R_reads' HO1692.out).2.1) (Kd.C_mv (Kd.R_reads' HO1682.out).2.2) ((Kd.R_reads' HO1682.out).2.1) A27.out).mono ?_); rintro e w' ⟨rfl, ⟨nd, rfl⟩⟩; refine ⟨_, rfl, ?_⟩))
    go_meet
    case rel => exact ⟨_, ((t1693 != t1683)), (by first | rfl | (simp; done) | (simp [*]; done)), H', ⟨by first | omega | exact Nat.le_refl _⟩, ⟨Kd.R_mv (Kd.R_mono HO1682.out (fun _ hk => hk.2))⟩, ⟨Kd.R_mv (Kd.R_mono HO1692.out (fun _ hk => hk.2))⟩, ⟨Kd.R_mv (Kd.R_mono (ok' := fun k_ => True) HO1688.out (fun _ hk => trivial))⟩, ⟨km_ BK1673⟩, ⟨km_ BK1689⟩, ⟨bm HB⟩⟩
   ·replace c28 := Bool.eq_false_iff.mpr c28
    subst c28
    have H1 : (laws_FnExactNeededCells.j0 k a1 t1680 t1683 t1690 t1693 true a0_0 a0_1 l0_2 t1684 t1685 t1686) = some r := by rw [if_neg (show ¬ (false = true) by decide)] at H; exact H
    clear H
    have H := H1
    clear H1
    have H' := Aside0.mk H
    clear H
    obtain ⟨Ao31, co31, eo31⟩ := Kd.R_slice HO1692.out
    subst eo31
    obtain ⟨Ao32, co32, eo32⟩ := Kd.R_slice HO1682.out
    subst eo32
    go_wp2_with (first | ((with_reducible refine gate_callee (f := 18) rfl ?_); refine goesL_ (some 38) rfl rfl Try.func18 (by kernel_rfl) rfl #[.slice Ao31 t1690.length co31, .slice Ao32 t1680.length co32] rfl (by (try simp only [ma_, mb_, mc_]); first | done | rfl | (simp only [List.length_drop, List.length_take]; rfl)) ?_; (with_reducible refine (laws_eqIntS.calls k _ _ t1690 _ _ t1680 false _ (Kd.C_mv (Kd.R_reads' HO1692.out).2.2) ((Kd.R_reads' HO1692.out).2.1) (Kd.C_mv (Kd.R_reads' HO1682.out).2.2) ((Kd.R_reads' HO1682.out).2.1) A27.out).mono ?_); rintro e w' ⟨rfl, ⟨nd, rfl⟩⟩; refine ⟨_, rfl, ?_⟩))
    go_meet
    case rel => exact ⟨_, (true), (by first | rfl | (simp; done) | (simp [*]; done)), H', ⟨by first | omega | exact Nat.le_refl _⟩, ⟨Kd.R_mv (Kd.R_mono HO1682.out (fun _ hk => hk.2))⟩, ⟨Kd.R_mv (Kd.R_mono HO1692.out (fun _ hk => hk.2))⟩, ⟨Kd.R_mv (Kd.R_mono (ok' := fun k_ => True) HO1688.out (fun _ hk => trivial))⟩, ⟨km_ BK1673⟩, ⟨km_ BK1689⟩, ⟨bm HB⟩⟩
  case rest =>
   clear HC12
   try clear c1
   try clear c2
   try clear c3
   try clear c4
   try clear c4b0
   try clear c5
   try clear c14
   try clear c23
   try clear c30
   try clear c32
   try clear hcz14_0
   try clear hcz14_1
   try clear hcz14_2
   try clear hcz16_0
   try clear hcz16_1
   try clear hcz16_2
   try clear hcz20_0
   try clear hcz20_1
   try clear hcz20_2
   try clear hcz24_0
   try clear hcz24_1
   try clear hcz24_2
   try clear hfz14_0
   try clear hfz14_1
   try clear hfz14_2
   try clear hfz16_0
   try clear hfz16_1
   try clear hfz16_2
   try clear hfz20_0
   try clear hfz20_1
   try clear hfz20_2
   try clear hfz24_0
   try clear hfz24_1
   try clear hfz24_2
   obtain ⟨kq, x44_11, rfl, HA, HJ11, HO_6, HO_9, HO_1690002, BK1673, BK1689, HB⟩ := hcut
   cases kq with
   | zero => exact absurd HA.out (by simp [laws_FnExactNeededCells.j0])
   | succ kj11 =>
    have H := HA.out
    clear HA
    simp only [laws_FnExactNeededCells.j0] at H
    by_cases c33 : x44_11 = true
    ·subst c33
     have H1 : (some false) = some r := by rw [if_pos rfl] at H; exact H
     clear H
     have H := H1
     clear H1
     exact absurd (H.trans (congrArg some HRT.out)) (by simp)
    ·replace c33 := Bool.eq_false_iff.mpr c33
     subst c33
     have H1 : ((laws_toBoard.f kj11 a0_0 a0_1 l0_2).bind fun bt1695 => ((laws_eqBoard.f kj11 t1684 t1685 t1686 bt1695.1 bt1695.2.1 bt1695.2.2).bind fun t1700 => (if t1700 = true then ((laws_markBoard.f kj11 t1684 t1685 t1686 1).bind fun bt1701 => (if bt1701.1 < 0 then (laws_FnExactNeededCells.j1 kj11 a1 t1680 t1683 t1690 true a0_0 a0_1 l0_2) else ((laws_eqIntS.f kj11 t1690 t1680).bind fun t1703 => (if t1703 = true then (laws_FnExactNeededCells.j1 kj11 a1 t1680 t1683 t1690 (t1693 != t1683) a0_0 a0_1 l0_2) else (laws_FnExactNeededCells.j1 kj11 a1 t1680 t1683 t1690 true a0_0 a0_1 l0_2))))) else (some false)))) = some r := by rw [if_neg (show ¬ (false = true) by decide)] at H; exact H
     clear H
     have H := H1
     clear H1
     replace H := Option.bind_eq_some_iff.mp H
     obtain ⟨⟨t1695, t1696, t1697⟩, A340, H⟩ := H
     replace H : ((laws_eqBoard.f kj11 t1684 t1685 t1686 t1695 t1696 t1697).bind fun t1700 => (if t1700 = true then ((laws_markBoard.f kj11 t1684 t1685 t1686 1).bind fun bt1701 => (if bt1701.1 < 0 then (laws_FnExactNeededCells.j1 kj11 a1 t1680 t1683 t1690 true a0_0 a0_1 l0_2) else ((laws_eqIntS.f kj11 t1690 t1680).bind fun t1703 => (if t1703 = true then (laws_FnExactNeededCells.j1 kj11 a1 t1680 t1683 t1690 (t1693 != t1683) a0_0 a0_1 l0_2) else (laws_FnExactNeededCells.j1 kj11 a1 t1680 t1683 t1690 true a0_0 a0_1 l0_2))))) else (some false))) = some r := H
     have A34 := Aside0.mk A340
     clear A340
     replace H := Option.bind_eq_some_iff.mp H
     obtain ⟨t1700, A350, H⟩ := H
     replace H : (if t1700 = true then ((laws_markBoard.f kj11 t1684 t1685 t1686 1).bind fun bt1701 => (if bt1701.1 < 0 then (laws_FnExactNeededCells.j1 kj11 a1 t1680 t1683 t1690 true a0_0 a0_1 l0_2) else ((laws_eqIntS.f kj11 t1690 t1680).bind fun t1703 => (if t1703 = true then (laws_FnExactNeededCells.j1 kj11 a1 t1680 t1683 t1690 (t1693 != t1683) a0_0 a0_1 l0_2) else (laws_FnExactNeededCells.j1 kj11 a1 t1680 t1683 t1690 true a0_0 a0_1 l0_2))))) else (some false)) = some r := H
     have A35 := Aside0.mk A350
     clear A350
     by_cases c36 : t1700 = true
     ·subst c36
      have H1 : ((laws_markBoard.f kj11 t1684 t1685 t1686 1).bind fun bt1701 => (if bt1701.1 < 0 then (laws_FnExactNeededCells.j1 kj11 a1 t1680 t1683 t1690 true a0_0 a0_1 l0_2) else ((laws_eqIntS.f kj11 t1690 t1680).bind fun t1703 => (if t1703 = true then (laws_FnExactNeededCells.j1 kj11 a1 t1680 t1683 t1690 (t1693 != t1683) a0_0 a0_1 l0_2) else (laws_FnExactNeededCells.j1 kj11 a1 t1680 t1683 t1690 true a0_0 a0_1 l0_2))))) = some r := by rw [if_pos rfl] at H; exact H
      clear H
      have H := H1
      clear H1
      replace H := Option.bind_eq_some_iff.mp H
      obtain ⟨⟨t1701, t1702⟩, A370, H⟩ := H
      replace H : (if t1701 < 0 then (laws_FnExactNeededCells.j1 kj11 a1 t1680 t1683 t1690 true a0_0 a0_1 l0_2) else ((laws_eqIntS.f kj11 t1690 t1680).bind fun t1703 => (if t1703 = true then (laws_FnExactNeededCells.j1 kj11 a1 t1680 t1683 t1690 (t1693 != t1683) a0_0 a0_1 l0_2) else (laws_FnExactNeededCells.j1 kj11 a1 t1680 t1683 t1690 true a0_0 a0_1 l0_2)))) = some r := H
      have A37 := Aside0.mk A370
      clear A370
      have HC38 := Aside0.mk H
      clear H
      try go_wp2
      refine ev6 (Kd.R_drew HO_6.out) (Kd.R_drew HO_9.out) (Kd.R_drew HO_1690002.out) (blk_drew BK1673.out) (blk_drew BK1689.out) (below_drew1 HB.out) ?_
      clear HO_6 HO_9 HO_1690002 BK1673 BK1689 HB
      intro HO_6 HO_9 HO_1690002 BK1673 BK1689 HB
      refine start_ (n := 5) (S := fun w' => w'.cell? ⟨gb1689, 0, none⟩ = some (.int .i64 t1684) ∧ w'.cell? ⟨gb1689, 1, none⟩ = some (.int .i64 t1685) ∧ w'.cell? ⟨gb1689, 2, none⟩ = some (.slice Ao25 t1686.length co25) ∧ w'.cell? ⟨gb1673, 0, none⟩ = some (.int .i64 a0_0) ∧ w'.cell? ⟨gb1673, 1, none⟩ = some (.int .i64 a0_1) ∧ w'.cell? ⟨gb1673, 2, none⟩ = some (.slice A0_2 l0_2.length c0_2)) (ds := []) #[false, false, false, false, false] (by kernel_rfl) rfl rfl ⟨(blk_cell BK1689.out 0).trans rfl, (blk_cell BK1689.out 1).trans rfl, (blk_cell BK1689.out 2).trans rfl, (blk_cell BK1673.out 0).trans rfl, (blk_cell BK1673.out 1).trans rfl, (blk_cell BK1673.out 2).trans rfl⟩ (fun hHeld => ?_)
      generalize wc.drew = w39 at HO_6 HO_9 HO_1690002 BK1673 BK1689 HB hHeld ⊢
      refine take_ (i := 0) (N := some 45) (v := ?_) (a' := ?_) #[true, false, false, false, false] rfl rfl (by kernel_rfl) (fun _ _ _ h => h) (Or.inl ⟨by rfl, ?_⟩) hHeld ?_ ?_
      rotate_left
      ·rintro w' ⟨s0, s1, s2, s3, s4, s5⟩
       go_simp
       with_reducible rfl
      rotate_left
      ·simp only [Act.put, za_, zb_, zc_, i64_w, i32_w]
       rfl
      refine take_ (i := 1) (N := some 46) (v := ?_) (a' := ?_) #[true, true, false, false, false] rfl rfl (by kernel_rfl) (fun _ _ _ h => h) (Or.inl ⟨by rfl, ?_⟩) hHeld ?_ ?_
      rotate_left
      ·rintro w' ⟨s0, s1, s2, s3, s4, s5⟩
       go_simp
       with_reducible rfl
      rotate_left
      ·simp only [Act.put, za_, zb_, zc_, i64_w, i32_w]
       rfl
      refine one_ (i := 2) (N := some 47) #[true, true, true, false, false] rfl rfl (by kernel_rfl) (by decide) (fun K hK => ?_)
      refine goes_ Try.func32 (by kernel_rfl) rfl #[.agg #[.int .i64 a0_0, .int .i64 a0_1, .slice A0_2 l0_2.length c0_2]] (by rfl) rfl rfl (by (try simp only [ma_, mb_, mc_]); first | done | rfl | (simp only [List.length_drop, List.length_take]; rfl)) ?_
      with_reducible refine (laws_toBoard.calls kj11 a0_0 a0_1 _ _ l0_2 t1695 t1696 t1697 _ ?side1 ?side2 A34.out).mono ?_
      (case side1 => exact Kd.C_mv (Kd.C_below HR0_2.out HB.out))
      (case side2 => exact HC0_2.out)
      rintro e w40 ⟨v1698, rfl, ho0, hb⟩
      refine ⟨_, rfl, ?_⟩
      refine ev7 (Kd.R_below (Kd.R_mv HO_6.out) hb) (Kd.R_below (Kd.R_mv HO_9.out) hb) (Kd.R_elder' (Kd.R_mv HO_1690002.out) (Kd.R_base ho0) hb) (Kd.R_lower (Kd.R_new' ho0 (Kd.R_lt (Kd.R_mv HO_1690002.out))) (below_size (bm HB))) (kb BK1673 hb) (kb BK1689 hb) (bs HB hb) ?_
      clear HO_6 HO_9 HO_1690002 BK1673 BK1689 HB
      intro HO_6 HO_9 HO_1690002 HO1699 BK1673 BK1689 HB
      (try clear hb)
      (try clear hb2)
      (try clear hk)
      (try clear hi)
      (try clear ho0)
      obtain ⟨Ao41, co41, eo41⟩ := Kd.R_slice HO1699.out
      (first | subst eo41 | (injection eo41 with f1_ f2_ f3_; have f4_ := f1_.symm; have f5_ := f3_.symm; clear f1_ f2_ f3_; subst f4_; subst f5_))
      refine hK.out _ _ ⟨(blk_cell BK1689.out 0).trans rfl, (blk_cell BK1689.out 1).trans rfl, (blk_cell BK1689.out 2).trans rfl, (blk_cell BK1673.out 0).trans rfl, (blk_cell BK1673.out 1).trans rfl, (blk_cell BK1673.out 2).trans rfl⟩ (fun hHeld => ?_)
      clear hK K
      refine norm_ (a' := ?_) ?_ ?_
      rotate_left
      ·show Act.put _ (some 47) _ = _
       simp only [Act.put, za_, zb_, zc_, i64_w, i32_w]
       rfl
      refine one_ (i := 3) (N := some 48) #[true, true, true, true, false] rfl rfl (by kernel_rfl) (by decide) (fun K hK => ?_)
      refine goes_ Try.func34 (by kernel_rfl) rfl #[.agg #[.int .i64 t1684, .int .i64 t1685, .slice Ao25 t1686.length co25], .agg #[.int .i64 t1695, .int .i64 t1696, .slice Ao41 t1697.length co41]] (by rfl) rfl rfl (by (try simp only [ma_, mb_, mc_]); first | done | rfl | (simp only [List.length_drop, List.length_take]; rfl)) ?_
      with_reducible refine (laws_eqBoard.calls kj11 t1684 t1685 _ _ t1686 t1695 t1696 _ _ t1697 true _ ?side1 ?side2 ?side3 ?side4 A35.out).mono ?_
      (case side1 => exact Kd.C_mv (Kd.R_reads' HO_1690002.out).2.2)
      (case side2 => exact (Kd.R_reads' HO_1690002.out).2.1)
      (case side3 => exact Kd.C_mv (Kd.R_reads' HO1699.out).2.2)
      (case side4 => exact (Kd.R_reads' HO1699.out).2.1)
      rintro e w42 ⟨rfl, hb⟩
      refine ⟨_, rfl, ?_⟩
      refine ev7 (Kd.R_below (Kd.R_mv HO_6.out) hb) (Kd.R_below (Kd.R_mv HO_9.out) hb) (Kd.R_below (Kd.R_mv HO_1690002.out) hb) (Kd.R_below (Kd.R_mv HO1699.out) hb) (kb BK1673 hb) (kb BK1689 hb) (bs HB hb) ?_
      clear HO_6 HO_9 HO_1690002 HO1699 BK1673 BK1689 HB
      intro HO_6 HO_9 HO_1690002 HO1699 BK1673 BK1689 HB
      (try clear hb)
      (try clear hb2)
      (try clear hk)
      (try clear hi)
      refine hK.out _ _ ⟨(blk_cell BK1689.out 0).trans rfl, (blk_cell BK1689.out 1).trans rfl, (blk_cell BK1689.out 2).trans rfl, (blk_cell BK1673.out 0).trans rfl, (blk_cell BK1673.out 1).trans rfl, (blk_cell BK1673.out 2).trans rfl⟩ (fun hHeld => ?_)
      clear hK K
      refine norm_ (a' := ?_) ?_ ?_
      rotate_left
      ·show Act.put _ (some 48) _ = _
       simp only [Act.put, za_, zb_, zc_, i64_w, i32_w]
       rfl
      refine pure_ (i := 4) (N := some 49) (v := ?_) (a' := ?_) #[true, true, true, true, true] rfl rfl (by kernel_rfl) (fun _ _ _ h => h) (Or.inl ⟨by rfl, ?_⟩) ?_ ?_
      rotate_left
      ·intro w'
       go_simp
       with_reducible rfl
      rotate_left
      ·simp only [Act.put, za_, zb_, zc_, i64_w, i32_w]
       rfl
      refine done_ (by kernel_rfl) ?_
      have hnb43 := NB1689_1673.out
      have hnc43 := NB1673_1689.out
      obtain ⟨hcz44_0, hcz44_1, hcz44_2, hfz44_0, hfz44_1, hfz44_2⟩ := bt3 BK1689
      go_upto_region 14 with (first | ((with_reducible refine gate_callee (f := 39) rfl ?_); refine goesL_ (some 52) rfl rfl Try.func39 (by kernel_rfl) rfl #[.agg #[.int .i64 t1684, .int .i64 t1685, .slice Ao25 t1686.length co25], .int .i64 1] rfl (by (try simp only [ma_, mb_, mc_]); first | done | rfl | (simp only [List.length_drop, List.length_take]; rfl)) ?_; (with_reducible refine (laws_markBoard.calls kj11 t1684 t1685 (fun k_ => some k_ = (.slice Ao25 t1686.length co25 : Value).ownBlock) (.slice Ao25 t1686.length co25) t1686 1 t1701 t1702 w _ (bm HB) ?side2 A37.out).mono ?_); (case side2 => exact Kd.R_tight rfl HO_1690002.out); rintro e w45 ⟨rfl, hy0, hb, hkp⟩; refine ⟨_, rfl, ?_⟩; refine ev7 (Kd.R_mono (ok' := fun k_ => some k_ ≠ (v1691 : Value).ownBlock) (Kd.R_keptB ((Kd.R_apart' HO_6.out (Kd.R_typed HO_1690002.out) (by decide))) hkp (fun k_ hk_ hs_ => (hk_.2) hs_)) (fun k_ hk_ => hk_.1.1)) (Kd.R_mono (ok' := fun k_ => some k_ ≠ (v1681 : Value).ownBlock) (Kd.R_keptB ((Kd.R_apart' HO_9.out (Kd.R_typed HO_1690002.out) (by decide))) hkp (fun k_ hk_ hs_ => (hk_.2) hs_)) (fun k_ hk_ => hk_.1.1)) (Kd.R_reok rfl hy0 (fun k_ e_ => HO_1690002.out.1 k_ e_)) (blk_kept (km_ BK1673) hkp (fun hs_ => (fun e_ => (Kd.R_ne HO_1690002.out BK1673.out (by decide)) e_) hs_)) (blk_kept (km_ BK1689) hkp (fun hs_ => (fun e_ => (Kd.R_ne HO_1690002.out BK1689.out (by decide)) e_) hs_)) (Kd.R_mono (ok' := fun k_ => some k_ ≠ (.slice Ao25 t1686.length co25 : Value).ownBlock) (Kd.R_keptB (HO1699.out) hkp (fun k_ hk_ hs_ => (hk_.2) hs_)) (fun k_ hk_ => hk_.1.2)) (hb) ?_; clear HO_6 HO_9 HO_1690002 BK1673 BK1689 HO1699 HB; intro HO_6 HO_9 HO_1690002 BK1673 BK1689 HO1699 HB; (try clear hb); (try clear hkp); (try clear hy0)))
      (try simp only [Act.put, za_, zb_, zc_])
      go_cut [65] (fun v65 wc => ∃ (kq : Nat) (x65_37 : Bool), v65 = .bool x65_37 ∧ Aside0 (laws_FnExactNeededCells.j1 kq a1 t1680 t1683 t1690 x65_37 a0_0 a0_1 l0_2 = some r) ∧ Aside0 (kq ≤ kj11) ∧ Aside0 (Kd.R (Kd.int .i64) 3 wc w.heap.size (fun k_ => some k_ ≠ (v1691 : Value).ownBlock) v1681 t1680) ∧ Aside0 (Kd.R (Kd.int .i64) 3 wc w.heap.size (fun k_ => some k_ ≠ (v1681 : Value).ownBlock) v1691 t1690) ∧ Aside0 (Kd.R k78 78 wc w.heap.size (fun _ => True) (.slice Ao25 t1686.length co25) t1702) ∧ Aside0 (wc.heap[gb1673]? = some (.cells #[.int .i64 a0_0, .int .i64 a0_1, (.slice A0_2 l0_2.length c0_2)] 44 (0, 0))) ∧ Aside0 (wc.heap[gb1689]? = some (.cells #[.int .i64 t1684, .int .i64 t1685, (.slice Ao25 t1686.length co25)] 48 (0, 0))) ∧ Aside0 (Below w.heap.size w wc))
      case first =>
       have H := HC38.out
       clear HC38
       by_cases c46 : t1701 < 0
       ·rw [if_pos c46] at H
        have c46b0 : decide (t1701 < 0) = true := decide_eq_true c46
        clear c46
        (first | rw [c46b0] | (simp only [i64_w, i32_w]; rw [c46b0]) | skip)
        have H' := Aside0.mk H
        clear H
        go_wp2
        go_meet
        case rel => exact ⟨_, (true), (by first | rfl | (simp; done) | (simp [*]; done)), H', ⟨by have := HJ11.out; first | omega | exact Nat.le_refl _⟩, ⟨Kd.R_mv HO_6.out⟩, ⟨Kd.R_mv HO_9.out⟩, ⟨Kd.R_mv (Kd.R_mono (ok' := fun k_ => True) HO_1690002.out (fun _ hk => trivial))⟩, ⟨km_ BK1673⟩, ⟨km_ BK1689⟩, ⟨bm HB⟩⟩
       ·rw [if_neg c46] at H
        have c46b0 : decide (t1701 < 0) = false := decide_eq_false c46
        clear c46
        (first | rw [c46b0] | (simp only [i64_w, i32_w]; rw [c46b0]) | skip)
        replace H := Option.bind_eq_some_iff.mp H
        obtain ⟨t1703, A470, H⟩ := H
        replace H : (if t1703 = true then (laws_FnExactNeededCells.j1 kj11 a1 t1680 t1683 t1690 (t1693 != t1683) a0_0 a0_1 l0_2) else (laws_FnExactNeededCells.j1 kj11 a1 t1680 t1683 t1690 true a0_0 a0_1 l0_2)) = some r := H
        have A47 := Aside0.mk A470
        clear A470
        by_cases c48 : t1703 = true
        ·subst c48
         have H1 : (laws_FnExactNeededCells.j1 kj11 a1 t1680 t1683 t1690 (t1693 != t1683) a0_0 a0_1 l0_2) = some r := by rw [if_pos rfl] at H; exact H
         clear H
         have H := H1
         clear H1
         have H' := Aside0.mk H
         clear H
         obtain ⟨Ao49, co49, eo49⟩ := Kd.R_slice HO_9.out
         subst eo49
         obtain ⟨Ao50, co50, eo50⟩ := Kd.R_slice HO_6.out
         subst eo50
         go_wp2_with (first | (go_at_call 18; (with_reducible refine (laws_eqIntS.calls kj11 _ _ t1690 _ _ t1680 true _ (Kd.C_mv (Kd.R_reads' HO_9.out).2.2) ((Kd.R_reads' HO_9.out).2.1) (Kd.C_mv (Kd.R_reads' HO_6.out).2.2) ((Kd.R_reads' HO_6.out).2.1) A47.out).mono ?_); rintro e w' ⟨rfl, ⟨nd, rfl⟩⟩))
         go_meet
         case rel => exact ⟨_, ((t1693 != t1683)), (by first | rfl | (simp; done) | (simp [*]; done)), H', ⟨by have := HJ11.out; first | omega | exact Nat.le_refl _⟩, ⟨Kd.R_mv HO_6.out⟩, ⟨Kd.R_mv HO_9.out⟩, ⟨Kd.R_mv (Kd.R_mono (ok' := fun k_ => True) HO_1690002.out (fun _ hk => trivial))⟩, ⟨km_ BK1673⟩, ⟨km_ BK1689⟩, ⟨bm HB⟩⟩
        ·replace c48 := Bool.eq_false_iff.mpr c48
         subst c48
         have H1 : (laws_FnExactNeededCells.j1 kj11 a1 t1680 t1683 t1690 true a0_0 a0_1 l0_2) = some r := by rw [if_neg (show ¬ (false = true) by decide)] at H; exact H
         clear H
         have H := H1
         clear H1
         have H' := Aside0.mk H
         clear H
         obtain ⟨Ao51, co51, eo51⟩ := Kd.R_slice HO_9.out
         subst eo51
         obtain ⟨Ao52, co52, eo52⟩ := Kd.R_slice HO_6.out
         subst eo52
         go_wp2_with (first | (go_at_call 18; (with_reducible refine (laws_eqIntS.calls kj11 _ _ t1690 _ _ t1680 false _ (Kd.C_mv (Kd.R_reads' HO_9.out).2.2) ((Kd.R_reads' HO_9.out).2.1) (Kd.C_mv (Kd.R_reads' HO_6.out).2.2) ((Kd.R_reads' HO_6.out).2.1) A47.out).mono ?_); rintro e w' ⟨rfl, ⟨nd, rfl⟩⟩))
         go_meet
         case rel => exact ⟨_, (true), (by first | rfl | (simp; done) | (simp [*]; done)), H', ⟨by have := HJ11.out; first | omega | exact Nat.le_refl _⟩, ⟨Kd.R_mv HO_6.out⟩, ⟨Kd.R_mv HO_9.out⟩, ⟨Kd.R_mv (Kd.R_mono (ok' := fun k_ => True) HO_1690002.out (fun _ hk => trivial))⟩, ⟨km_ BK1673⟩, ⟨km_ BK1689⟩, ⟨bm HB⟩⟩
      case rest =>
       clear HC38
       try clear c1
       try clear c2
       try clear p2
       try clear c3
       try clear c4
       try clear c4b0
       try clear c5
       try clear c14
       try clear c23
       try clear c30
       try clear c32
       try clear c33
       try clear c34
       try clear c36
       try clear c39
       try clear c43
       try clear hcz14_0
       try clear hcz14_1
       try clear hcz14_2
       try clear hcz16_0
       try clear hcz16_1
       try clear hcz16_2
       try clear hcz20_0
       try clear hcz20_1
       try clear hcz20_2
       try clear hcz24_0
       try clear hcz24_1
       try clear hcz24_2
       try clear hcz44_0
       try clear hcz44_1
       try clear hcz44_2
       try clear hfz14_0
       try clear hfz14_1
       try clear hfz14_2
       try clear hfz16_0
       try clear hfz16_1
       try clear hfz16_2
       try clear hfz20_0
       try clear hfz20_1
       try clear hfz20_2
       try clear hfz24_0
       try clear hfz24_1
       try clear hfz24_2
       try clear hfz44_0
       try clear hfz44_1
       try clear hfz44_2
       obtain ⟨kq, x65_37, rfl, HA, HJ37, HO_6, HO_9, HO_1690002, BK1673, BK1689, HB⟩ := hcut
       have hl1690002_37 := (Kd.R_reads' HO_1690002.out).1
       rw [hl1690002_37] at HO_1690002
       (try simp only [hl1690002_37])
       (try simp only [hl1690002_37] at BK1673)
       (try simp only [hl1690002_37] at BK1689)
       (try simp only [hl1690002_37] at HO_6)
       (try simp only [hl1690002_37] at HO_9)
       cases kq with
       | zero => exact absurd HA.out (by simp [laws_FnExactNeededCells.j1])
       | succ kj37 =>
        have H := HA.out
        clear HA
        simp only [laws_FnExactNeededCells.j1] at H
        by_cases c53 : x65_37 = true
        ·subst c53
         have H1 : (some false) = some r := by rw [if_pos rfl] at H; exact H
         clear H
         have H := H1
         clear H1
         exact absurd (H.trans (congrArg some HRT.out)) (by simp)
        ·replace c53 := Bool.eq_false_iff.mpr c53
         subst c53
         have H1 : ((laws_markIntS.f kj37 t1690 1).bind fun bt1704 => ((laws_heldIntS.f kj37 bt1704.2 1).bind fun t1706 => (if t1706 < 0 then (some false) else (if t1706 = bt1704.1 then ((laws_toBoard.f kj37 a0_0 a0_1 l0_2).bind fun bt1707 => ((impl_NeededCells.f kj37 bt1707.1 bt1707.2.1 bt1707.2.2 a1).bind fun bt1712 => ((laws_eqIntS.f kj37 bt1712.1 t1680).bind fun t1716 => (if t1716 = true then (laws_FnExactNeededCells.j2 kj37 bt1704.2 bt1704.1 (bt1712.2 != t1683)) else (laws_FnExactNeededCells.j2 kj37 bt1704.2 bt1704.1 true))))) else (some false))))) = some r := by rw [if_neg (show ¬ (false = true) by decide)] at H; exact H
         clear H
         have H := H1
         clear H1
         replace H := Option.bind_eq_some_iff.mp H
         obtain ⟨⟨t1704, t1705⟩, A540, H⟩ := H
         replace H : ((laws_heldIntS.f kj37 t1705 1).bind fun t1706 => (if t1706 < 0 then (some false) else (if t1706 = t1704 then ((laws_toBoard.f kj37 a0_0 a0_1 l0_2).bind fun bt1707 => ((impl_NeededCells.f kj37 bt1707.1 bt1707.2.1 bt1707.2.2 a1).bind fun bt1712 => ((laws_eqIntS.f kj37 bt1712.1 t1680).bind fun t1716 => (if t1716 = true then (laws_FnExactNeededCells.j2 kj37 t1705 t1704 (bt1712.2 != t1683)) else (laws_FnExactNeededCells.j2 kj37 t1705 t1704 true))))) else (some false)))) = some r := H
         have A54 := Aside0.mk A540
         clear A540
         replace H := Option.bind_eq_some_iff.mp H
         obtain ⟨t1706, A550, H⟩ := H
         replace H : (if t1706 < 0 then (some false) else (if t1706 = t1704 then ((laws_toBoard.f kj37 a0_0 a0_1 l0_2).bind fun bt1707 => ((impl_NeededCells.f kj37 bt1707.1 bt1707.2.1 bt1707.2.2 a1).bind fun bt1712 => ((laws_eqIntS.f kj37 bt1712.1 t1680).bind fun t1716 => (if t1716 = true then (laws_FnExactNeededCells.j2 kj37 t1705 t1704 (bt1712.2 != t1683)) else (laws_FnExactNeededCells.j2 kj37 t1705 t1704 true))))) else (some false))) = some r := H
         have A55 := Aside0.mk A550
         clear A550
         by_cases c56 : t1706 < 0
         ·rw [if_pos c56] at H
          have c56b0 : decide (t1706 < 0) = true := decide_eq_true c56
          clear c56
          exact absurd (H.trans (congrArg some HRT.out)) (by simp)
         ·rw [if_neg c56] at H
          have c56b0 : decide (t1706 < 0) = false := decide_eq_false c56
          clear c56
          by_cases c57 : t1706 = t1704
          ·rw [if_pos c57] at H
           have c57b0 : (t1706 == t1704) = true := beq_iff_eq.mpr c57
           have c57b1 : (t1706 != t1704) = false := bne_eq_false_iff_eq.mpr c57
           clear c57
           replace H := Option.bind_eq_some_iff.mp H
           obtain ⟨⟨t1707, t1708, t1709⟩, A580, H⟩ := H
           replace H : ((impl_NeededCells.f kj37 t1707 t1708 t1709 a1).bind fun bt1712 => ((laws_eqIntS.f kj37 bt1712.1 t1680).bind fun t1716 => (if t1716 = true then (laws_FnExactNeededCells.j2 kj37 t1705 t1704 (bt1712.2 != t1683)) else (laws_FnExactNeededCells.j2 kj37 t1705 t1704 true)))) = some r := H
           have A58 := Aside0.mk A580
           clear A580
           replace H := Option.bind_eq_some_iff.mp H
           obtain ⟨⟨t1712, t1715⟩, A590, H⟩ := H
           replace H : ((laws_eqIntS.f kj37 t1712 t1680).bind fun t1716 => (if t1716 = true then (laws_FnExactNeededCells.j2 kj37 t1705 t1704 (t1715 != t1683)) else (laws_FnExactNeededCells.j2 kj37 t1705 t1704 true))) = some r := H
           have A59 := Aside0.mk A590
           clear A590
           have HC60 := Aside0.mk H
           clear H
           obtain ⟨Ao61, co61, eo61⟩ := Kd.R_slice HO_9.out
           subst eo61
           go_upto_region 25 with (first | ((with_reducible refine gate_callee (f := 40) rfl ?_); refine goesL_ (some 68) rfl rfl Try.func40 (by kernel_rfl) rfl #[.slice Ao61 t1690.length co61, .int .i64 1] rfl (by (try simp only [ma_, mb_, mc_]); first | done | rfl | (simp only [List.length_drop, List.length_take]; rfl)) ?_; (with_reducible refine (laws_markIntS.calls kj37 (fun k_ => some k_ = (.slice Ao61 t1690.length co61 : Value).ownBlock) (.slice Ao61 t1690.length co61) t1690 1 t1704 t1705 w _ (bm HB) ?side2 A54.out).mono ?_); (case side2 => exact Kd.R_tight rfl HO_9.out); rintro e w62 ⟨rfl, hy0, hb, hkp⟩; refine ⟨_, rfl, ?_⟩; refine ev6 (Kd.R_mono (ok' := fun k_ => some k_ ≠ (.slice Ao61 t1690.length co61 : Value).ownBlock) (Kd.R_keptB (HO_6.out) hkp (fun k_ hk_ hs_ => (hk_) hs_)) (fun k_ hk_ => hk_.1)) (Kd.R_reok rfl hy0 (fun k_ e_ => HO_9.out.1 k_ e_)) (Kd.R_mono (ok' := fun k_ => True) (Kd.R_keptB ((Kd.R_apart' HO_1690002.out (Kd.R_typed HO_9.out) (by decide))) hkp (fun k_ hk_ hs_ => (hk_.2) hs_)) (fun k_ hk_ => trivial)) (blk_kept (km_ BK1673) hkp (fun hs_ => (fun e_ => (Kd.R_ne HO_9.out BK1673.out (by decide)) e_) hs_)) (blk_kept (km_ BK1689) hkp (fun hs_ => (fun e_ => (Kd.R_ne HO_9.out BK1689.out (by decide)) e_) hs_)) (hb) ?_; clear HO_6 HO_9 HO_1690002 BK1673 BK1689 HB; intro HO_6 HO_9 HO_1690002 BK1673 BK1689 HB; (try clear hb); (try clear hkp); (try clear hy0)) | ((with_reducible refine gate_callee (f := 41) rfl ?_); refine goesL_ (some 71) rfl rfl Try.func41 (by kernel_rfl) rfl #[.slice Ao61 t1705.length co61, .int .i64 1] rfl (by (try simp only [ma_, mb_, mc_]); first | done | (rw [show t1705.length = t1690.length from (Kd.R_reads' HO_9.out).1.symm] <;> rfl) | rfl | (simp only [List.length_drop, List.length_take]; rfl)) ?_; (with_reducible refine (laws_heldIntS.calls kj37 _ _ t1705 1 t1706 _ (Kd.C_mv (Kd.R_reads' HO_9.out).2.2) ?side2 A55.out).mono ?_); (case side2 => rw [show t1705.length = t1690.length from (Kd.R_reads' HO_9.out).1.symm]; exact (Kd.R_reads' HO_9.out).2.1); rintro e w' ⟨rfl, ⟨nd, rfl⟩⟩; refine ⟨_, rfl, ?_⟩; have hnb63 := NB1673_1689.out; have hnc63 := NB1689_1673.out; obtain ⟨hcz64_0, hcz64_1, hcz64_2, hfz64_0, hfz64_1, hfz64_2⟩ := bt3 BK1673) | ((with_reducible refine gate_callee (f := 32) rfl ?_); refine goesL_ (some 79) rfl rfl Try.func32 (by kernel_rfl) rfl #[.agg #[.int .i64 a0_0, .int .i64 a0_1, .slice A0_2 l0_2.length c0_2]] rfl (by (try simp only [ma_, mb_, mc_]); first | done | rfl | (simp only [List.length_drop, List.length_take]; rfl)) ?_; (with_reducible refine (laws_toBoard.calls kj37 a0_0 a0_1 _ _ l0_2 t1707 t1708 t1709 _ (Kd.C_below HR0_2.out (bm HB)) HC0_2.out A58.out).mono ?_); rintro e w65 ⟨v1710, rfl, ho0, hb⟩; refine ⟨_, rfl, ?_⟩; refine ev7 (Kd.R_below (Kd.R_mv HO_6.out) hb) (Kd.R_below (Kd.R_mv HO_9.out) hb) (Kd.R_elder' (Kd.R_mv HO_1690002.out) (Kd.R_base ho0) hb) (Kd.R_lower (Kd.R_new' ho0 (Kd.R_lt (Kd.R_mv HO_1690002.out))) (below_size (bm HB))) (kb BK1673 hb) (kb BK1689 hb) (bs HB hb) ?_; clear HO_6 HO_9 HO_1690002 BK1673 BK1689 HB; intro HO_6 HO_9 HO_1690002 HO1711 BK1673 BK1689 HB; (try clear hb); (try clear hb2); (try clear hk); (try clear hi); (try clear ho0); obtain ⟨Ao66, co66, eo66⟩ := Kd.R_slice HO1711.out; subst eo66) | ((with_reducible refine gate_callee (f := 55) rfl ?_); refine goesL_ (some 81) rfl rfl Try.func55 (by kernel_rfl) rfl #[.agg #[.int .i64 t1707, .int .i64 t1708, .slice Ao66 t1709.length co66], .int .i64 a1] rfl (by (try simp only [ma_, mb_, mc_]); first | done | rfl | (simp only [List.length_drop, List.length_take]; rfl)) ?_; (with_reducible refine (impl_NeededCells.calls kj37 t1707 t1708 _ _ t1709 a1 t1712 t1715 _ (Kd.C_mv (Kd.R_reads' HO1711.out).2.2) ((Kd.R_reads' HO1711.out).2.1) A59.out).mono ?_); rintro e w67 ⟨v1713, rfl, ho0, hb⟩; refine ⟨_, rfl, ?_⟩; refine ev8 (Kd.R_elder' (Kd.R_mv HO_6.out) (Kd.R_base ho0) hb) (Kd.R_elder' (Kd.R_mv HO_9.out) (Kd.R_base ho0) hb) (Kd.R_below (Kd.R_mv HO_1690002.out) hb) (Kd.R_below (Kd.R_mv HO1711.out) hb) (Kd.R_lower (Kd.R_new' (Kd.R_new' ho0 (Kd.R_lt (Kd.R_mv HO_6.out))) (Kd.R_lt (Kd.R_mv HO_9.out))) (below_size (bm HB))) (kb BK1673 hb) (kb BK1689 hb) (bs HB hb) ?_; clear HO_6 HO_9 HO_1690002 HO1711 BK1673 BK1689 HB; intro HO_6 HO_9 HO_1690002 HO1711 HO1714 BK1673 BK1689 HB; (try clear hb); (try clear hb2); (try clear hk); (try clear hi); (try clear ho0)))
           (try simp only [Act.put, za_, zb_, zc_])
           go_cut [92] (fun v92 wc => ∃ (kq : Nat) (x92_59 : Bool), v92 = .bool x92_59 ∧ Aside0 (laws_FnExactNeededCells.j2 kq t1705 t1704 x92_59 = some r) ∧ Aside0 (kq ≤ kj37) ∧ Aside0 (Kd.R (Kd.int .i64) 3 wc w.heap.size (fun _ => True) (.slice Ao61 t1690.length co61) t1705) ∧ Aside0 (Kd.R k78 78 wc w.heap.size (fun _ => True) (.slice Ao25 t1702.length co25) t1702) ∧ Aside0 (wc.heap[gb1673]? = some (.cells #[.int .i64 a0_0, .int .i64 a0_1, (.slice A0_2 l0_2.length c0_2)] 44 (0, 0))) ∧ Aside0 (wc.heap[gb1689]? = some (.cells #[.int .i64 t1684, .int .i64 t1685, (.slice Ao25 t1702.length co25)] 48 (0, 0))) ∧ Aside0 (Below w.heap.size w wc))
           case first =>
            have H := HC60.out
            clear HC60
            replace H := Option.bind_eq_some_iff.mp H
            obtain ⟨t1716, A680, H⟩ := H
            replace H : (if t1716 = true then (laws_FnExactNeededCells.j2 kj37 t1705 t1704 (t1715 != t1683)) else (laws_FnExactNeededCells.j2 kj37 t1705 t1704 true)) = some r := H
            have A68 := Aside0.mk A680
            clear A680
            by_cases c69 : t1716 = true
            ·subst c69
             have H1 : (laws_FnExactNeededCells.j2 kj37 t1705 t1704 (t1715 != t1683)) = some r := by rw [if_pos rfl] at H; exact H
             clear H
             have H := H1
             clear H1
             have H' := Aside0.mk H
             clear H
             obtain ⟨Ao70, co70, eo70⟩ := Kd.R_slice HO1714.out
             subst eo70
             obtain ⟨Ao71, co71, eo71⟩ := Kd.R_slice HO_6.out
             subst eo71
             go_wp2_with (first | ((with_reducible refine gate_callee (f := 18) rfl ?_); refine goesL_ (some 86) rfl rfl Try.func18 (by kernel_rfl) rfl #[.slice Ao70 t1712.length co70, .slice Ao71 t1680.length co71] rfl (by (try simp only [ma_, mb_, mc_]); first | done | rfl | (simp only [List.length_drop, List.length_take]; rfl)) ?_; (with_reducible refine (laws_eqIntS.calls kj37 _ _ t1712 _ _ t1680 true _ (Kd.C_mv (Kd.R_reads' HO1714.out).2.2) ((Kd.R_reads' HO1714.out).2.1) (Kd.C_mv (Kd.R_reads' HO_6.out).2.2) ((Kd.R_reads' HO_6.out).2.1) A68.out).mono ?_); rintro e w' ⟨rfl, ⟨nd, rfl⟩⟩; refine ⟨_, rfl, ?_⟩))
             go_meet
             case rel => exact ⟨_, ((t1715 != t1683)), (by first | rfl | (simp; done) | (simp [*]; done)), H', ⟨by have := HJ11.out; have := HJ37.out; first | omega | exact Nat.le_refl _⟩, ⟨by (try simp only [hl1690002_37]); exact Kd.R_mv (Kd.R_mono (ok' := fun k_ => True) HO_9.out (fun _ hk => trivial))⟩, ⟨by (try simp only [hl1690002_37]); exact Kd.R_mv (Kd.R_mono (ok' := fun k_ => True) HO_1690002.out (fun _ hk => trivial))⟩, ⟨by (try simp only [hl1690002_37]); exact km_ BK1673⟩, ⟨by (try simp only [hl1690002_37]); exact km_ BK1689⟩, ⟨bm HB⟩⟩
            ·replace c69 := Bool.eq_false_iff.mpr c69
             subst c69
             have H1 : (laws_FnExactNeededCells.j2 kj37 t1705 t1704 true) = some r := by rw [if_neg (show ¬ (false = true) by decide)] at H; exact H
             clear H
             have H := H1
             clear H1
             have H' := Aside0.mk H
             clear H
             obtain ⟨Ao72, co72, eo72⟩ := Kd.R_slice HO1714.out
             subst eo72
             obtain ⟨Ao73, co73, eo73⟩ := Kd.R_slice HO_6.out
             subst eo73
             go_wp2_with (first | ((with_reducible refine gate_callee (f := 18) rfl ?_); refine goesL_ (some 86) rfl rfl Try.func18 (by kernel_rfl) rfl #[.slice Ao72 t1712.length co72, .slice Ao73 t1680.length co73] rfl (by (try simp only [ma_, mb_, mc_]); first | done | rfl | (simp only [List.length_drop, List.length_take]; rfl)) ?_; (with_reducible refine (laws_eqIntS.calls kj37 _ _ t1712 _ _ t1680 false _ (Kd.C_mv (Kd.R_reads' HO1714.out).2.2) ((Kd.R_reads' HO1714.out).2.1) (Kd.C_mv (Kd.R_reads' HO_6.out).2.2) ((Kd.R_reads' HO_6.out).2.1) A68.out).mono ?_); rintro e w' ⟨rfl, ⟨nd, rfl⟩⟩; refine ⟨_, rfl, ?_⟩))
             go_meet
             case rel => exact ⟨_, (true), (by first | rfl | (simp; done) | (simp [*]; done)), H', ⟨by have := HJ11.out; have := HJ37.out; first | omega | exact Nat.le_refl _⟩, ⟨by (try simp only [hl1690002_37]); exact Kd.R_mv (Kd.R_mono (ok' := fun k_ => True) HO_9.out (fun _ hk => trivial))⟩, ⟨by (try simp only [hl1690002_37]); exact Kd.R_mv (Kd.R_mono (ok' := fun k_ => True) HO_1690002.out (fun _ hk => trivial))⟩, ⟨by (try simp only [hl1690002_37]); exact km_ BK1673⟩, ⟨by (try simp only [hl1690002_37]); exact km_ BK1689⟩, ⟨bm HB⟩⟩
           case rest =>
            clear HC60
            try clear c1
            try clear c2
            try clear p2
            try clear c3
            try clear c4
            try clear c4b0
            try clear c5
            try clear c6
            try clear c14
            try clear c23
            try clear c30
            try clear c32
            try clear c33
            try clear c34
            try clear c36
            try clear c39
            try clear c40
            try clear c41
            try clear c43
            try clear c53
            try clear c54
            try clear c55
            try clear c56
            try clear c56b0
            try clear c57
            try clear c57b0
            try clear c57b1
            try clear c63
            try clear hcz14_0
            try clear hcz14_1
            try clear hcz14_2
            try clear hcz16_0
            try clear hcz16_1
            try clear hcz16_2
            try clear hcz20_0
            try clear hcz20_1
            try clear hcz20_2
            try clear hcz24_0
            try clear hcz24_1
            try clear hcz24_2
            try clear hcz44_0
            try clear hcz44_1
            try clear hcz44_2
            try clear hcz64_0
            try clear hcz64_1
            try clear hcz64_2
            try clear hfz14_0
            try clear hfz14_1
            try clear hfz14_2
            try clear hfz16_0
            try clear hfz16_1
            try clear hfz16_2
            try clear hfz20_0
            try clear hfz20_1
            try clear hfz20_2
            try clear hfz24_0
            try clear hfz24_1
            try clear hfz24_2
            try clear hfz44_0
            try clear hfz44_1
            try clear hfz44_2
            try clear hfz64_0
            try clear hfz64_1
            try clear hfz64_2
            try clear p2
            obtain ⟨kq, x92_59, rfl, HA, HJ59, HO_9, HO_1690002, BK1673, BK1689, HB⟩ := hcut
            have hl9_59 := (Kd.R_reads' HO_9.out).1
            rw [hl9_59] at HO_9
            (try simp only [hl9_59])
            (try simp only [hl9_59] at BK1673)
            (try simp only [hl9_59] at BK1689)
            (try simp only [hl9_59] at HO_1690002)
            cases kq with
            | zero => exact absurd HA.out (by simp [laws_FnExactNeededCells.j2])
            | succ kj59 =>
             have H := HA.out
             clear HA
             simp only [laws_FnExactNeededCells.j2] at H
             by_cases c74 : x92_59 = true
             ·subst c74
              have H1 : (some false) = some r := by rw [if_pos rfl] at H; exact H
              clear H
              have H := H1
              clear H1
              exact absurd (H.trans (congrArg some HRT.out)) (by simp)
             ·replace c74 := Bool.eq_false_iff.mpr c74
              subst c74
              have H1 : ((laws_heldIntS.f kj59 t1705 1).bind fun t1717 => (if t1717 < 0 then (some false) else (if t1717 = t1704 then (some true) else (some false)))) = some r := by rw [if_neg (show ¬ (false = true) by decide)] at H; exact H
              clear H
              have H := H1
              clear H1
              replace H := Option.bind_eq_some_iff.mp H
              obtain ⟨t1717, A750, H⟩ := H
              replace H : (if t1717 < 0 then (some false) else (if t1717 = t1704 then (some true) else (some false))) = some r := H
              have A75 := Aside0.mk A750
              clear A750
              by_cases c76 : t1717 < 0
              ·rw [if_pos c76] at H
               have c76b0 : decide (t1717 < 0) = true := decide_eq_true c76
               clear c76
               exact absurd (H.trans (congrArg some HRT.out)) (by simp)
              ·rw [if_neg c76] at H
               have c76b0 : decide (t1717 < 0) = false := decide_eq_false c76
               clear c76
               by_cases c77 : t1717 = t1704
               ·rw [if_pos c77] at H
                have c77b0 : (t1717 == t1704) = true := beq_iff_eq.mpr c77
                have c77b1 : (t1717 != t1704) = false := bne_eq_false_iff_eq.mpr c77
                clear c77
                obtain rfl := Option.some.inj H
                go_wp2_with (first | ((with_reducible refine gate_callee (f := 41) rfl ?_); refine goesL_ (some 95) rfl rfl Try.func41 (by kernel_rfl) rfl #[.slice Ao61 t1705.length co61, .int .i64 1] rfl (by (try simp only [ma_, mb_, mc_]); first | done | rfl | (simp only [List.length_drop, List.length_take]; rfl)) ?_; (with_reducible refine (laws_heldIntS.calls kj59 _ _ t1705 1 t1717 _ (Kd.C_mv (Kd.R_reads' HO_9.out).2.2) ((Kd.R_reads' HO_9.out).2.1) A75.out).mono ?_); rintro e w' ⟨rfl, ⟨nd, rfl⟩⟩; refine ⟨_, rfl, ?_⟩))
                go_ret
                exact ⟨by first | rfl | (simp [e0_, e1_] <;> rfl) | (simp [*, e0_, e1_] <;> rfl), bm HB⟩
               ·rw [if_neg c77] at H
                have c77b0 : (t1717 == t1704) = false := beq_eq_false_iff_ne.mpr c77
                have c77b1 : (t1717 != t1704) = true := bne_iff_ne.mpr c77
                exact absurd (H.trans (congrArg some HRT.out)) (by simp)
          ·rw [if_neg c57] at H
           have c57b0 : (t1706 == t1704) = false := beq_eq_false_iff_ne.mpr c57
           have c57b1 : (t1706 != t1704) = true := bne_iff_ne.mpr c57
           exact absurd (H.trans (congrArg some HRT.out)) (by simp)
     ·replace c36 := Bool.eq_false_iff.mpr c36
      subst c36
      have H1 : (some false) = some r := by rw [if_neg (show ¬ (false = true) by decide)] at H; exact H
      clear H
      have H := H1
      clear H1
      exact absurd (H.trans (congrArg some HRT.out)) (by simp)
end Go.Proofs.Ytjogiiobaakjkaa.F
