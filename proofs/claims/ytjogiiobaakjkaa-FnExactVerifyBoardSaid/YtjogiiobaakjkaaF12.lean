-- Written by a program of this session (a patched print) out of the translation; Lean checks it.
import Derived.Test.YtjogiiobaakjkaaF0
import Derived.Test.YtjogiiobaakjkaaF2
import Derived.Test.YtjogiiobaakjkaaF3
import Derived.Test.YtjogiiobaakjkaaF4
namespace Go.Proofs.Ytjogiiobaakjkaa.F
open Go.RowKit Go.Proofs.YtjogiiobaakjkaaV.PrintWords Go.Proofs.YtjogiiobaakjkaaV.PrintLast Go.Proofs.YtjogiiobaakjkaaV.PrintMore
attribute [local go_sem] max2_int min2_int max_two min_two max_three min_three max_four min_four
attribute [local go_sem] Try.underlying30 Try.underlying35 Try.underlying44 Try.underlying48 Try.underlying62 Try.underlying66 Try.underlying78 Try.underlying90 Try.underlying112
set_option linter.unusedVariables false
set_option linter.unusedSimpArgs false

/-! ### laws_szBoard: function 30 -/
def laws_szBoard.f (a0_0 : Int) (a0_1 : Int) (l0_2 : List (S112)) (a1 : Int) : Option (Int) := (laws_szCellS.f l0_2 a1).bind fun t525 => (if t525 < 0 then (some (-1)) else (some t525))
set_option maxHeartbeats 8000000 in
set_option maxRecDepth 100000 in
theorem laws_szBoard.calls (a0_0 : Int) (a0_1 : Int) (A0_2 : Option Addr) (c0_2 : Nat) (l0_2 : List (S112)) (a1 : Int) (r : Int) (w : World) (hr0_2 : Kd.C k112 w A0_2 l0_2.length l0_2) (hc0_2 : l0_2.length ≤ c0_2) (h : laws_szBoard.f a0_0 a0_1 l0_2 a1 = some r) :
  Calls Try.prog 30 #[.agg #[.int .i64 a0_0, .int .i64 a0_1, .slice A0_2 l0_2.length c0_2], .int .i64 a1] w fun e w' => e = .returned (.int .i64 r) ∧ Below w.heap.size w w' := by
 have HR0_2 := Aside0.mk hr0_2
 have HC0_2 := Aside0.mk hc0_2
 clear hr0_2 hc0_2
 have HB := Aside0.mk (Below.refl w.heap.size w)
 have H : ((laws_szCellS.f l0_2 a1).bind fun t525 => (if t525 < 0 then (some (-1)) else (some t525))) = some r := h
 clear h
 replace H := Option.bind_eq_some_iff.mp H
 obtain ⟨t525, A30, H⟩ := H
 replace H : (if t525 < 0 then (some (-1)) else (some t525)) = some r := H
 have A3 := Aside0.mk A30
 clear A30
 by_cases c4 : t525 < 0
 ·rw [if_pos c4] at H
  have c4b0 : decide (t525 < 0) = true := decide_eq_true c4
  clear c4
  obtain rfl := Option.some.inj H
  go_enter Try.func30, Try.ntmps30
  go_wp2_with (first | ((with_reducible refine gate_dst (N := 2) rfl ?_); refine box_event ?hg (N := 2) ?hd (cs := #[.int .i64 a0_0, .int .i64 a0_1, .slice A0_2 l0_2.length c0_2]) (t := 44) ?hr ?_; (case hd => rfl); (case hg => rfl); (case hr => first | (go_simp; done) | (go_simp; rfl)); intro gb524 hg w5 hbox hb; refine ev4 (bs HB hb) (hbox) (gle hg HB) (gle hg HB) ?_; clear HB; intro HB BK524 GW524 GE524; clear hb hbox hg; obtain ⟨hcz6_0, hcz6_1, hcz6_2, hfz6_0, hfz6_1, hfz6_2⟩ := bt3 BK524) | ((with_reducible refine gate_callee (f := 59) rfl ?_); refine goesL_ (some 8) rfl rfl Try.func59 (by kernel_rfl) rfl #[.slice A0_2 l0_2.length c0_2, .int .i64 a1] rfl (by (try simp only [ma_, mb_, mc_]); first | done | rfl | (simp only [List.length_drop, List.length_take]; rfl)) ?_; (with_reducible refine (laws_szCellS.calls _ _ l0_2 a1 t525 _ (Kd.C_mv (Kd.C_below HR0_2.out HB.out)) HC0_2.out A3.out).mono ?_); rintro e w' ⟨rfl, ⟨nd, rfl⟩⟩; refine ⟨_, rfl, ?_⟩))
  go_ret
  exact ⟨by first | rfl | (simp [e0_, e1_] <;> rfl) | (simp [*, e0_, e1_] <;> rfl), bm HB⟩
 ·rw [if_neg c4] at H
  have c4b0 : decide (t525 < 0) = false := decide_eq_false c4
  clear c4
  obtain rfl := Option.some.inj H
  go_enter Try.func30, Try.ntmps30
  go_wp2_with (first | ((with_reducible refine gate_dst (N := 2) rfl ?_); refine box_event ?hg (N := 2) ?hd (cs := #[.int .i64 a0_0, .int .i64 a0_1, .slice A0_2 l0_2.length c0_2]) (t := 44) ?hr ?_; (case hd => rfl); (case hg => rfl); (case hr => first | (go_simp; done) | (go_simp; rfl)); intro gb524 hg w7 hbox hb; refine ev4 (bs HB hb) (hbox) (gle hg HB) (gle hg HB) ?_; clear HB; intro HB BK524 GW524 GE524; clear hb hbox hg; obtain ⟨hcz8_0, hcz8_1, hcz8_2, hfz8_0, hfz8_1, hfz8_2⟩ := bt3 BK524) | ((with_reducible refine gate_callee (f := 59) rfl ?_); refine goesL_ (some 8) rfl rfl Try.func59 (by kernel_rfl) rfl #[.slice A0_2 l0_2.length c0_2, .int .i64 a1] rfl (by (try simp only [ma_, mb_, mc_]); first | done | rfl | (simp only [List.length_drop, List.length_take]; rfl)) ?_; (with_reducible refine (laws_szCellS.calls _ _ l0_2 a1 t525 _ (Kd.C_mv (Kd.C_below HR0_2.out HB.out)) HC0_2.out A3.out).mono ?_); rintro e w' ⟨rfl, ⟨nd, rfl⟩⟩; refine ⟨_, rfl, ?_⟩))
  go_ret
  exact ⟨by first | rfl | (simp [e0_, e1_] <;> rfl) | (simp [*, e0_, e1_] <;> rfl), bm HB⟩

/-! ### spec_boGood: function 84 -/
mutual
def spec_boGood.j0 : Nat → Bool → Int → Int → List (S78) → Option (Bool)
 | 0, _, _, _, _ => none
 | k + 1, x25, x527000, x527001, x527002 => if x25 = true then (some false) else (spec_boGood.l0 k x527002 (x527002.length : Int) 0)
def spec_boGood.l0 : Nat → List (S78) → Int → Int → Option (Bool)
 | 0, _, _, _ => none
 | k + 1, x27, x28, x29 => if x29 < x28 then (if 0 ≤ x29 then (if x29 < (x27.length : Int) then ((spec_paGood.f ((rd_T78 x27 x29).f0) ((rd_T78 x27 x29).f1)).bind fun t531 => (if t531 = true then (spec_boGood.l0 k x27 x28 (wrap64 (x29 + 1))) else (some false))) else (none)) else (none)) else (some true)
end
def spec_boGood.f (k : Nat) (a0_0 : Int) (a0_1 : Int) (l0_2 : List (S78)) : Option (Bool) := (spec_l1In.f a0_0 1 10).bind fun t527 => (if t527 = true then ((spec_l1In.f a0_1 1 9).bind fun t528 => (if t528 = true then (spec_boGood.j0 k ((l0_2.length : Int) != (wrap64 (a0_0 * a0_1))) a0_0 a0_1 l0_2) else (spec_boGood.j0 k true a0_0 a0_1 l0_2))) else (spec_boGood.j0 k true a0_0 a0_1 l0_2))
set_option maxHeartbeats 8000000 in
set_option maxRecDepth 100000 in
theorem spec_boGood.calls (k : Nat) (a0_0 : Int) (a0_1 : Int) (A0_2 : Option Addr) (c0_2 : Nat) (l0_2 : List (S78)) (r : Bool) (w : World) (hr0_2 : Kd.C k78 w A0_2 l0_2.length l0_2) (hc0_2 : l0_2.length ≤ c0_2) (h : spec_boGood.f k a0_0 a0_1 l0_2 = some r) :
  Calls Try.prog 84 #[.agg #[.int .i64 a0_0, .int .i64 a0_1, .slice A0_2 l0_2.length c0_2]] w fun e w' => e = .returned (.bool r) ∧ Below w.heap.size w w' := by
 have HR0_2 := Aside0.mk hr0_2
 have HC0_2 := Aside0.mk hc0_2
 clear hr0_2 hc0_2
 have HB := Aside0.mk (Below.refl w.heap.size w)
 have H : ((spec_l1In.f a0_0 1 10).bind fun t527 => (if t527 = true then ((spec_l1In.f a0_1 1 9).bind fun t528 => (if t528 = true then (spec_boGood.j0 k ((l0_2.length : Int) != (wrap64 (a0_0 * a0_1))) a0_0 a0_1 l0_2) else (spec_boGood.j0 k true a0_0 a0_1 l0_2))) else (spec_boGood.j0 k true a0_0 a0_1 l0_2))) = some r := h
 clear h
 have HC2 := Aside0.mk H
 clear H
 go_enter Try.func84, Try.ntmps84
 go_upto_region 1 with (first | ((with_reducible refine gate_dst (N := 1) rfl ?_); refine box_event ?hg (N := 1) ?hd (cs := #[.int .i64 a0_0, .int .i64 a0_1, .slice A0_2 l0_2.length c0_2]) (t := 48) ?hr ?_; (case hd => rfl); (case hg => rfl); (case hr => first | (go_simp; done) | (go_simp; rfl)); intro gb526 hg w3 hbox hb; refine ev4 (bs HB hb) (hbox) (gle hg HB) (gle hg HB) ?_; clear HB; intro HB BK526 GW526 GE526; clear hb hbox hg))
 (try simp only [Act.put, za_, zb_, zc_])
 go_cut [25] (fun v25 wc => ∃ (kq : Nat) (x25_1 : Bool), v25 = .bool x25_1 ∧ Aside0 (spec_boGood.j0 kq x25_1 a0_0 a0_1 l0_2 = some r) ∧ Aside0 (kq ≤ k) ∧ Aside0 (wc.heap[gb526]? = some (.cells #[.int .i64 a0_0, .int .i64 a0_1, (.slice A0_2 l0_2.length c0_2)] 48 (0, 0))) ∧ Aside0 (Below w.heap.size w wc))
 case first =>
  have H := HC2.out
  clear HC2
  replace H := Option.bind_eq_some_iff.mp H
  obtain ⟨t527, A40, H⟩ := H
  replace H : (if t527 = true then ((spec_l1In.f a0_1 1 9).bind fun t528 => (if t528 = true then (spec_boGood.j0 k ((l0_2.length : Int) != (wrap64 (a0_0 * a0_1))) a0_0 a0_1 l0_2) else (spec_boGood.j0 k true a0_0 a0_1 l0_2))) else (spec_boGood.j0 k true a0_0 a0_1 l0_2)) = some r := H
  have A4 := Aside0.mk A40
  clear A40
  by_cases c5 : t527 = true
  ·subst c5
   have H1 : ((spec_l1In.f a0_1 1 9).bind fun t528 => (if t528 = true then (spec_boGood.j0 k ((l0_2.length : Int) != (wrap64 (a0_0 * a0_1))) a0_0 a0_1 l0_2) else (spec_boGood.j0 k true a0_0 a0_1 l0_2))) = some r := by rw [if_pos rfl] at H; exact H
   clear H
   have H := H1
   clear H1
   replace H := Option.bind_eq_some_iff.mp H
   obtain ⟨t528, A60, H⟩ := H
   replace H : (if t528 = true then (spec_boGood.j0 k ((l0_2.length : Int) != (wrap64 (a0_0 * a0_1))) a0_0 a0_1 l0_2) else (spec_boGood.j0 k true a0_0 a0_1 l0_2)) = some r := H
   have A6 := Aside0.mk A60
   clear A60
   by_cases c7 : t528 = true
   ·subst c7
    have H1 : (spec_boGood.j0 k ((l0_2.length : Int) != (wrap64 (a0_0 * a0_1))) a0_0 a0_1 l0_2) = some r := by rw [if_pos rfl] at H; exact H
    clear H
    have H := H1
    clear H1
    have H' := Aside0.mk H
    clear H
    obtain ⟨hcz8_0, hcz8_1, hcz8_2, hfz8_0, hfz8_1, hfz8_2⟩ := bt3 BK526
    go_wp2_with (first | ((with_reducible refine gate_callee (f := 81) rfl ?_); refine goesL_ (some 7) rfl rfl Try.func81 (by kernel_rfl) rfl #[.int .i64 a0_0, .int .i64 1, .int .i64 10] rfl (by (try simp only [ma_, mb_, mc_]); first | done | rfl | (simp only [List.length_drop, List.length_take]; rfl)) ?_; (with_reducible refine (spec_l1In.calls a0_0 1 10 true _ A4.out).mono ?_); rintro e w' ⟨rfl, ⟨nd, rfl⟩⟩; refine ⟨_, rfl, ?_⟩) | (go_at_call 81; (with_reducible refine (spec_l1In.calls a0_1 1 9 true _ A6.out).mono ?_); rintro e w' ⟨rfl, ⟨nd, rfl⟩⟩))
    go_meet
    case rel => exact ⟨_, (((l0_2.length : Int) != (wrap64 (a0_0 * a0_1)))), (by first | rfl | (simp; done) | (simp [*]; done)), H', ⟨by first | omega | exact Nat.le_refl _⟩, ⟨km_ BK526⟩, ⟨bm HB⟩⟩
   ·replace c7 := Bool.eq_false_iff.mpr c7
    subst c7
    have H1 : (spec_boGood.j0 k true a0_0 a0_1 l0_2) = some r := by rw [if_neg (show ¬ (false = true) by decide)] at H; exact H
    clear H
    have H := H1
    clear H1
    have H' := Aside0.mk H
    clear H
    obtain ⟨hcz9_0, hcz9_1, hcz9_2, hfz9_0, hfz9_1, hfz9_2⟩ := bt3 BK526
    go_wp2_with (first | ((with_reducible refine gate_callee (f := 81) rfl ?_); refine goesL_ (some 7) rfl rfl Try.func81 (by kernel_rfl) rfl #[.int .i64 a0_0, .int .i64 1, .int .i64 10] rfl (by (try simp only [ma_, mb_, mc_]); first | done | rfl | (simp only [List.length_drop, List.length_take]; rfl)) ?_; (with_reducible refine (spec_l1In.calls a0_0 1 10 true _ A4.out).mono ?_); rintro e w' ⟨rfl, ⟨nd, rfl⟩⟩; refine ⟨_, rfl, ?_⟩) | (go_at_call 81; (with_reducible refine (spec_l1In.calls a0_1 1 9 false _ A6.out).mono ?_); rintro e w' ⟨rfl, ⟨nd, rfl⟩⟩))
    go_meet
    case rel => exact ⟨_, (true), (by first | rfl | (simp; done) | (simp [*]; done)), H', ⟨by first | omega | exact Nat.le_refl _⟩, ⟨km_ BK526⟩, ⟨bm HB⟩⟩
  ·replace c5 := Bool.eq_false_iff.mpr c5
   subst c5
   have H1 : (spec_boGood.j0 k true a0_0 a0_1 l0_2) = some r := by rw [if_neg (show ¬ (false = true) by decide)] at H; exact H
   clear H
   have H := H1
   clear H1
   have H' := Aside0.mk H
   clear H
   obtain ⟨hcz10_0, hcz10_1, hcz10_2, hfz10_0, hfz10_1, hfz10_2⟩ := bt3 BK526
   go_wp2_with (first | ((with_reducible refine gate_callee (f := 81) rfl ?_); refine goesL_ (some 7) rfl rfl Try.func81 (by kernel_rfl) rfl #[.int .i64 a0_0, .int .i64 1, .int .i64 10] rfl (by (try simp only [ma_, mb_, mc_]); first | done | rfl | (simp only [List.length_drop, List.length_take]; rfl)) ?_; (with_reducible refine (spec_l1In.calls a0_0 1 10 false _ A4.out).mono ?_); rintro e w' ⟨rfl, ⟨nd, rfl⟩⟩; refine ⟨_, rfl, ?_⟩))
   go_meet
   case rel => exact ⟨_, (true), (by first | rfl | (simp; done) | (simp [*]; done)), H', ⟨by first | omega | exact Nat.le_refl _⟩, ⟨km_ BK526⟩, ⟨bm HB⟩⟩
 case rest =>
  clear HC2
  try clear p6
  try clear c8
  obtain ⟨kq, x25_1, rfl, HA, HJ1, BK526, HB⟩ := hcut
  cases kq with
  | zero => exact absurd HA.out (by simp [spec_boGood.j0])
  | succ kj1 =>
   have H := HA.out
   clear HA
   simp only [spec_boGood.j0] at H
   by_cases c11 : x25_1 = true
   ·subst c11
    have H1 : (some false) = some r := by rw [if_pos rfl] at H; exact H
    clear H
    have H := H1
    clear H1
    obtain rfl := Option.some.inj H
    go_wp2
    go_ret
    exact ⟨by first | rfl | (simp [e0_, e1_] <;> rfl) | (simp [*, e0_, e1_] <;> rfl), bm HB⟩
   ·replace c11 := Bool.eq_false_iff.mpr c11
    subst c11
    have H1 : (spec_boGood.l0 kj1 l0_2 (l0_2.length : Int) 0) = some r := by rw [if_neg (show ¬ (false = true) by decide)] at H; exact H
    clear H
    have H := H1
    clear H1
    have H' := Aside0.mk H
    clear H
    obtain ⟨hcz12_0, hcz12_1, hcz12_2, hfz12_0, hfz12_1, hfz12_2⟩ := bt3 BK526
    go_wp2
    go_loopg [29] kj1 (fun kq v29 w' => ∃ (x29_2 : Int), v29 = .int .i64 x29_2 ∧ Aside0 (spec_boGood.l0 kq l0_2 (l0_2.length : Int) x29_2 = some r) ∧ Aside0 (kq ≤ kj1) ∧ Aside0 (w'.heap[gb526]? = some (.cells #[.int .i64 a0_0, .int .i64 a0_1, (.slice A0_2 l0_2.length c0_2)] 48 (0, 0))) ∧ Aside0 (Below w.heap.size w w'))
    case atStart => exact ⟨(0), (by first | rfl | (simp; done) | (simp [*]; done)), H', ⟨Nat.le_refl _⟩, ⟨km_ BK526⟩, ⟨bm HB⟩⟩
    case round =>
     clear H'
     try clear c1
     try clear p2
     try clear p6
     try clear c8
     try clear c11
     try clear hcz12_0
     try clear hcz12_1
     try clear hcz12_2
     try clear hfz12_0
     try clear hfz12_1
     try clear hfz12_2
     try clear p6
     obtain ⟨x29_2, rfl, HA, HK2, BK526, HB⟩ := hrel
     cases gk with
     | zero => exact absurd HA.out (by simp [spec_boGood.l0])
     | succ k2 =>
      have H := HA.out
      clear HA
      simp only [spec_boGood.l0] at H
      by_cases c13 : x29_2 < (l0_2.length : Int)
      ·rw [if_pos c13] at H
       have c13b0 : decide (x29_2 < (l0_2.length : Int)) = true := decide_eq_true c13
       clear c13
       by_cases c14 : 0 ≤ x29_2
       ·rw [if_pos c14] at H
        have c14b0 : decide (0 ≤ x29_2) = true := decide_eq_true c14
        clear c14
        by_cases c15 : x29_2 < (l0_2.length : Int)
        ·rw [if_pos c15] at H
         have c15b0 : decide (x29_2 < (l0_2.length : Int)) = true := decide_eq_true c15
         clear c15
         replace H := Option.bind_eq_some_iff.mp H
         obtain ⟨t531, A160, H⟩ := H
         replace H : (if t531 = true then (spec_boGood.l0 k2 l0_2 (l0_2.length : Int) (wrap64 (x29_2 + 1))) else (some false)) = some r := H
         have A16 := Aside0.mk A160
         clear A160
         by_cases c17 : t531 = true
         ·subst c17
          have H1 : (spec_boGood.l0 k2 l0_2 (l0_2.length : Int) (wrap64 (x29_2 + 1))) = some r := by rw [if_pos rfl] at H; exact H
          clear H
          have H := H1
          clear H1
          have H' := Aside0.mk H
          clear H
          have p529 : 0 ≤ (x29_2 : Int) := of_decide_eq_true (by first | (with_reducible assumption) | assumption)
          have q529 : x29_2 < (l0_2.length : Int) := of_decide_eq_true (by first | (with_reducible assumption) | assumption)
          obtain ⟨ad529, e529, hx529_0, hx529_1⟩ := at_T78 HR0_2.out x29_2 p529 q529
          cases e529
          replace hx529_0 := (HB.out.cell (World.block_lt_of_cell? w _ hx529_0)).trans hx529_0
          replace hx529_1 := (HB.out.cell (World.block_lt_of_cell? w _ hx529_1)).trans hx529_1
          replace p529 := eq_true p529
          replace q529 := eq_true q529
          go_wp2_with (first | ((with_reducible refine gate_dst (N := 4) rfl ?_); refine box_event ?hg (N := 4) ?hd (cs := #[.int .i64 0, .int .i64 0]) (t := 78) ?hr ?_; (case hd => rfl); (case hg => rfl); (case hr => first | (go_simp; done) | (go_simp; rfl)); intro gb530 hg w18 hbox hb; refine ev7 (kb BK526 hb) (bs HB hb) (hbox) (gle hg HB) (gle hg HB) (gnf hg BK526) (gne hg BK526) ?_; clear BK526 HB; intro BK526 HB BK530 GW530 GE530 NB526_530 NB530_526; clear hb hbox hg; have hnb19 := NB530_526.out; have hnc19 := NB526_530.out; obtain ⟨hcz20_0, hcz20_1, hfz20_0, hfz20_1⟩ := bt2 BK530) | ((with_reducible refine gate_callee (f := 106) rfl ?_); refine goesL_ (some 34) rfl rfl Try.func106 (by kernel_rfl) rfl #[.agg #[.int .i64 ((rd_T78 l0_2 x29_2).f0), .int .i64 ((rd_T78 l0_2 x29_2).f1)]] rfl (by (try simp only [ma_, mb_, mc_]); first | done | rfl | (simp only [List.length_drop, List.length_take]; rfl)) ?_; (with_reducible refine (spec_paGood.calls ((rd_T78 l0_2 x29_2).f0) ((rd_T78 l0_2 x29_2).f1) true _ A16.out).mono ?_); rintro e w21 ⟨rfl, hb⟩; refine ⟨_, rfl, ?_⟩; refine ev3 (blk_below (g := gb526) (o := .cells #[.int .i64 a0_0, .int .i64 a0_1, .slice (some ad529) l0_2.length c0_2] 48 (0, 0)) (fp BK526 rfl) hb) (blk_below (g := gb530) (o := .cells #[.int .i64 ((rd_T78 l0_2 x29_2).f0), .int .i64 ((rd_T78 l0_2 x29_2).f1)] 78 (0, 0)) (fp BK530 rfl) hb) (bs HB hb) ?_; clear BK526 BK530 HB; intro BK526 BK530 HB; (try clear hb); (try clear hb2); (try clear hk); (try clear hi)))
          go_roundg k2
          case measure => have := HJ1.out; have := HK2.out; omega
          case rel => exact ⟨(wrap64 (x29_2 + 1)), (by first | rfl | (simp; done) | (simp [*]; done)), H', ⟨by have := HJ1.out; have := HK2.out; omega⟩, ⟨km_ BK526⟩, ⟨bm HB⟩⟩
         ·replace c17 := Bool.eq_false_iff.mpr c17
          subst c17
          have H1 : (some false) = some r := by rw [if_neg (show ¬ (false = true) by decide)] at H; exact H
          clear H
          have H := H1
          clear H1
          obtain rfl := Option.some.inj H
          have p529 : 0 ≤ (x29_2 : Int) := of_decide_eq_true (by first | (with_reducible assumption) | assumption)
          have q529 : x29_2 < (l0_2.length : Int) := of_decide_eq_true (by first | (with_reducible assumption) | assumption)
          obtain ⟨ad529, e529, hx529_0, hx529_1⟩ := at_T78 HR0_2.out x29_2 p529 q529
          cases e529
          replace hx529_0 := (HB.out.cell (World.block_lt_of_cell? w _ hx529_0)).trans hx529_0
          replace hx529_1 := (HB.out.cell (World.block_lt_of_cell? w _ hx529_1)).trans hx529_1
          replace p529 := eq_true p529
          replace q529 := eq_true q529
          go_wp2_with (first | ((with_reducible refine gate_dst (N := 4) rfl ?_); refine box_event ?hg (N := 4) ?hd (cs := #[.int .i64 0, .int .i64 0]) (t := 78) ?hr ?_; (case hd => rfl); (case hg => rfl); (case hr => first | (go_simp; done) | (go_simp; rfl)); intro gb530 hg w22 hbox hb; refine ev7 (kb BK526 hb) (bs HB hb) (hbox) (gle hg HB) (gle hg HB) (gnf hg BK526) (gne hg BK526) ?_; clear BK526 HB; intro BK526 HB BK530 GW530 GE530 NB526_530 NB530_526; clear hb hbox hg; have hnb23 := NB530_526.out; have hnc23 := NB526_530.out; obtain ⟨hcz24_0, hcz24_1, hfz24_0, hfz24_1⟩ := bt2 BK530) | ((with_reducible refine gate_callee (f := 106) rfl ?_); refine goesL_ (some 34) rfl rfl Try.func106 (by kernel_rfl) rfl #[.agg #[.int .i64 ((rd_T78 l0_2 x29_2).f0), .int .i64 ((rd_T78 l0_2 x29_2).f1)]] rfl (by (try simp only [ma_, mb_, mc_]); first | done | rfl | (simp only [List.length_drop, List.length_take]; rfl)) ?_; (with_reducible refine (spec_paGood.calls ((rd_T78 l0_2 x29_2).f0) ((rd_T78 l0_2 x29_2).f1) false _ A16.out).mono ?_); rintro e w25 ⟨rfl, hb⟩; refine ⟨_, rfl, ?_⟩; refine ev3 (blk_below (g := gb526) (o := .cells #[.int .i64 a0_0, .int .i64 a0_1, .slice (some ad529) l0_2.length c0_2] 48 (0, 0)) (fp BK526 rfl) hb) (blk_below (g := gb530) (o := .cells #[.int .i64 ((rd_T78 l0_2 x29_2).f0), .int .i64 ((rd_T78 l0_2 x29_2).f1)] 78 (0, 0)) (fp BK530 rfl) hb) (bs HB hb) ?_; clear BK526 BK530 HB; intro BK526 BK530 HB; (try clear hb); (try clear hb2); (try clear hk); (try clear hi)))
          go_ret
          exact ⟨by first | rfl | (simp [e0_, e1_] <;> rfl) | (simp [*, e0_, e1_] <;> rfl), bm HB⟩
        ·rw [if_neg c15] at H
         exact absurd H (by simp)
       ·rw [if_neg c14] at H
        exact absurd H (by simp)
      ·rw [if_neg c13] at H
       have c13b0 : decide (x29_2 < (l0_2.length : Int)) = false := decide_eq_false c13
       clear c13
       obtain rfl := Option.some.inj H
       go_wp2
       go_ret
       exact ⟨by first | rfl | (simp [e0_, e1_] <;> rfl) | (simp [*, e0_, e1_] <;> rfl), bm HB⟩

/-! ### laws_toBoard: function 32 -/
def laws_toBoard.f (k : Nat) (a0_0 : Int) (a0_1 : Int) (l0_2 : List (S112)) : Option (Int × Int × (List (S78))) := (laws_toCellS.f k l0_2).bind fun t660 => (some (a0_0, a0_1, t660))
set_option maxHeartbeats 8000000 in
set_option maxRecDepth 100000 in
theorem laws_toBoard.calls (k : Nat) (a0_0 : Int) (a0_1 : Int) (A0_2 : Option Addr) (c0_2 : Nat) (l0_2 : List (S112)) (r1 : Int) (r2 : Int) (r3 : List (S78)) (w : World) (hr0_2 : Kd.C k112 w A0_2 l0_2.length l0_2) (hc0_2 : l0_2.length ≤ c0_2) (h : laws_toBoard.f k a0_0 a0_1 l0_2 = some (r1, r2, r3)) :
  Calls Try.prog 32 #[.agg #[.int .i64 a0_0, .int .i64 a0_1, .slice A0_2 l0_2.length c0_2]] w fun e w' => ∃ v2_ : Value, e = .returned (.agg #[.int .i64 r1, .int .i64 r2, v2_]) ∧ Kd.R k78 78 w' w.heap.size (fun _ => True) v2_ r3 ∧ Below w.heap.size w w' := by
 have HR0_2 := Aside0.mk hr0_2
 have HC0_2 := Aside0.mk hc0_2
 clear hr0_2 hc0_2
 have HB := Aside0.mk (Below.refl w.heap.size w)
 have H : ((laws_toCellS.f k l0_2).bind fun t660 => (some (a0_0, a0_1, t660))) = some (r1, r2, r3) := h
 clear h
 replace H := Option.bind_eq_some_iff.mp H
 obtain ⟨t660, A20, H⟩ := H
 replace H : (some (a0_0, a0_1, t660)) = some (r1, r2, r3) := H
 have A2 := Aside0.mk A20
 clear A20
 simp only [Option.some.injEq, Prod.mk.injEq] at H
 obtain ⟨rfl, rfl, rfl⟩ := H
 go_enter Try.func32, Try.ntmps32
 go_wp2_with (first | ((with_reducible refine gate_dst (N := 1) rfl ?_); refine box_event ?hg (N := 1) ?hd (cs := #[.int .i64 a0_0, .int .i64 a0_1, .slice A0_2 l0_2.length c0_2]) (t := 44) ?hr ?_; (case hd => rfl); (case hg => rfl); (case hr => first | (go_simp; done) | (go_simp; rfl)); intro gb657 hg w3 hbox hb; refine ev4 (bs HB hb) (hbox) (gle hg HB) (gle hg HB) ?_; clear HB; intro HB BK657 GW657 GE657; clear hb hbox hg) | ((with_reducible refine gate_dst (N := 2) rfl ?_); refine box_event ?hg (N := 2) ?hd (cs := #[.int .i64 0, .int .i64 0, .slice none 0 0]) (t := 48) ?hr ?_; (case hd => rfl); (case hg => rfl); (case hr => first | (go_simp; done) | (go_simp; rfl)); intro gb658 hg w4 hbox hb; refine ev7 (kb BK657 hb) (bs HB hb) (hbox) (gle hg HB) (gle hg HB) (gnf hg BK657) (gne hg BK657) ?_; clear BK657 HB; intro BK657 HB BK658 GW658 GE658 NB657_658 NB658_657; clear hb hbox hg) | ((with_reducible refine gate_dst (N := 3) rfl ?_); refine box_event ?hg (N := 3) ?hd (cs := #[.int .i64 0, .int .i64 0, .slice none 0 0]) (t := 48) ?hr ?_; (case hd => rfl); (case hg => rfl); (case hr => first | (go_simp; done) | (go_simp; rfl)); intro gb659 hg w5 hbox hb; refine ev10 (kb BK657 hb) (kb BK658 hb) (bs HB hb) (hbox) (gle hg HB) (gle hg HB) (gnf hg BK657) (gne hg BK657) (gnf hg BK658) (gne hg BK658) ?_; clear BK657 BK658 HB; intro BK657 BK658 HB BK659 GW659 GE659 NB657_659 NB659_657 NB658_659 NB659_658; clear hb hbox hg; have hnb6 := NB657_658.out; have hnc6 := NB658_657.out; have hnb7 := NB657_659.out; have hnc7 := NB659_657.out; obtain ⟨hcz8_0, hcz8_1, hcz8_2, hfz8_0, hfz8_1, hfz8_2⟩ := bt3 BK657; have hnb9 := NB659_658.out; have hnc9 := NB658_659.out; obtain ⟨hcz10_0, hcz10_1, hcz10_2, hfz10_0, hfz10_1, hfz10_2⟩ := bt3 BK659) | ((with_reducible refine gate_callee (f := 62) rfl ?_); refine goesL_ (some 12) rfl rfl Try.func62 (by kernel_rfl) rfl #[.slice A0_2 l0_2.length c0_2] rfl (by (try simp only [ma_, mb_, mc_]); first | done | rfl | (simp only [List.length_drop, List.length_take]; rfl)) ?_; (with_reducible refine (laws_toCellS.calls k _ _ l0_2 t660 _ (Kd.C_below HR0_2.out (bm HB)) HC0_2.out A2.out).mono ?_); rintro e w11 ⟨v661, rfl, ho0, hb⟩; refine ⟨_, rfl, ?_⟩; refine ev5 (Kd.R_lower ho0 (below_size (bm HB))) (blk_below (g := gb657) (o := .cells #[.int .i64 a0_0, .int .i64 a0_1, .slice A0_2 l0_2.length c0_2] 44 (0, 0)) (fp BK657 rfl) hb) (blk_below (g := gb658) (o := .cells #[.int .i64 0, .int .i64 0, .slice none 0 0] 48 (0, 0)) (fp BK658 rfl) hb) (blk_below (g := gb659) (o := .cells #[.int .i64 a0_0, .int .i64 a0_1, .slice none 0 0] 48 (0, 0)) (fp BK659 rfl) hb) (bs HB hb) ?_; clear BK657 BK658 BK659 HB; intro HO662 BK657 BK658 BK659 HB; (try clear hb); (try clear hb2); (try clear hk); (try clear hi); (try clear ho0); obtain ⟨Ao12, co12, eo12⟩ := Kd.R_slice HO662.out; subst eo12; obtain ⟨hcz13_0, hcz13_1, hcz13_2, hfz13_0, hfz13_1, hfz13_2⟩ := bt3 BK659; obtain ⟨hcz14_0, hcz14_1, hcz14_2, hfz14_0, hfz14_1, hfz14_2⟩ := bt3 BK658))
 refine bodyPost_ret (results_cell_row rfl _ _ gb658 48 #[.int .i64 a0_0, .int .i64 a0_1, .slice Ao12 t660.length co12] (0, 0) _ rfl (fp BK658 rfl) Try.underlying48 rfl (by kernel_rfl)) rfl ?_
 exact ⟨_, by first | rfl | (simp [e0_, e1_] <;> rfl) | (simp [*, e0_, e1_] <;> rfl), Kd.R_mv (Kd.R_mono (ok' := fun k_ => True) (Kd.R_far (p := ⟨gb658, 2, none⟩) (Kd.R_far (p := ⟨gb658, 1, none⟩) (Kd.R_far (p := ⟨gb658, 0, none⟩) (Kd.R_far (p := ⟨gb659, 2, none⟩) (Kd.R_types (Kd.R_types HO662.out BK659.out (by decide)) BK658.out (by decide)) (fun _ hk => hk.1.2) (.slice Ao12 t660.length co12)) (fun _ hk => hk.2) (.int .i64 a0_0)) (fun _ hk => hk.2) (.int .i64 a0_1)) (fun _ hk => hk.2) (.slice Ao12 t660.length co12)) (fun _ hk => trivial)), bm HB⟩

/-! ### impl_validCells: function 133 -/
def impl_validCells.l0 : Nat → List (S78) → Int → Int → Option (Bool)
 | 0, _, _, _ => none
 | k + 1, x8, x9, x10 => if x10 < x9 then (if 0 ≤ x10 then (if x10 < (x8.length : Int) then ((impl_IsCell.f ((rd_T78 x8 x10).f0) ((rd_T78 x8 x10).f1)).bind fun t665 => (if t665 = true then (impl_validCells.l0 k x8 x9 (wrap64 (x10 + 1))) else (some false))) else (none)) else (none)) else (some true)
def impl_validCells.f (k : Nat) (l0 : List (S78)) : Option (Bool) := if (l0.length : Int) > 90 then (some false) else (impl_validCells.l0 k l0 (l0.length : Int) 0)
set_option maxHeartbeats 8000000 in
set_option maxRecDepth 100000 in
theorem impl_validCells.calls (k : Nat) (A0 : Option Addr) (c0 : Nat) (l0 : List (S78)) (r : Bool) (w : World) (hr0 : Kd.C k78 w A0 l0.length l0) (hc0 : l0.length ≤ c0) (h : impl_validCells.f k l0 = some r) :
  Calls Try.prog 133 #[.slice A0 l0.length c0] w fun e w' => e = .returned (.bool r) ∧ Below w.heap.size w w' := by
 have HR0 := Aside0.mk hr0
 have HC0 := Aside0.mk hc0
 clear hr0 hc0
 have HB := Aside0.mk (Below.refl w.heap.size w)
 have H : (if (l0.length : Int) > 90 then (some false) else (impl_validCells.l0 k l0 (l0.length : Int) 0)) = some r := h
 clear h
 by_cases c2 : (l0.length : Int) > 90
 ·rw [if_pos c2] at H
  have c2b0 : decide (90 < (l0.length : Int)) = true := decide_eq_true c2
  have c2b1 : decide (90 < l0.length) = true := decide_eq_true (by omega)
  clear c2
  obtain rfl := Option.some.inj H
  go_enter Try.func133, Try.ntmps133
  go_wp2
  go_ret
  exact ⟨by first | rfl | (simp [e0_, e1_] <;> rfl) | (simp [*, e0_, e1_] <;> rfl), bm HB⟩
 ·rw [if_neg c2] at H
  have c2b0 : decide (90 < (l0.length : Int)) = false := decide_eq_false c2
  have c2b1 : decide (90 < l0.length) = false := decide_eq_false (by omega)
  clear c2
  have H' := Aside0.mk H
  clear H
  go_enter Try.func133, Try.ntmps133
  go_wp2
  go_loopg [10] k (fun kq v10 w' => ∃ (x10_1 : Int), v10 = .int .i64 x10_1 ∧ Aside0 (impl_validCells.l0 kq l0 (l0.length : Int) x10_1 = some r) ∧ Aside0 (kq ≤ k) ∧ Aside0 (Below w.heap.size w w'))
  case atStart => exact ⟨(0), (by first | rfl | (simp; done) | (simp [*]; done)), H', ⟨Nat.le_refl _⟩, ⟨bm HB⟩⟩
  case round =>
   clear H'
   try clear c1
   try clear c2
   try clear c2b0
   try clear c2b1
   try clear p2
   obtain ⟨x10_1, rfl, HA, HK1, HB⟩ := hrel
   cases gk with
   | zero => exact absurd HA.out (by simp [impl_validCells.l0])
   | succ k1 =>
    have H := HA.out
    clear HA
    simp only [impl_validCells.l0] at H
    by_cases c3 : x10_1 < (l0.length : Int)
    ·rw [if_pos c3] at H
     have c3b0 : decide (x10_1 < (l0.length : Int)) = true := decide_eq_true c3
     clear c3
     by_cases c4 : 0 ≤ x10_1
     ·rw [if_pos c4] at H
      have c4b0 : decide (0 ≤ x10_1) = true := decide_eq_true c4
      clear c4
      by_cases c5 : x10_1 < (l0.length : Int)
      ·rw [if_pos c5] at H
       have c5b0 : decide (x10_1 < (l0.length : Int)) = true := decide_eq_true c5
       clear c5
       replace H := Option.bind_eq_some_iff.mp H
       obtain ⟨t665, A60, H⟩ := H
       replace H : (if t665 = true then (impl_validCells.l0 k1 l0 (l0.length : Int) (wrap64 (x10_1 + 1))) else (some false)) = some r := H
       have A6 := Aside0.mk A60
       clear A60
       by_cases c7 : t665 = true
       ·subst c7
        have H1 : (impl_validCells.l0 k1 l0 (l0.length : Int) (wrap64 (x10_1 + 1))) = some r := by rw [if_pos rfl] at H; exact H
        clear H
        have H := H1
        clear H1
        have H' := Aside0.mk H
        clear H
        have p663 : 0 ≤ (x10_1 : Int) := of_decide_eq_true (by first | (with_reducible assumption) | assumption)
        have q663 : x10_1 < (l0.length : Int) := of_decide_eq_true (by first | (with_reducible assumption) | assumption)
        obtain ⟨ad663, e663, hx663_0, hx663_1⟩ := at_T78 HR0.out x10_1 p663 q663
        cases e663
        replace hx663_0 := (HB.out.cell (World.block_lt_of_cell? w _ hx663_0)).trans hx663_0
        replace hx663_1 := (HB.out.cell (World.block_lt_of_cell? w _ hx663_1)).trans hx663_1
        replace p663 := eq_true p663
        replace q663 := eq_true q663
        go_wp2_with (first | ((with_reducible refine gate_dst (N := 4) rfl ?_); refine box_event ?hg (N := 4) ?hd (cs := #[.int .i64 0, .int .i64 0]) (t := 78) ?hr ?_; (case hd => rfl); (case hg => rfl); (case hr => first | (go_simp; done) | (go_simp; rfl)); intro gb664 hg w8 hbox hb; refine ev4 (bs HB hb) (hbox) (gle hg HB) (gle hg HB) ?_; clear HB; intro HB BK664 GW664 GE664; clear hb hbox hg; obtain ⟨hcz9_0, hcz9_1, hfz9_0, hfz9_1⟩ := bt2 BK664) | ((with_reducible refine gate_callee (f := 63) rfl ?_); refine goesL_ (some 15) rfl rfl Try.func63 (by kernel_rfl) rfl #[.agg #[.int .i64 ((rd_T78 l0 x10_1).f0), .int .i64 ((rd_T78 l0 x10_1).f1)]] rfl (by (try simp only [ma_, mb_, mc_]); first | done | rfl | (simp only [List.length_drop, List.length_take]; rfl)) ?_; (with_reducible refine (impl_IsCell.calls ((rd_T78 l0 x10_1).f0) ((rd_T78 l0 x10_1).f1) true _ A6.out).mono ?_); rintro e w10 ⟨rfl, hb⟩; refine ⟨_, rfl, ?_⟩; refine ev2 (blk_below (g := gb664) (o := .cells #[.int .i64 ((rd_T78 l0 x10_1).f0), .int .i64 ((rd_T78 l0 x10_1).f1)] 78 (0, 0)) (fp BK664 rfl) hb) (bs HB hb) ?_; clear BK664 HB; intro BK664 HB; (try clear hb); (try clear hb2); (try clear hk); (try clear hi)))
        go_roundg k1
        case measure => have := HK1.out; omega
        case rel => exact ⟨(wrap64 (x10_1 + 1)), (by first | rfl | (simp; done) | (simp [*]; done)), H', ⟨by have := HK1.out; omega⟩, ⟨bm HB⟩⟩
       ·replace c7 := Bool.eq_false_iff.mpr c7
        subst c7
        have H1 : (some false) = some r := by rw [if_neg (show ¬ (false = true) by decide)] at H; exact H
        clear H
        have H := H1
        clear H1
        obtain rfl := Option.some.inj H
        have p663 : 0 ≤ (x10_1 : Int) := of_decide_eq_true (by first | (with_reducible assumption) | assumption)
        have q663 : x10_1 < (l0.length : Int) := of_decide_eq_true (by first | (with_reducible assumption) | assumption)
        obtain ⟨ad663, e663, hx663_0, hx663_1⟩ := at_T78 HR0.out x10_1 p663 q663
        cases e663
        replace hx663_0 := (HB.out.cell (World.block_lt_of_cell? w _ hx663_0)).trans hx663_0
        replace hx663_1 := (HB.out.cell (World.block_lt_of_cell? w _ hx663_1)).trans hx663_1
        replace p663 := eq_true p663
        replace q663 := eq_true q663
        go_wp2_with (first | ((with_reducible refine gate_dst (N := 4) rfl ?_); refine box_event ?hg (N := 4) ?hd (cs := #[.int .i64 0, .int .i64 0]) (t := 78) ?hr ?_; (case hd => rfl); (case hg => rfl); (case hr => first | (go_simp; done) | (go_simp; rfl)); intro gb664 hg w11 hbox hb; refine ev4 (bs HB hb) (hbox) (gle hg HB) (gle hg HB) ?_; clear HB; intro HB BK664 GW664 GE664; clear hb hbox hg; obtain ⟨hcz12_0, hcz12_1, hfz12_0, hfz12_1⟩ := bt2 BK664) | ((with_reducible refine gate_callee (f := 63) rfl ?_); refine goesL_ (some 15) rfl rfl Try.func63 (by kernel_rfl) rfl #[.agg #[.int .i64 ((rd_T78 l0 x10_1).f0), .int .i64 ((rd_T78 l0 x10_1).f1)]] rfl (by (try simp only [ma_, mb_, mc_]); first | done | rfl | (simp only [List.length_drop, List.length_take]; rfl)) ?_; (with_reducible refine (impl_IsCell.calls ((rd_T78 l0 x10_1).f0) ((rd_T78 l0 x10_1).f1) false _ A6.out).mono ?_); rintro e w13 ⟨rfl, hb⟩; refine ⟨_, rfl, ?_⟩; refine ev2 (blk_below (g := gb664) (o := .cells #[.int .i64 ((rd_T78 l0 x10_1).f0), .int .i64 ((rd_T78 l0 x10_1).f1)] 78 (0, 0)) (fp BK664 rfl) hb) (bs HB hb) ?_; clear BK664 HB; intro BK664 HB; (try clear hb); (try clear hb2); (try clear hk); (try clear hi)))
        go_ret
        exact ⟨by first | rfl | (simp [e0_, e1_] <;> rfl) | (simp [*, e0_, e1_] <;> rfl), bm HB⟩
      ·rw [if_neg c5] at H
       exact absurd H (by simp)
     ·rw [if_neg c4] at H
      exact absurd H (by simp)
    ·rw [if_neg c3] at H
     have c3b0 : decide (x10_1 < (l0.length : Int)) = false := decide_eq_false c3
     clear c3
     obtain rfl := Option.some.inj H
     go_wp2
     go_ret
     exact ⟨by first | rfl | (simp [e0_, e1_] <;> rfl) | (simp [*, e0_, e1_] <;> rfl), bm HB⟩

/-! ### impl_IsBoard: function 114 -/
def impl_IsBoard.f (k : Nat) (a0_0 : Int) (a0_1 : Int) (l0_2 : List (S78)) : Option (Bool) := if a0_0 ≥ 1 then (if a0_0 ≤ 10 then (if a0_1 ≥ 1 then (if a0_1 ≤ 9 then (if (l0_2.length : Int) = (wrap64 (a0_0 * a0_1)) then ((impl_validCells.f k l0_2).bind fun t667 => (some t667)) else (some false)) else (some false)) else (some false)) else (some false)) else (some false)
set_option maxHeartbeats 8000000 in
set_option maxRecDepth 100000 in
theorem impl_IsBoard.calls (k : Nat) (a0_0 : Int) (a0_1 : Int) (A0_2 : Option Addr) (c0_2 : Nat) (l0_2 : List (S78)) (r : Bool) (w : World) (hr0_2 : Kd.C k78 w A0_2 l0_2.length l0_2) (hc0_2 : l0_2.length ≤ c0_2) (h : impl_IsBoard.f k a0_0 a0_1 l0_2 = some r) :
  Calls Try.prog 114 #[.agg #[.int .i64 a0_0, .int .i64 a0_1, .slice A0_2 l0_2.length c0_2]] w fun e w' => e = .returned (.bool r) ∧ Below w.heap.size w w' := by
 have HR0_2 := Aside0.mk hr0_2
 have HC0_2 := Aside0.mk hc0_2
 clear hr0_2 hc0_2
 have HB := Aside0.mk (Below.refl w.heap.size w)
 have H : (if a0_0 ≥ 1 then (if a0_0 ≤ 10 then (if a0_1 ≥ 1 then (if a0_1 ≤ 9 then (if (l0_2.length : Int) = (wrap64 (a0_0 * a0_1)) then ((impl_validCells.f k l0_2).bind fun t667 => (some t667)) else (some false)) else (some false)) else (some false)) else (some false)) else (some false)) = some r := h
 clear h
 by_cases c2 : a0_0 ≥ 1
 ·rw [if_pos c2] at H
  have c2b0 : decide (1 ≤ a0_0) = true := decide_eq_true c2
  clear c2
  by_cases c3 : a0_0 ≤ 10
  ·rw [if_pos c3] at H
   have c3b0 : decide (a0_0 ≤ 10) = true := decide_eq_true c3
   clear c3
   by_cases c4 : a0_1 ≥ 1
   ·rw [if_pos c4] at H
    have c4b0 : decide (1 ≤ a0_1) = true := decide_eq_true c4
    clear c4
    by_cases c5 : a0_1 ≤ 9
    ·rw [if_pos c5] at H
     have c5b0 : decide (a0_1 ≤ 9) = true := decide_eq_true c5
     clear c5
     by_cases c6 : (l0_2.length : Int) = (wrap64 (a0_0 * a0_1))
     ·rw [if_pos c6] at H
      have c6b0 : ((l0_2.length : Int) == (wrap64 (a0_0 * a0_1))) = true := beq_iff_eq.mpr c6
      have c6b1 : ((l0_2.length : Int) != (wrap64 (a0_0 * a0_1))) = false := bne_eq_false_iff_eq.mpr c6
      clear c6
      replace H := Option.bind_eq_some_iff.mp H
      obtain ⟨t667, A70, H⟩ := H
      replace H : (some t667) = some r := H
      have A7 := Aside0.mk A70
      clear A70
      obtain rfl := Option.some.inj H
      go_enter Try.func114, Try.ntmps114
      go_wp2_with (first | ((with_reducible refine gate_dst (N := 1) rfl ?_); refine box_event ?hg (N := 1) ?hd (cs := #[.int .i64 a0_0, .int .i64 a0_1, .slice A0_2 l0_2.length c0_2]) (t := 48) ?hr ?_; (case hd => rfl); (case hg => rfl); (case hr => first | (go_simp; done) | (go_simp; rfl)); intro gb666 hg w8 hbox hb; refine ev4 (bs HB hb) (hbox) (gle hg HB) (gle hg HB) ?_; clear HB; intro HB BK666 GW666 GE666; clear hb hbox hg; obtain ⟨hcz9_0, hcz9_1, hcz9_2, hfz9_0, hfz9_1, hfz9_2⟩ := bt3 BK666) | (go_at_call 133; (with_reducible refine (impl_validCells.calls k _ _ l0_2 t667 _ (Kd.C_mv (Kd.C_below HR0_2.out HB.out)) HC0_2.out A7.out).mono ?_); rintro e w10 ⟨rfl, hb⟩; refine ev2 (kb BK666 hb) (bs HB hb) ?_; clear BK666 HB; intro BK666 HB; (try clear hb); (try clear hb2); (try clear hk); (try clear hi)))
      go_ret
      exact ⟨by first | rfl | (simp [e0_, e1_] <;> rfl) | (simp [*, e0_, e1_] <;> rfl), bm HB⟩
     ·rw [if_neg c6] at H
      have c6b0 : ((l0_2.length : Int) == (wrap64 (a0_0 * a0_1))) = false := beq_eq_false_iff_ne.mpr c6
      have c6b1 : ((l0_2.length : Int) != (wrap64 (a0_0 * a0_1))) = true := bne_iff_ne.mpr c6
      obtain rfl := Option.some.inj H
      go_enter Try.func114, Try.ntmps114
      go_wp2_with (first | ((with_reducible refine gate_dst (N := 1) rfl ?_); refine box_event ?hg (N := 1) ?hd (cs := #[.int .i64 a0_0, .int .i64 a0_1, .slice A0_2 l0_2.length c0_2]) (t := 48) ?hr ?_; (case hd => rfl); (case hg => rfl); (case hr => first | (go_simp; done) | (go_simp; rfl)); intro gb666 hg w11 hbox hb; refine ev4 (bs HB hb) (hbox) (gle hg HB) (gle hg HB) ?_; clear HB; intro HB BK666 GW666 GE666; clear hb hbox hg; obtain ⟨hcz12_0, hcz12_1, hcz12_2, hfz12_0, hfz12_1, hfz12_2⟩ := bt3 BK666))
      go_ret
      exact ⟨by first | rfl | (simp [e0_, e1_] <;> rfl) | (simp [*, e0_, e1_] <;> rfl), bm HB⟩
    ·rw [if_neg c5] at H
     have c5b0 : decide (a0_1 ≤ 9) = false := decide_eq_false c5
     clear c5
     obtain rfl := Option.some.inj H
     go_enter Try.func114, Try.ntmps114
     go_wp2_with (first | ((with_reducible refine gate_dst (N := 1) rfl ?_); refine box_event ?hg (N := 1) ?hd (cs := #[.int .i64 a0_0, .int .i64 a0_1, .slice A0_2 l0_2.length c0_2]) (t := 48) ?hr ?_; (case hd => rfl); (case hg => rfl); (case hr => first | (go_simp; done) | (go_simp; rfl)); intro gb666 hg w13 hbox hb; refine ev4 (bs HB hb) (hbox) (gle hg HB) (gle hg HB) ?_; clear HB; intro HB BK666 GW666 GE666; clear hb hbox hg; obtain ⟨hcz14_0, hcz14_1, hcz14_2, hfz14_0, hfz14_1, hfz14_2⟩ := bt3 BK666))
     go_ret
     exact ⟨by first | rfl | (simp [e0_, e1_] <;> rfl) | (simp [*, e0_, e1_] <;> rfl), bm HB⟩
   ·rw [if_neg c4] at H
    have c4b0 : decide (1 ≤ a0_1) = false := decide_eq_false c4
    clear c4
    obtain rfl := Option.some.inj H
    go_enter Try.func114, Try.ntmps114
    go_wp2_with (first | ((with_reducible refine gate_dst (N := 1) rfl ?_); refine box_event ?hg (N := 1) ?hd (cs := #[.int .i64 a0_0, .int .i64 a0_1, .slice A0_2 l0_2.length c0_2]) (t := 48) ?hr ?_; (case hd => rfl); (case hg => rfl); (case hr => first | (go_simp; done) | (go_simp; rfl)); intro gb666 hg w15 hbox hb; refine ev4 (bs HB hb) (hbox) (gle hg HB) (gle hg HB) ?_; clear HB; intro HB BK666 GW666 GE666; clear hb hbox hg; obtain ⟨hcz16_0, hcz16_1, hcz16_2, hfz16_0, hfz16_1, hfz16_2⟩ := bt3 BK666))
    go_ret
    exact ⟨by first | rfl | (simp [e0_, e1_] <;> rfl) | (simp [*, e0_, e1_] <;> rfl), bm HB⟩
  ·rw [if_neg c3] at H
   have c3b0 : decide (a0_0 ≤ 10) = false := decide_eq_false c3
   clear c3
   obtain rfl := Option.some.inj H
   go_enter Try.func114, Try.ntmps114
   go_wp2_with (first | ((with_reducible refine gate_dst (N := 1) rfl ?_); refine box_event ?hg (N := 1) ?hd (cs := #[.int .i64 a0_0, .int .i64 a0_1, .slice A0_2 l0_2.length c0_2]) (t := 48) ?hr ?_; (case hd => rfl); (case hg => rfl); (case hr => first | (go_simp; done) | (go_simp; rfl)); intro gb666 hg w17 hbox hb; refine ev4 (bs HB hb) (hbox) (gle hg HB) (gle hg HB) ?_; clear HB; intro HB BK666 GW666 GE666; clear hb hbox hg; obtain ⟨hcz18_0, hcz18_1, hcz18_2, hfz18_0, hfz18_1, hfz18_2⟩ := bt3 BK666))
   go_ret
   exact ⟨by first | rfl | (simp [e0_, e1_] <;> rfl) | (simp [*, e0_, e1_] <;> rfl), bm HB⟩
 ·rw [if_neg c2] at H
  have c2b0 : decide (1 ≤ a0_0) = false := decide_eq_false c2
  clear c2
  obtain rfl := Option.some.inj H
  go_enter Try.func114, Try.ntmps114
  go_wp2_with (first | ((with_reducible refine gate_dst (N := 1) rfl ?_); refine box_event ?hg (N := 1) ?hd (cs := #[.int .i64 a0_0, .int .i64 a0_1, .slice A0_2 l0_2.length c0_2]) (t := 48) ?hr ?_; (case hd => rfl); (case hg => rfl); (case hr => first | (go_simp; done) | (go_simp; rfl)); intro gb666 hg w19 hbox hb; refine ev4 (bs HB hb) (hbox) (gle hg HB) (gle hg HB) ?_; clear HB; intro HB BK666 GW666 GE666; clear hb hbox hg; obtain ⟨hcz20_0, hcz20_1, hcz20_2, hfz20_0, hfz20_1, hfz20_2⟩ := bt3 BK666))
  go_ret
  exact ⟨by first | rfl | (simp [e0_, e1_] <;> rfl) | (simp [*, e0_, e1_] <;> rfl), bm HB⟩

/-! ### laws_eqBoard: function 34 -/
def laws_eqBoard.f (k : Nat) (a0_0 : Int) (a0_1 : Int) (l0_2 : List (S78)) (a1_0 : Int) (a1_1 : Int) (l1_2 : List (S78)) : Option (Bool) := if a0_0 = a1_0 then (if a0_1 = a1_1 then ((laws_eqCellS.f k l0_2 l1_2).bind fun t779 => (if t779 = true then (some true) else (some false))) else (some false)) else (some false)
set_option maxHeartbeats 8000000 in
set_option maxRecDepth 100000 in
theorem laws_eqBoard.calls (k : Nat) (a0_0 : Int) (a0_1 : Int) (A0_2 : Option Addr) (c0_2 : Nat) (l0_2 : List (S78)) (a1_0 : Int) (a1_1 : Int) (A1_2 : Option Addr) (c1_2 : Nat) (l1_2 : List (S78)) (r : Bool) (w : World) (hr0_2 : Kd.C k78 w A0_2 l0_2.length l0_2) (hc0_2 : l0_2.length ≤ c0_2) (hr1_2 : Kd.C k78 w A1_2 l1_2.length l1_2) (hc1_2 : l1_2.length ≤ c1_2) (h : laws_eqBoard.f k a0_0 a0_1 l0_2 a1_0 a1_1 l1_2 = some r) :
  Calls Try.prog 34 #[.agg #[.int .i64 a0_0, .int .i64 a0_1, .slice A0_2 l0_2.length c0_2], .agg #[.int .i64 a1_0, .int .i64 a1_1, .slice A1_2 l1_2.length c1_2]] w fun e w' => e = .returned (.bool r) ∧ Below w.heap.size w w' := by
 have HR0_2 := Aside0.mk hr0_2
 have HC0_2 := Aside0.mk hc0_2
 clear hr0_2 hc0_2
 have HR1_2 := Aside0.mk hr1_2
 have HC1_2 := Aside0.mk hc1_2
 clear hr1_2 hc1_2
 have HB := Aside0.mk (Below.refl w.heap.size w)
 have H : (if a0_0 = a1_0 then (if a0_1 = a1_1 then ((laws_eqCellS.f k l0_2 l1_2).bind fun t779 => (if t779 = true then (some true) else (some false))) else (some false)) else (some false)) = some r := h
 clear h
 by_cases c3 : a0_0 = a1_0
 ·rw [if_pos c3] at H
  have c3b0 : (a0_0 == a1_0) = true := beq_iff_eq.mpr c3
  have c3b1 : (a0_0 != a1_0) = false := bne_eq_false_iff_eq.mpr c3
  clear c3
  by_cases c4 : a0_1 = a1_1
  ·rw [if_pos c4] at H
   have c4b0 : (a0_1 == a1_1) = true := beq_iff_eq.mpr c4
   have c4b1 : (a0_1 != a1_1) = false := bne_eq_false_iff_eq.mpr c4
   clear c4
   replace H := Option.bind_eq_some_iff.mp H
   obtain ⟨t779, A50, H⟩ := H
   replace H : (if t779 = true then (some true) else (some false)) = some r := H
   have A5 := Aside0.mk A50
   clear A50
   by_cases c6 : t779 = true
   ·subst c6
    have H1 : (some true) = some r := by rw [if_pos rfl] at H; exact H
    clear H
    have H := H1
    clear H1
    obtain rfl := Option.some.inj H
    go_enter Try.func34, Try.ntmps34
    go_wp2_with (first | ((with_reducible refine gate_dst (N := 2) rfl ?_); refine box_event ?hg (N := 2) ?hd (cs := #[.int .i64 a0_0, .int .i64 a0_1, .slice A0_2 l0_2.length c0_2]) (t := 48) ?hr ?_; (case hd => rfl); (case hg => rfl); (case hr => first | (go_simp; done) | (go_simp; rfl)); intro gb777 hg w7 hbox hb; refine ev4 (bs HB hb) (hbox) (gle hg HB) (gle hg HB) ?_; clear HB; intro HB BK777 GW777 GE777; clear hb hbox hg) | ((with_reducible refine gate_dst (N := 3) rfl ?_); refine box_event ?hg (N := 3) ?hd (cs := #[.int .i64 a1_0, .int .i64 a1_1, .slice A1_2 l1_2.length c1_2]) (t := 48) ?hr ?_; (case hd => rfl); (case hg => rfl); (case hr => first | (go_simp; done) | (go_simp; rfl)); intro gb778 hg w8 hbox hb; refine ev7 (kb BK777 hb) (bs HB hb) (hbox) (gle hg HB) (gle hg HB) (gnf hg BK777) (gne hg BK777) ?_; clear BK777 HB; intro BK777 HB BK778 GW778 GE778 NB777_778 NB778_777; clear hb hbox hg; have hnb9 := NB777_778.out; have hnc9 := NB778_777.out; obtain ⟨hcz10_0, hcz10_1, hcz10_2, hfz10_0, hfz10_1, hfz10_2⟩ := bt3 BK777; obtain ⟨hcz11_0, hcz11_1, hcz11_2, hfz11_0, hfz11_1, hfz11_2⟩ := bt3 BK778) | ((with_reducible refine gate_callee (f := 65) rfl ?_); refine goesL_ (some 19) rfl rfl Try.func65 (by kernel_rfl) rfl #[.slice A0_2 l0_2.length c0_2, .slice A1_2 l1_2.length c1_2] rfl (by (try simp only [ma_, mb_, mc_]); first | done | rfl | (simp only [List.length_drop, List.length_take]; rfl)) ?_; (with_reducible refine (laws_eqCellS.calls k _ _ l0_2 _ _ l1_2 true _ (Kd.C_mv (Kd.C_below HR0_2.out HB.out)) HC0_2.out (Kd.C_mv (Kd.C_below HR1_2.out HB.out)) HC1_2.out A5.out).mono ?_); rintro e w12 ⟨rfl, hb⟩; refine ⟨_, rfl, ?_⟩; refine ev3 (kb BK777 hb) (kb BK778 hb) (bs HB hb) ?_; clear BK777 BK778 HB; intro BK777 BK778 HB; (try clear hb); (try clear hb2); (try clear hk); (try clear hi)))
    go_ret
    exact ⟨by first | rfl | (simp [e0_, e1_] <;> rfl) | (simp [*, e0_, e1_] <;> rfl), bm HB⟩
   ·replace c6 := Bool.eq_false_iff.mpr c6
    subst c6
    have H1 : (some false) = some r := by rw [if_neg (show ¬ (false = true) by decide)] at H; exact H
    clear H
    have H := H1
    clear H1
    obtain rfl := Option.some.inj H
    go_enter Try.func34, Try.ntmps34
    go_wp2_with (first | ((with_reducible refine gate_dst (N := 2) rfl ?_); refine box_event ?hg (N := 2) ?hd (cs := #[.int .i64 a0_0, .int .i64 a0_1, .slice A0_2 l0_2.length c0_2]) (t := 48) ?hr ?_; (case hd => rfl); (case hg => rfl); (case hr => first | (go_simp; done) | (go_simp; rfl)); intro gb777 hg w13 hbox hb; refine ev4 (bs HB hb) (hbox) (gle hg HB) (gle hg HB) ?_; clear HB; intro HB BK777 GW777 GE777; clear hb hbox hg) | ((with_reducible refine gate_dst (N := 3) rfl ?_); refine box_event ?hg (N := 3) ?hd (cs := #[.int .i64 a1_0, .int .i64 a1_1, .slice A1_2 l1_2.length c1_2]) (t := 48) ?hr ?_; (case hd => rfl); (case hg => rfl); (case hr => first | (go_simp; done) | (go_simp; rfl)); intro gb778 hg w14 hbox hb; refine ev7 (kb BK777 hb) (bs HB hb) (hbox) (gle hg HB) (gle hg HB) (gnf hg BK777) (gne hg BK777) ?_; clear BK777 HB; intro BK777 HB BK778 GW778 GE778 NB777_778 NB778_777; clear hb hbox hg; have hnb15 := NB777_778.out; have hnc15 := NB778_777.out; obtain ⟨hcz16_0, hcz16_1, hcz16_2, hfz16_0, hfz16_1, hfz16_2⟩ := bt3 BK777; obtain ⟨hcz17_0, hcz17_1, hcz17_2, hfz17_0, hfz17_1, hfz17_2⟩ := bt3 BK778) | ((with_reducible refine gate_callee (f := 65) rfl ?_); refine goesL_ (some 19) rfl rfl Try.func65 (by kernel_rfl) rfl #[.slice A0_2 l0_2.length c0_2, .slice A1_2 l1_2.length c1_2] rfl (by (try simp only [ma_, mb_, mc_]); first | done | rfl | (simp only [List.length_drop, List.length_take]; rfl)) ?_; (with_reducible refine (laws_eqCellS.calls k _ _ l0_2 _ _ l1_2 false _ (Kd.C_mv (Kd.C_below HR0_2.out HB.out)) HC0_2.out (Kd.C_mv (Kd.C_below HR1_2.out HB.out)) HC1_2.out A5.out).mono ?_); rintro e w18 ⟨rfl, hb⟩; refine ⟨_, rfl, ?_⟩; refine ev3 (kb BK777 hb) (kb BK778 hb) (bs HB hb) ?_; clear BK777 BK778 HB; intro BK777 BK778 HB; (try clear hb); (try clear hb2); (try clear hk); (try clear hi)))
    go_ret
    exact ⟨by first | rfl | (simp [e0_, e1_] <;> rfl) | (simp [*, e0_, e1_] <;> rfl), bm HB⟩
  ·rw [if_neg c4] at H
   have c4b0 : (a0_1 == a1_1) = false := beq_eq_false_iff_ne.mpr c4
   have c4b1 : (a0_1 != a1_1) = true := bne_iff_ne.mpr c4
   obtain rfl := Option.some.inj H
   go_enter Try.func34, Try.ntmps34
   go_wp2_with (first | ((with_reducible refine gate_dst (N := 2) rfl ?_); refine box_event ?hg (N := 2) ?hd (cs := #[.int .i64 a0_0, .int .i64 a0_1, .slice A0_2 l0_2.length c0_2]) (t := 48) ?hr ?_; (case hd => rfl); (case hg => rfl); (case hr => first | (go_simp; done) | (go_simp; rfl)); intro gb777 hg w19 hbox hb; refine ev4 (bs HB hb) (hbox) (gle hg HB) (gle hg HB) ?_; clear HB; intro HB BK777 GW777 GE777; clear hb hbox hg) | ((with_reducible refine gate_dst (N := 3) rfl ?_); refine box_event ?hg (N := 3) ?hd (cs := #[.int .i64 a1_0, .int .i64 a1_1, .slice A1_2 l1_2.length c1_2]) (t := 48) ?hr ?_; (case hd => rfl); (case hg => rfl); (case hr => first | (go_simp; done) | (go_simp; rfl)); intro gb778 hg w20 hbox hb; refine ev7 (kb BK777 hb) (bs HB hb) (hbox) (gle hg HB) (gle hg HB) (gnf hg BK777) (gne hg BK777) ?_; clear BK777 HB; intro BK777 HB BK778 GW778 GE778 NB777_778 NB778_777; clear hb hbox hg; have hnb21 := NB777_778.out; have hnc21 := NB778_777.out; obtain ⟨hcz22_0, hcz22_1, hcz22_2, hfz22_0, hfz22_1, hfz22_2⟩ := bt3 BK777; obtain ⟨hcz23_0, hcz23_1, hcz23_2, hfz23_0, hfz23_1, hfz23_2⟩ := bt3 BK778))
   go_ret
   exact ⟨by first | rfl | (simp [e0_, e1_] <;> rfl) | (simp [*, e0_, e1_] <;> rfl), bm HB⟩
 ·rw [if_neg c3] at H
  have c3b0 : (a0_0 == a1_0) = false := beq_eq_false_iff_ne.mpr c3
  have c3b1 : (a0_0 != a1_0) = true := bne_iff_ne.mpr c3
  obtain rfl := Option.some.inj H
  go_enter Try.func34, Try.ntmps34
  go_wp2_with (first | ((with_reducible refine gate_dst (N := 2) rfl ?_); refine box_event ?hg (N := 2) ?hd (cs := #[.int .i64 a0_0, .int .i64 a0_1, .slice A0_2 l0_2.length c0_2]) (t := 48) ?hr ?_; (case hd => rfl); (case hg => rfl); (case hr => first | (go_simp; done) | (go_simp; rfl)); intro gb777 hg w24 hbox hb; refine ev4 (bs HB hb) (hbox) (gle hg HB) (gle hg HB) ?_; clear HB; intro HB BK777 GW777 GE777; clear hb hbox hg) | ((with_reducible refine gate_dst (N := 3) rfl ?_); refine box_event ?hg (N := 3) ?hd (cs := #[.int .i64 a1_0, .int .i64 a1_1, .slice A1_2 l1_2.length c1_2]) (t := 48) ?hr ?_; (case hd => rfl); (case hg => rfl); (case hr => first | (go_simp; done) | (go_simp; rfl)); intro gb778 hg w25 hbox hb; refine ev7 (kb BK777 hb) (bs HB hb) (hbox) (gle hg HB) (gle hg HB) (gnf hg BK777) (gne hg BK777) ?_; clear BK777 HB; intro BK777 HB BK778 GW778 GE778 NB777_778 NB778_777; clear hb hbox hg; have hnb26 := NB777_778.out; have hnc26 := NB778_777.out; obtain ⟨hcz27_0, hcz27_1, hcz27_2, hfz27_0, hfz27_1, hfz27_2⟩ := bt3 BK777; obtain ⟨hcz28_0, hcz28_1, hcz28_2, hfz28_0, hfz28_1, hfz28_2⟩ := bt3 BK778))
  go_ret
  exact ⟨by first | rfl | (simp [e0_, e1_] <;> rfl) | (simp [*, e0_, e1_] <;> rfl), bm HB⟩
end Go.Proofs.Ytjogiiobaakjkaa.F
