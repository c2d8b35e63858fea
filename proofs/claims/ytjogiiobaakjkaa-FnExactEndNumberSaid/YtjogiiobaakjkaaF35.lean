-- Written by a program of this session (a patched print) out of the translation; Lean checks it.
import Derived.Test.YtjogiiobaakjkaaF0
import Derived.Test.YtjogiiobaakjkaaF2
import Derived.Test.YtjogiiobaakjkaaF12
import Derived.Test.YtjogiiobaakjkaaF13
import Derived.Test.YtjogiiobaakjkaaF19
import Derived.Test.YtjogiiobaakjkaaF22
namespace Go.Proofs.Ytjogiiobaakjkaa.F
open Go.RowKit Go.Proofs.YtjogiiobaakjkaaV.PrintWords Go.Proofs.YtjogiiobaakjkaaV.PrintLast Go.Proofs.YtjogiiobaakjkaaV.PrintMore
attribute [local go_sem] max2_int min2_int max_two min_two max_three min_three max_four min_four
attribute [local go_sem] Try.underlying30 Try.underlying35 Try.underlying44 Try.underlying48 Try.underlying62 Try.underlying66 Try.underlying78 Try.underlying90 Try.underlying112
set_option linter.unusedVariables false
set_option linter.unusedSimpArgs false

/-! ### spec_flHas: function 75 -/
def spec_flHas.f (k : Nat) (a0_0 : Int) (a0_1 : Int) (l0_2 : List (S78)) (a1 : Int) : Option (Bool) := (spec_boGood.f k a0_0 a0_1 l0_2).bind fun t533 => (if t533 = true then ((spec_l1In.f a1 0 (wrap64 (a0_1 - 1))).bind fun t534 => (some t534)) else (some false))
set_option maxHeartbeats 8000000 in
set_option maxRecDepth 100000 in
theorem spec_flHas.calls (k : Nat) (a0_0 : Int) (a0_1 : Int) (A0_2 : Option Addr) (c0_2 : Nat) (l0_2 : List (S78)) (a1 : Int) (r : Bool) (w : World) (hr0_2 : Kd.C k78 w A0_2 l0_2.length l0_2) (hc0_2 : l0_2.length ≤ c0_2) (h : spec_flHas.f k a0_0 a0_1 l0_2 a1 = some r) :
  Calls Try.prog 75 #[.agg #[.int .i64 a0_0, .int .i64 a0_1, .slice A0_2 l0_2.length c0_2], .int .i64 a1] w fun e w' => e = .returned (.bool r) ∧ Below w.heap.size w w' := by
 have HR0_2 := Aside0.mk hr0_2
 have HC0_2 := Aside0.mk hc0_2
 clear hr0_2 hc0_2
 have HB := Aside0.mk (Below.refl w.heap.size w)
 have H : ((spec_boGood.f k a0_0 a0_1 l0_2).bind fun t533 => (if t533 = true then ((spec_l1In.f a1 0 (wrap64 (a0_1 - 1))).bind fun t534 => (some t534)) else (some false))) = some r := h
 clear h
 replace H := Option.bind_eq_some_iff.mp H
 obtain ⟨t533, A30, H⟩ := H
 replace H : (if t533 = true then ((spec_l1In.f a1 0 (wrap64 (a0_1 - 1))).bind fun t534 => (some t534)) else (some false)) = some r := H
 have A3 := Aside0.mk A30
 clear A30
 by_cases c4 : t533 = true
 ·subst c4
  have H1 : ((spec_l1In.f a1 0 (wrap64 (a0_1 - 1))).bind fun t534 => (some t534)) = some r := by rw [if_pos rfl] at H; exact H
  clear H
  have H := H1
  clear H1
  replace H := Option.bind_eq_some_iff.mp H
  obtain ⟨t534, A50, H⟩ := H
  replace H : (some t534) = some r := H
  have A5 := Aside0.mk A50
  clear A50
  obtain rfl := Option.some.inj H
  go_enter Try.func75, Try.ntmps75
  go_wp2_with (first | ((with_reducible refine gate_dst (N := 2) rfl ?_); refine box_event ?hg (N := 2) ?hd (cs := #[.int .i64 a0_0, .int .i64 a0_1, .slice A0_2 l0_2.length c0_2]) (t := 48) ?hr ?_; (case hd => rfl); (case hg => rfl); (case hr => first | (go_simp; done) | (go_simp; rfl)); intro gb532 hg w6 hbox hb; refine ev4 (bs HB hb) (hbox) (gle hg HB) (gle hg HB) ?_; clear HB; intro HB BK532 GW532 GE532; clear hb hbox hg; obtain ⟨hcz7_0, hcz7_1, hcz7_2, hfz7_0, hfz7_1, hfz7_2⟩ := bt3 BK532) | ((with_reducible refine gate_callee (f := 84) rfl ?_); refine goesL_ (some 6) rfl rfl Try.func84 (by kernel_rfl) rfl #[.agg #[.int .i64 a0_0, .int .i64 a0_1, .slice A0_2 l0_2.length c0_2]] rfl (by (try simp only [ma_, mb_, mc_]); first | done | rfl | (simp only [List.length_drop, List.length_take]; rfl)) ?_; (with_reducible refine (spec_boGood.calls k a0_0 a0_1 _ _ l0_2 true _ (Kd.C_mv (Kd.C_below HR0_2.out HB.out)) HC0_2.out A3.out).mono ?_); rintro e w8 ⟨rfl, hb⟩; refine ⟨_, rfl, ?_⟩; refine ev2 (kb BK532 hb) (bs HB hb) ?_; clear BK532 HB; intro BK532 HB; (try clear hb); (try clear hb2); (try clear hk); (try clear hi); obtain ⟨hcz9_0, hcz9_1, hcz9_2, hfz9_0, hfz9_1, hfz9_2⟩ := bt3 BK532) | (go_at_call 81; (with_reducible refine (spec_l1In.calls a1 0 (wrap64 (a0_1 - 1)) t534 _ A5.out).mono ?_); rintro e w' ⟨rfl, ⟨nd, rfl⟩⟩))
  go_ret
  exact ⟨by first | rfl | (simp [e0_, e1_] <;> rfl) | (simp [*, e0_, e1_] <;> rfl), bm HB⟩
 ·replace c4 := Bool.eq_false_iff.mpr c4
  subst c4
  have H1 : (some false) = some r := by rw [if_neg (show ¬ (false = true) by decide)] at H; exact H
  clear H
  have H := H1
  clear H1
  obtain rfl := Option.some.inj H
  go_enter Try.func75, Try.ntmps75
  go_wp2_with (first | ((with_reducible refine gate_dst (N := 2) rfl ?_); refine box_event ?hg (N := 2) ?hd (cs := #[.int .i64 a0_0, .int .i64 a0_1, .slice A0_2 l0_2.length c0_2]) (t := 48) ?hr ?_; (case hd => rfl); (case hg => rfl); (case hr => first | (go_simp; done) | (go_simp; rfl)); intro gb532 hg w10 hbox hb; refine ev4 (bs HB hb) (hbox) (gle hg HB) (gle hg HB) ?_; clear HB; intro HB BK532 GW532 GE532; clear hb hbox hg; obtain ⟨hcz11_0, hcz11_1, hcz11_2, hfz11_0, hfz11_1, hfz11_2⟩ := bt3 BK532) | ((with_reducible refine gate_callee (f := 84) rfl ?_); refine goesL_ (some 6) rfl rfl Try.func84 (by kernel_rfl) rfl #[.agg #[.int .i64 a0_0, .int .i64 a0_1, .slice A0_2 l0_2.length c0_2]] rfl (by (try simp only [ma_, mb_, mc_]); first | done | rfl | (simp only [List.length_drop, List.length_take]; rfl)) ?_; (with_reducible refine (spec_boGood.calls k a0_0 a0_1 _ _ l0_2 false _ (Kd.C_mv (Kd.C_below HR0_2.out HB.out)) HC0_2.out A3.out).mono ?_); rintro e w12 ⟨rfl, hb⟩; refine ⟨_, rfl, ?_⟩; refine ev2 (kb BK532 hb) (bs HB hb) ?_; clear BK532 HB; intro BK532 HB; (try clear hb); (try clear hb2); (try clear hk); (try clear hi)))
  go_ret
  exact ⟨by first | rfl | (simp [e0_, e1_] <;> rfl) | (simp [*, e0_, e1_] <;> rfl), bm HB⟩

/-! ### spec_EndNumber: function 31 -/
def spec_EndNumber.f (k : Nat) (a0_0 : Int) (a0_1 : Int) (l0_2 : List (S78)) (a1 : Int) : Option (Int × Bool) := (spec_flHas.f k a0_0 a0_1 l0_2 a1).bind fun t645 => (if t645 = true then ((spec_flRun.f k a0_0 a0_1 l0_2 a1).bind fun bt646 => ((spec_syEnd.f a0_0 a0_1 l0_2 bt646.1 bt646.2.1 bt646.2.2.1).bind fun t656 => (some (t656, true)))) else (some (0, false)))
set_option maxHeartbeats 8000000 in
set_option maxRecDepth 100000 in
theorem spec_EndNumber.calls (k : Nat) (a0_0 : Int) (a0_1 : Int) (A0_2 : Option Addr) (c0_2 : Nat) (l0_2 : List (S78)) (a1 : Int) (r1 : Int) (r2 : Bool) (w : World) (hr0_2 : Kd.C k78 w A0_2 l0_2.length l0_2) (hc0_2 : l0_2.length ≤ c0_2) (h : spec_EndNumber.f k a0_0 a0_1 l0_2 a1 = some (r1, r2)) :
  Calls Try.prog 31 #[.agg #[.int .i64 a0_0, .int .i64 a0_1, .slice A0_2 l0_2.length c0_2], .int .i64 a1] w fun e w' => e = .returned (.tuple #[.int .i64 r1, .bool r2]) ∧ Below w.heap.size w w' := by
 have HR0_2 := Aside0.mk hr0_2
 have HC0_2 := Aside0.mk hc0_2
 clear hr0_2 hc0_2
 have HB := Aside0.mk (Below.refl w.heap.size w)
 have H : ((spec_flHas.f k a0_0 a0_1 l0_2 a1).bind fun t645 => (if t645 = true then ((spec_flRun.f k a0_0 a0_1 l0_2 a1).bind fun bt646 => ((spec_syEnd.f a0_0 a0_1 l0_2 bt646.1 bt646.2.1 bt646.2.2.1).bind fun t656 => (some (t656, true)))) else (some (0, false)))) = some (r1, r2) := h
 clear h
 replace H := Option.bind_eq_some_iff.mp H
 obtain ⟨t645, A30, H⟩ := H
 replace H : (if t645 = true then ((spec_flRun.f k a0_0 a0_1 l0_2 a1).bind fun bt646 => ((spec_syEnd.f a0_0 a0_1 l0_2 bt646.1 bt646.2.1 bt646.2.2.1).bind fun t656 => (some (t656, true)))) else (some (0, false))) = some (r1, r2) := H
 have A3 := Aside0.mk A30
 clear A30
 by_cases c4 : t645 = true
 ·subst c4
  have H1 : ((spec_flRun.f k a0_0 a0_1 l0_2 a1).bind fun bt646 => ((spec_syEnd.f a0_0 a0_1 l0_2 bt646.1 bt646.2.1 bt646.2.2.1).bind fun t656 => (some (t656, true)))) = some (r1, r2) := by rw [if_pos rfl] at H; exact H
  clear H
  have H := H1
  clear H1
  replace H := Option.bind_eq_some_iff.mp H
  obtain ⟨⟨t646, t647, t648, t649, t650, t651⟩, A50, H⟩ := H
  replace H : ((spec_syEnd.f a0_0 a0_1 l0_2 t646 t647 t648).bind fun t656 => (some (t656, true))) = some (r1, r2) := H
  have A5 := Aside0.mk A50
  clear A50
  replace H := Option.bind_eq_some_iff.mp H
  obtain ⟨t656, A60, H⟩ := H
  replace H : (some (t656, true)) = some (r1, r2) := H
  have A6 := Aside0.mk A60
  clear A60
  simp only [Option.some.injEq, Prod.mk.injEq] at H
  obtain ⟨rfl, rfl⟩ := H
  go_enter Try.func31, Try.ntmps31
  go_wp2_with (first | ((with_reducible refine gate_dst (N := 2) rfl ?_); refine box_event ?hg (N := 2) ?hd (cs := #[.int .i64 a0_0, .int .i64 a0_1, .slice A0_2 l0_2.length c0_2]) (t := 48) ?hr ?_; (case hd => rfl); (case hg => rfl); (case hr => first | (go_simp; done) | (go_simp; rfl)); intro gb644 hg w7 hbox hb; refine ev4 (bs HB hb) (hbox) (gle hg HB) (gle hg HB) ?_; clear HB; intro HB BK644 GW644 GE644; clear hb hbox hg; obtain ⟨hcz8_0, hcz8_1, hcz8_2, hfz8_0, hfz8_1, hfz8_2⟩ := bt3 BK644) | ((with_reducible refine gate_callee (f := 75) rfl ?_); refine goesL_ (some 10) rfl rfl Try.func75 (by kernel_rfl) rfl #[.agg #[.int .i64 a0_0, .int .i64 a0_1, .slice A0_2 l0_2.length c0_2], .int .i64 a1] rfl (by (try simp only [ma_, mb_, mc_]); first | done | rfl | (simp only [List.length_drop, List.length_take]; rfl)) ?_; (with_reducible refine (spec_flHas.calls k a0_0 a0_1 _ _ l0_2 a1 true _ (Kd.C_mv (Kd.C_below HR0_2.out HB.out)) HC0_2.out A3.out).mono ?_); rintro e w9 ⟨rfl, hb⟩; refine ⟨_, rfl, ?_⟩; refine ev2 (kb BK644 hb) (bs HB hb) ?_; clear BK644 HB; intro BK644 HB; (try clear hb); (try clear hb2); (try clear hk); (try clear hi); obtain ⟨hcz10_0, hcz10_1, hcz10_2, hfz10_0, hfz10_1, hfz10_2⟩ := bt3 BK644) | ((with_reducible refine gate_callee (f := 76) rfl ?_); refine goesL_ (some 15) rfl rfl Try.func76 (by kernel_rfl) rfl #[.agg #[.int .i64 a0_0, .int .i64 a0_1, .slice A0_2 l0_2.length c0_2], .int .i64 a1] rfl (by (try simp only [ma_, mb_, mc_]); first | done | rfl | (simp only [List.length_drop, List.length_take]; rfl)) ?_; (with_reducible refine (spec_flRun.calls k a0_0 a0_1 _ _ l0_2 a1 t646 t647 t648 t649 t650 t651 _ (Kd.C_mv (Kd.C_below HR0_2.out HB.out)) HC0_2.out A5.out).mono ?_); rintro e w11 ⟨v652, rfl, ho0, hb⟩; refine ⟨_, rfl, ?_⟩; refine ev3 (Kd.R_lower ho0 (below_size (bm HB))) (kb BK644 hb) (bs HB hb) ?_; clear BK644 HB; intro HO653 BK644 HB; (try clear hb); (try clear hb2); (try clear hk); (try clear hi); (try clear ho0)) | ((with_reducible refine gate_dst (N := 6) rfl ?_); refine box_event ?hg (N := 6) ?hd (cs := #[.int .i64 0, .int .i64 0, .int .i64 0]) (t := 90) ?hr ?_; (case hd => rfl); (case hg => rfl); (case hr => first | (go_simp; done) | (go_simp; rfl)); intro gb654 hg w12 hbox hb; refine ev8 (Kd.R_below (Kd.R_mv HO653.out) hb) (kb BK644 hb) (bs HB hb) (hbox) (gle hg HB) (gle hg HB) (gnf hg BK644) (gne hg BK644) ?_; clear HO653 BK644 HB; intro HO653 BK644 HB BK654 GW654 GE654 NB644_654 NB654_644; clear hb hbox hg) | ((with_reducible refine gate_dst (N := 7) rfl ?_); refine box_event ?hg (N := 7) ?hd (cs := #[.int .i64 0, .int .i64 0, .slice none 0 0]) (t := 48) ?hr ?_; (case hd => rfl); (case hg => rfl); (case hr => first | (go_simp; done) | (go_simp; rfl)); intro gb655 hg w13 hbox hb; refine ev11 (Kd.R_below (Kd.R_mv HO653.out) hb) (kb BK644 hb) (kb BK654 hb) (bs HB hb) (hbox) (gle hg HB) (gle hg HB) (gnf hg BK644) (gne hg BK644) (gnf hg BK654) (gne hg BK654) ?_; clear HO653 BK644 BK654 HB; intro HO653 BK644 BK654 HB BK655 GW655 GE655 NB644_655 NB655_644 NB654_655 NB655_654; clear hb hbox hg; have hnb14 := NB654_644.out; have hnc14 := NB644_654.out; have hnb15 := NB654_655.out; have hnc15 := NB655_654.out; obtain ⟨hcz16_0, hcz16_1, hcz16_2, hfz16_0, hfz16_1, hfz16_2⟩ := bt3 BK654; have hnb17 := NB655_644.out; have hnc17 := NB644_655.out; obtain ⟨hcz18_0, hcz18_1, hcz18_2, hfz18_0, hfz18_1, hfz18_2⟩ := bt3 BK655; obtain ⟨Ao19, co19, eo19⟩ := Kd.R_slice HO653.out; subst eo19; obtain ⟨hcz20_0, hcz20_1, hcz20_2, hfz20_0, hfz20_1, hfz20_2⟩ := bt3 BK644) | ((with_reducible refine gate_callee (f := 77) rfl ?_); refine goesL_ (some 20) rfl rfl Try.func77 (by kernel_rfl) rfl #[.agg #[.int .i64 a0_0, .int .i64 a0_1, .slice A0_2 l0_2.length c0_2], .agg #[.int .i64 t646, .int .i64 t647, .int .i64 t648]] rfl (by (try simp only [ma_, mb_, mc_]); first | done | rfl | (simp only [List.length_drop, List.length_take]; rfl)) ?_; (with_reducible refine (spec_syEnd.calls a0_0 a0_1 _ _ l0_2 t646 t647 t648 t656 _ (Kd.C_below HR0_2.out (bm HB)) HC0_2.out A6.out).mono ?_); rintro e w21 ⟨rfl, hb⟩; refine ⟨_, rfl, ?_⟩; refine ev5 (Kd.R_below (Kd.R_mv (Kd.R_mono (Kd.R_mono (Kd.R_far (p := ⟨gb655, 2, none⟩) (Kd.R_far (p := ⟨gb655, 1, none⟩) (Kd.R_far (p := ⟨gb655, 0, none⟩) (Kd.R_far (p := ⟨gb654, 2, none⟩) (Kd.R_far (p := ⟨gb654, 1, none⟩) (Kd.R_far (p := ⟨gb654, 0, none⟩) (Kd.R_types (Kd.R_types HO653.out BK654.out (by decide)) BK655.out (by decide)) (fun _ hk => hk.1.2) (.int .i64 t646)) (fun _ hk => hk.1.2) (.int .i64 t647)) (fun _ hk => hk.1.2) (.int .i64 t648)) (fun _ hk => hk.2) (.int .i64 t649)) (fun _ hk => hk.2) (.int .i64 t650)) (fun _ hk => hk.2) (.slice Ao19 t651.length co19)) (fun _ h_ => h_.1)) (fun _ h_ => h_.1))) hb) (blk_below (g := gb644) (o := .cells #[.int .i64 a0_0, .int .i64 a0_1, .slice A0_2 l0_2.length c0_2] 48 (0, 0)) (fp BK644 rfl) hb) (blk_below (g := gb654) (o := .cells #[.int .i64 t646, .int .i64 t647, .int .i64 t648] 90 (0, 0)) (fp BK654 rfl) hb) (blk_below (g := gb655) (o := .cells #[.int .i64 t649, .int .i64 t650, .slice Ao19 t651.length co19] 48 (0, 0)) (fp BK655 rfl) hb) (bs HB hb) ?_; clear HO653 BK644 BK654 BK655 HB; intro HO653 BK644 BK654 BK655 HB; (try clear hb); (try clear hb2); (try clear hk); (try clear hi)))
  go_ret2
  exact ⟨by first | rfl | (simp [e0_, e1_] <;> rfl) | (simp [*, e0_, e1_] <;> rfl), bm HB⟩
 ·replace c4 := Bool.eq_false_iff.mpr c4
  subst c4
  have H1 : (some (0, false)) = some (r1, r2) := by rw [if_neg (show ¬ (false = true) by decide)] at H; exact H
  clear H
  have H := H1
  clear H1
  simp only [Option.some.injEq, Prod.mk.injEq] at H
  obtain ⟨rfl, rfl⟩ := H
  go_enter Try.func31, Try.ntmps31
  go_wp2_with (first | ((with_reducible refine gate_dst (N := 2) rfl ?_); refine box_event ?hg (N := 2) ?hd (cs := #[.int .i64 a0_0, .int .i64 a0_1, .slice A0_2 l0_2.length c0_2]) (t := 48) ?hr ?_; (case hd => rfl); (case hg => rfl); (case hr => first | (go_simp; done) | (go_simp; rfl)); intro gb644 hg w22 hbox hb; refine ev4 (bs HB hb) (hbox) (gle hg HB) (gle hg HB) ?_; clear HB; intro HB BK644 GW644 GE644; clear hb hbox hg; obtain ⟨hcz23_0, hcz23_1, hcz23_2, hfz23_0, hfz23_1, hfz23_2⟩ := bt3 BK644) | ((with_reducible refine gate_callee (f := 75) rfl ?_); refine goesL_ (some 10) rfl rfl Try.func75 (by kernel_rfl) rfl #[.agg #[.int .i64 a0_0, .int .i64 a0_1, .slice A0_2 l0_2.length c0_2], .int .i64 a1] rfl (by (try simp only [ma_, mb_, mc_]); first | done | rfl | (simp only [List.length_drop, List.length_take]; rfl)) ?_; (with_reducible refine (spec_flHas.calls k a0_0 a0_1 _ _ l0_2 a1 false _ (Kd.C_mv (Kd.C_below HR0_2.out HB.out)) HC0_2.out A3.out).mono ?_); rintro e w24 ⟨rfl, hb⟩; refine ⟨_, rfl, ?_⟩; refine ev2 (kb BK644 hb) (bs HB hb) ?_; clear BK644 HB; intro BK644 HB; (try clear hb); (try clear hb2); (try clear hk); (try clear hi)))
  go_ret2
  exact ⟨by first | rfl | (simp [e0_, e1_] <;> rfl) | (simp [*, e0_, e1_] <;> rfl), bm HB⟩

/-! ### impl_EndNumber: function 33 -/
def impl_EndNumber.f (k : Nat) (a0_0 : Int) (a0_1 : Int) (l0_2 : List (S78)) (a1 : Int) : Option (Int × Bool) := (impl_validEntry.f k a0_0 a0_1 l0_2 a1).bind fun t770 => (if t770 = true then ((impl_FallOf.f k a0_0 a0_1 l0_2 a1).bind fun bt771 => ((impl_endNumber.f a0_0 a0_1 l0_2 bt771.1 bt771.2.1 bt771.2.2.1).bind fun t776 => (some (t776, true)))) else (some (0, false)))
set_option maxHeartbeats 8000000 in
set_option maxRecDepth 100000 in
theorem impl_EndNumber.calls (k : Nat) (a0_0 : Int) (a0_1 : Int) (A0_2 : Option Addr) (c0_2 : Nat) (l0_2 : List (S78)) (a1 : Int) (r1 : Int) (r2 : Bool) (w : World) (hr0_2 : Kd.C k78 w A0_2 l0_2.length l0_2) (hc0_2 : l0_2.length ≤ c0_2) (h : impl_EndNumber.f k a0_0 a0_1 l0_2 a1 = some (r1, r2)) :
  Calls Try.prog 33 #[.agg #[.int .i64 a0_0, .int .i64 a0_1, .slice A0_2 l0_2.length c0_2], .int .i64 a1] w fun e w' => e = .returned (.tuple #[.int .i64 r1, .bool r2]) ∧ Below w.heap.size w w' := by
 have HR0_2 := Aside0.mk hr0_2
 have HC0_2 := Aside0.mk hc0_2
 clear hr0_2 hc0_2
 have HB := Aside0.mk (Below.refl w.heap.size w)
 have H : ((impl_validEntry.f k a0_0 a0_1 l0_2 a1).bind fun t770 => (if t770 = true then ((impl_FallOf.f k a0_0 a0_1 l0_2 a1).bind fun bt771 => ((impl_endNumber.f a0_0 a0_1 l0_2 bt771.1 bt771.2.1 bt771.2.2.1).bind fun t776 => (some (t776, true)))) else (some (0, false)))) = some (r1, r2) := h
 clear h
 replace H := Option.bind_eq_some_iff.mp H
 obtain ⟨t770, A30, H⟩ := H
 replace H : (if t770 = true then ((impl_FallOf.f k a0_0 a0_1 l0_2 a1).bind fun bt771 => ((impl_endNumber.f a0_0 a0_1 l0_2 bt771.1 bt771.2.1 bt771.2.2.1).bind fun t776 => (some (t776, true)))) else (some (0, false))) = some (r1, r2) := H
 have A3 := Aside0.mk A30
 clear A30
 by_cases c4 : t770 = true
 ·subst c4
  have H1 : ((impl_FallOf.f k a0_0 a0_1 l0_2 a1).bind fun bt771 => ((impl_endNumber.f a0_0 a0_1 l0_2 bt771.1 bt771.2.1 bt771.2.2.1).bind fun t776 => (some (t776, true)))) = some (r1, r2) := by rw [if_pos rfl] at H; exact H
  clear H
  have H := H1
  clear H1
  replace H := Option.bind_eq_some_iff.mp H
  obtain ⟨⟨t771, t772, t773, t774⟩, A50, H⟩ := H
  replace H : ((impl_endNumber.f a0_0 a0_1 l0_2 t771 t772 t773).bind fun t776 => (some (t776, true))) = some (r1, r2) := H
  have A5 := Aside0.mk A50
  clear A50
  replace H := Option.bind_eq_some_iff.mp H
  obtain ⟨t776, A60, H⟩ := H
  replace H : (some (t776, true)) = some (r1, r2) := H
  have A6 := Aside0.mk A60
  clear A60
  simp only [Option.some.injEq, Prod.mk.injEq] at H
  obtain ⟨rfl, rfl⟩ := H
  go_enter Try.func33, Try.ntmps33
  go_wp2_with (first | ((with_reducible refine gate_dst (N := 2) rfl ?_); refine box_event ?hg (N := 2) ?hd (cs := #[.int .i64 a0_0, .int .i64 a0_1, .slice A0_2 l0_2.length c0_2]) (t := 48) ?hr ?_; (case hd => rfl); (case hg => rfl); (case hr => first | (go_simp; done) | (go_simp; rfl)); intro gb769 hg w7 hbox hb; refine ev4 (bs HB hb) (hbox) (gle hg HB) (gle hg HB) ?_; clear HB; intro HB BK769 GW769 GE769; clear hb hbox hg; obtain ⟨hcz8_0, hcz8_1, hcz8_2, hfz8_0, hfz8_1, hfz8_2⟩ := bt3 BK769) | ((with_reducible refine gate_callee (f := 78) rfl ?_); refine goesL_ (some 10) rfl rfl Try.func78 (by kernel_rfl) rfl #[.agg #[.int .i64 a0_0, .int .i64 a0_1, .slice A0_2 l0_2.length c0_2], .int .i64 a1] rfl (by (try simp only [ma_, mb_, mc_]); first | done | rfl | (simp only [List.length_drop, List.length_take]; rfl)) ?_; (with_reducible refine (impl_validEntry.calls k a0_0 a0_1 _ _ l0_2 a1 true _ (Kd.C_mv (Kd.C_below HR0_2.out HB.out)) HC0_2.out A3.out).mono ?_); rintro e w9 ⟨rfl, hb⟩; refine ⟨_, rfl, ?_⟩; refine ev2 (kb BK769 hb) (bs HB hb) ?_; clear BK769 HB; intro BK769 HB; (try clear hb); (try clear hb2); (try clear hk); (try clear hi); obtain ⟨hcz10_0, hcz10_1, hcz10_2, hfz10_0, hfz10_1, hfz10_2⟩ := bt3 BK769) | ((with_reducible refine gate_callee (f := 79) rfl ?_); refine goesL_ (some 15) rfl rfl Try.func79 (by kernel_rfl) rfl #[.agg #[.int .i64 a0_0, .int .i64 a0_1, .slice A0_2 l0_2.length c0_2], .int .i64 a1] rfl (by (try simp only [ma_, mb_, mc_]); first | done | rfl | (simp only [List.length_drop, List.length_take]; rfl)) ?_; (with_reducible refine (impl_FallOf.calls k a0_0 a0_1 _ _ l0_2 a1 t771 t772 t773 t774 _ (Kd.C_mv (Kd.C_below HR0_2.out HB.out)) HC0_2.out A5.out).mono ?_); rintro e w11 ⟨rfl, hb⟩; refine ⟨_, rfl, ?_⟩; refine ev2 (kb BK769 hb) (bs HB hb) ?_; clear BK769 HB; intro BK769 HB; (try clear hb); (try clear hb2); (try clear hk); (try clear hi)) | ((with_reducible refine gate_dst (N := 6) rfl ?_); refine box_event ?hg (N := 6) ?hd (cs := #[.int .i64 0, .int .i64 0, .int .i64 0]) (t := 90) ?hr ?_; (case hd => rfl); (case hg => rfl); (case hr => first | (go_simp; done) | (go_simp; rfl)); intro gb775 hg w12 hbox hb; refine ev7 (kb BK769 hb) (bs HB hb) (hbox) (gle hg HB) (gle hg HB) (gnf hg BK769) (gne hg BK769) ?_; clear BK769 HB; intro BK769 HB BK775 GW775 GE775 NB769_775 NB775_769; clear hb hbox hg; have hnb13 := NB775_769.out; have hnc13 := NB769_775.out; obtain ⟨hcz14_0, hcz14_1, hcz14_2, hfz14_0, hfz14_1, hfz14_2⟩ := bt3 BK775; obtain ⟨hcz15_0, hcz15_1, hcz15_2, hfz15_0, hfz15_1, hfz15_2⟩ := bt3 BK769) | ((with_reducible refine gate_callee (f := 80) rfl ?_); refine goesL_ (some 20) rfl rfl Try.func80 (by kernel_rfl) rfl #[.agg #[.int .i64 a0_0, .int .i64 a0_1, .slice A0_2 l0_2.length c0_2], .agg #[.int .i64 t771, .int .i64 t772, .int .i64 t773]] rfl (by (try simp only [ma_, mb_, mc_]); first | done | rfl | (simp only [List.length_drop, List.length_take]; rfl)) ?_; (with_reducible refine (impl_endNumber.calls a0_0 a0_1 _ _ l0_2 t771 t772 t773 t776 _ (Kd.C_below HR0_2.out (bm HB)) HC0_2.out A6.out).mono ?_); rintro e w16 ⟨rfl, hb⟩; refine ⟨_, rfl, ?_⟩; refine ev3 (blk_below (g := gb769) (o := .cells #[.int .i64 a0_0, .int .i64 a0_1, .slice A0_2 l0_2.length c0_2] 48 (0, 0)) (fp BK769 rfl) hb) (blk_below (g := gb775) (o := .cells #[.int .i64 t771, .int .i64 t772, .int .i64 t773] 90 (0, 0)) (fp BK775 rfl) hb) (bs HB hb) ?_; clear BK769 BK775 HB; intro BK769 BK775 HB; (try clear hb); (try clear hb2); (try clear hk); (try clear hi)))
  go_ret2
  exact ⟨by first | rfl | (simp [e0_, e1_] <;> rfl) | (simp [*, e0_, e1_] <;> rfl), bm HB⟩
 ·replace c4 := Bool.eq_false_iff.mpr c4
  subst c4
  have H1 : (some (0, false)) = some (r1, r2) := by rw [if_neg (show ¬ (false = true) by decide)] at H; exact H
  clear H
  have H := H1
  clear H1
  simp only [Option.some.injEq, Prod.mk.injEq] at H
  obtain ⟨rfl, rfl⟩ := H
  go_enter Try.func33, Try.ntmps33
  go_wp2_with (first | ((with_reducible refine gate_dst (N := 2) rfl ?_); refine box_event ?hg (N := 2) ?hd (cs := #[.int .i64 a0_0, .int .i64 a0_1, .slice A0_2 l0_2.length c0_2]) (t := 48) ?hr ?_; (case hd => rfl); (case hg => rfl); (case hr => first | (go_simp; done) | (go_simp; rfl)); intro gb769 hg w17 hbox hb; refine ev4 (bs HB hb) (hbox) (gle hg HB) (gle hg HB) ?_; clear HB; intro HB BK769 GW769 GE769; clear hb hbox hg; obtain ⟨hcz18_0, hcz18_1, hcz18_2, hfz18_0, hfz18_1, hfz18_2⟩ := bt3 BK769) | ((with_reducible refine gate_callee (f := 78) rfl ?_); refine goesL_ (some 10) rfl rfl Try.func78 (by kernel_rfl) rfl #[.agg #[.int .i64 a0_0, .int .i64 a0_1, .slice A0_2 l0_2.length c0_2], .int .i64 a1] rfl (by (try simp only [ma_, mb_, mc_]); first | done | rfl | (simp only [List.length_drop, List.length_take]; rfl)) ?_; (with_reducible refine (impl_validEntry.calls k a0_0 a0_1 _ _ l0_2 a1 false _ (Kd.C_mv (Kd.C_below HR0_2.out HB.out)) HC0_2.out A3.out).mono ?_); rintro e w19 ⟨rfl, hb⟩; refine ⟨_, rfl, ?_⟩; refine ev2 (kb BK769 hb) (bs HB hb) ?_; clear BK769 HB; intro BK769 HB; (try clear hb); (try clear hb2); (try clear hk); (try clear hi)))
  go_ret2
  exact ⟨by first | rfl | (simp [e0_, e1_] <;> rfl) | (simp [*, e0_, e1_] <;> rfl), bm HB⟩

/-! ### laws_FnExactEndNumber: function 7 -/
def laws_FnExactEndNumber.j0 : Nat → Bool → Int → Int → List (S112) → Int → Int → List (S78) → Option (Bool)
 | 0, _, _, _, _, _, _, _ => none
 | k + 1, x38, x781000, x781001, x781002, x795000, x795001, x795002 => if x38 = true then (some false) else ((laws_toBoard.f k x781000 x781001 x781002).bind fun bt797 => ((laws_eqBoard.f k x795000 x795001 x795002 bt797.1 bt797.2.1 bt797.2.2).bind fun t802 => (if t802 = true then (some true) else (some false))))
def laws_FnExactEndNumber.f (k : Nat) (a0_0 : Int) (a0_1 : Int) (l0_2 : List (S112)) (a1 : Int) : Option (Bool) := (laws_szBoard.f a0_0 a0_1 l0_2 1048576).bind fun t781 => (if t781 < 0 then (some true) else ((laws_toBoard.f k a0_0 a0_1 l0_2).bind fun bt782 => ((spec_EndNumber.f k bt782.1 bt782.2.1 bt782.2.2 a1).bind fun bt787 => ((laws_toBoard.f k a0_0 a0_1 l0_2).bind fun bt789 => ((impl_EndNumber.f k bt789.1 bt789.2.1 bt789.2.2 a1).bind fun bt795 => (if bt795.1 = bt787.1 then (laws_FnExactEndNumber.j0 k (bt795.2 != bt787.2) a0_0 a0_1 l0_2 bt789.1 bt789.2.1 bt789.2.2) else (laws_FnExactEndNumber.j0 k true a0_0 a0_1 l0_2 bt789.1 bt789.2.1 bt789.2.2)))))))
set_option maxHeartbeats 8000000 in
set_option maxRecDepth 100000 in
theorem laws_FnExactEndNumber.calls (k : Nat) (a0_0 : Int) (a0_1 : Int) (A0_2 : Option Addr) (c0_2 : Nat) (l0_2 : List (S112)) (a1 : Int) (r : Bool) (w : World) (hr0_2 : Kd.C k112 w A0_2 l0_2.length l0_2) (hc0_2 : l0_2.length ≤ c0_2) (hrt : r = true) (h : laws_FnExactEndNumber.f k a0_0 a0_1 l0_2 a1 = some r) :
  Calls Try.prog 7 #[.agg #[.int .i64 a0_0, .int .i64 a0_1, .slice A0_2 l0_2.length c0_2], .int .i64 a1] w fun e w' => e = .returned (.bool r) ∧ Below w.heap.size w w' := by
 have HR0_2 := Aside0.mk hr0_2
 have HC0_2 := Aside0.mk hc0_2
 clear hr0_2 hc0_2
 have HRT := Aside0.mk hrt
 clear hrt
 have HB := Aside0.mk (Below.refl w.heap.size w)
 have H : ((laws_szBoard.f a0_0 a0_1 l0_2 1048576).bind fun t781 => (if t781 < 0 then (some true) else ((laws_toBoard.f k a0_0 a0_1 l0_2).bind fun bt782 => ((spec_EndNumber.f k bt782.1 bt782.2.1 bt782.2.2 a1).bind fun bt787 => ((laws_toBoard.f k a0_0 a0_1 l0_2).bind fun bt789 => ((impl_EndNumber.f k bt789.1 bt789.2.1 bt789.2.2 a1).bind fun bt795 => (if bt795.1 = bt787.1 then (laws_FnExactEndNumber.j0 k (bt795.2 != bt787.2) a0_0 a0_1 l0_2 bt789.1 bt789.2.1 bt789.2.2) else (laws_FnExactEndNumber.j0 k true a0_0 a0_1 l0_2 bt789.1 bt789.2.1 bt789.2.2)))))))) = some r := h
 clear h
 replace H := Option.bind_eq_some_iff.mp H
 obtain ⟨t781, A30, H⟩ := H
 replace H : (if t781 < 0 then (some true) else ((laws_toBoard.f k a0_0 a0_1 l0_2).bind fun bt782 => ((spec_EndNumber.f k bt782.1 bt782.2.1 bt782.2.2 a1).bind fun bt787 => ((laws_toBoard.f k a0_0 a0_1 l0_2).bind fun bt789 => ((impl_EndNumber.f k bt789.1 bt789.2.1 bt789.2.2 a1).bind fun bt795 => (if bt795.1 = bt787.1 then (laws_FnExactEndNumber.j0 k (bt795.2 != bt787.2) a0_0 a0_1 l0_2 bt789.1 bt789.2.1 bt789.2.2) else (laws_FnExactEndNumber.j0 k true a0_0 a0_1 l0_2 bt789.1 bt789.2.1 bt789.2.2))))))) = some r := H
 have A3 := Aside0.mk A30
 clear A30
 by_cases c4 : t781 < 0
 ·rw [if_pos c4] at H
  have c4b0 : decide (t781 < 0) = true := decide_eq_true c4
  clear c4
  obtain rfl := Option.some.inj H
  go_enter Try.func7, Try.ntmps7
  go_wp2_with (first | ((with_reducible refine gate_dst (N := 2) rfl ?_); refine box_event ?hg (N := 2) ?hd (cs := #[.int .i64 a0_0, .int .i64 a0_1, .slice A0_2 l0_2.length c0_2]) (t := 44) ?hr ?_; (case hd => rfl); (case hg => rfl); (case hr => first | (go_simp; done) | (go_simp; rfl)); intro gb780 hg w5 hbox hb; refine ev4 (bs HB hb) (hbox) (gle hg HB) (gle hg HB) ?_; clear HB; intro HB BK780 GW780 GE780; clear hb hbox hg; obtain ⟨hcz6_0, hcz6_1, hcz6_2, hfz6_0, hfz6_1, hfz6_2⟩ := bt3 BK780) | ((with_reducible refine gate_callee (f := 30) rfl ?_); refine goesL_ (some 13) rfl rfl Try.func30 (by kernel_rfl) rfl #[.agg #[.int .i64 a0_0, .int .i64 a0_1, .slice A0_2 l0_2.length c0_2], .int .i64 1048576] rfl (by (try simp only [ma_, mb_, mc_]); first | done | rfl | (simp only [List.length_drop, List.length_take]; rfl)) ?_; (with_reducible refine (laws_szBoard.calls a0_0 a0_1 _ _ l0_2 1048576 t781 _ (Kd.C_mv (Kd.C_below HR0_2.out HB.out)) HC0_2.out A3.out).mono ?_); rintro e w7 ⟨rfl, hb⟩; refine ⟨_, rfl, ?_⟩; refine ev2 (kb BK780 hb) (bs HB hb) ?_; clear BK780 HB; intro BK780 HB; (try clear hb); (try clear hb2); (try clear hk); (try clear hi)))
  go_ret
  exact ⟨by first | rfl | (simp [e0_, e1_] <;> rfl) | (simp [*, e0_, e1_] <;> rfl), bm HB⟩
 ·rw [if_neg c4] at H
  have c4b0 : decide (t781 < 0) = false := decide_eq_false c4
  clear c4
  replace H := Option.bind_eq_some_iff.mp H
  obtain ⟨⟨t782, t783, t784⟩, A80, H⟩ := H
  replace H : ((spec_EndNumber.f k t782 t783 t784 a1).bind fun bt787 => ((laws_toBoard.f k a0_0 a0_1 l0_2).bind fun bt789 => ((impl_EndNumber.f k bt789.1 bt789.2.1 bt789.2.2 a1).bind fun bt795 => (if bt795.1 = bt787.1 then (laws_FnExactEndNumber.j0 k (bt795.2 != bt787.2) a0_0 a0_1 l0_2 bt789.1 bt789.2.1 bt789.2.2) else (laws_FnExactEndNumber.j0 k true a0_0 a0_1 l0_2 bt789.1 bt789.2.1 bt789.2.2))))) = some r := H
  have A8 := Aside0.mk A80
  clear A80
  replace H := Option.bind_eq_some_iff.mp H
  obtain ⟨⟨t787, t788⟩, A90, H⟩ := H
  replace H : ((laws_toBoard.f k a0_0 a0_1 l0_2).bind fun bt789 => ((impl_EndNumber.f k bt789.1 bt789.2.1 bt789.2.2 a1).bind fun bt795 => (if bt795.1 = t787 then (laws_FnExactEndNumber.j0 k (bt795.2 != t788) a0_0 a0_1 l0_2 bt789.1 bt789.2.1 bt789.2.2) else (laws_FnExactEndNumber.j0 k true a0_0 a0_1 l0_2 bt789.1 bt789.2.1 bt789.2.2)))) = some r := H
  have A9 := Aside0.mk A90
  clear A90
  replace H := Option.bind_eq_some_iff.mp H
  obtain ⟨⟨t789, t790, t791⟩, A100, H⟩ := H
  replace H : ((impl_EndNumber.f k t789 t790 t791 a1).bind fun bt795 => (if bt795.1 = t787 then (laws_FnExactEndNumber.j0 k (bt795.2 != t788) a0_0 a0_1 l0_2 t789 t790 t791) else (laws_FnExactEndNumber.j0 k true a0_0 a0_1 l0_2 t789 t790 t791))) = some r := H
  have A10 := Aside0.mk A100
  clear A100
  replace H := Option.bind_eq_some_iff.mp H
  obtain ⟨⟨t795, t796⟩, A110, H⟩ := H
  replace H : (if t795 = t787 then (laws_FnExactEndNumber.j0 k (t796 != t788) a0_0 a0_1 l0_2 t789 t790 t791) else (laws_FnExactEndNumber.j0 k true a0_0 a0_1 l0_2 t789 t790 t791)) = some r := H
  have A11 := Aside0.mk A110
  clear A110
  have HC12 := Aside0.mk H
  clear H
  go_enter Try.func7, Try.ntmps7
  go_upto_region 8 with (first | ((with_reducible refine gate_dst (N := 2) rfl ?_); refine box_event ?hg (N := 2) ?hd (cs := #[.int .i64 a0_0, .int .i64 a0_1, .slice A0_2 l0_2.length c0_2]) (t := 44) ?hr ?_; (case hd => rfl); (case hg => rfl); (case hr => first | (go_simp; done) | (go_simp; rfl)); intro gb780 hg w13 hbox hb; refine ev4 (bs HB hb) (hbox) (gle hg HB) (gle hg HB) ?_; clear HB; intro HB BK780 GW780 GE780; clear hb hbox hg; obtain ⟨hcz14_0, hcz14_1, hcz14_2, hfz14_0, hfz14_1, hfz14_2⟩ := bt3 BK780) | ((with_reducible refine gate_callee (f := 30) rfl ?_); refine goesL_ (some 13) rfl rfl Try.func30 (by kernel_rfl) rfl #[.agg #[.int .i64 a0_0, .int .i64 a0_1, .slice A0_2 l0_2.length c0_2], .int .i64 1048576] rfl (by (try simp only [ma_, mb_, mc_]); first | done | rfl | (simp only [List.length_drop, List.length_take]; rfl)) ?_; (with_reducible refine (laws_szBoard.calls a0_0 a0_1 _ _ l0_2 1048576 t781 _ (Kd.C_mv (Kd.C_below HR0_2.out HB.out)) HC0_2.out A3.out).mono ?_); rintro e w15 ⟨rfl, hb⟩; refine ⟨_, rfl, ?_⟩; refine ev2 (kb BK780 hb) (bs HB hb) ?_; clear BK780 HB; intro BK780 HB; (try clear hb); (try clear hb2); (try clear hk); (try clear hi); obtain ⟨hcz16_0, hcz16_1, hcz16_2, hfz16_0, hfz16_1, hfz16_2⟩ := bt3 BK780) | ((with_reducible refine gate_callee (f := 32) rfl ?_); refine goesL_ (some 18) rfl rfl Try.func32 (by kernel_rfl) rfl #[.agg #[.int .i64 a0_0, .int .i64 a0_1, .slice A0_2 l0_2.length c0_2]] rfl (by (try simp only [ma_, mb_, mc_]); first | done | rfl | (simp only [List.length_drop, List.length_take]; rfl)) ?_; (with_reducible refine (laws_toBoard.calls k a0_0 a0_1 _ _ l0_2 t782 t783 t784 _ (Kd.C_mv (Kd.C_below HR0_2.out HB.out)) HC0_2.out A8.out).mono ?_); rintro e w17 ⟨v785, rfl, ho0, hb⟩; refine ⟨_, rfl, ?_⟩; refine ev3 (Kd.R_lower ho0 (below_size (bm HB))) (kb BK780 hb) (bs HB hb) ?_; clear BK780 HB; intro HO786 BK780 HB; (try clear hb); (try clear hb2); (try clear hk); (try clear hi); (try clear ho0); obtain ⟨Ao18, co18, eo18⟩ := Kd.R_slice HO786.out; subst eo18) | ((with_reducible refine gate_callee (f := 31) rfl ?_); refine goesL_ (some 20) rfl rfl Try.func31 (by kernel_rfl) rfl #[.agg #[.int .i64 t782, .int .i64 t783, .slice Ao18 t784.length co18], .int .i64 a1] rfl (by (try simp only [ma_, mb_, mc_]); first | done | rfl | (simp only [List.length_drop, List.length_take]; rfl)) ?_; (with_reducible refine (spec_EndNumber.calls k t782 t783 _ _ t784 a1 t787 t788 _ (Kd.C_mv (Kd.R_reads' HO786.out).2.2) ((Kd.R_reads' HO786.out).2.1) A9.out).mono ?_); rintro e w19 ⟨rfl, hb⟩; refine ⟨_, rfl, ?_⟩; refine ev3 (Kd.R_below (Kd.R_mv HO786.out) hb) (kb BK780 hb) (bs HB hb) ?_; clear HO786 BK780 HB; intro HO786 BK780 HB; (try clear hb); (try clear hb2); (try clear hk); (try clear hi); obtain ⟨hcz20_0, hcz20_1, hcz20_2, hfz20_0, hfz20_1, hfz20_2⟩ := bt3 BK780) | ((with_reducible refine gate_callee (f := 32) rfl ?_); refine goesL_ (some 24) rfl rfl Try.func32 (by kernel_rfl) rfl #[.agg #[.int .i64 a0_0, .int .i64 a0_1, .slice A0_2 l0_2.length c0_2]] rfl (by (try simp only [ma_, mb_, mc_]); first | done | rfl | (simp only [List.length_drop, List.length_take]; rfl)) ?_; (with_reducible refine (laws_toBoard.calls k a0_0 a0_1 _ _ l0_2 t789 t790 t791 _ (Kd.C_mv (Kd.C_below HR0_2.out HB.out)) HC0_2.out A10.out).mono ?_); rintro e w21 ⟨v792, rfl, ho0, hb⟩; refine ⟨_, rfl, ?_⟩; refine ev4 (Kd.R_elder' (Kd.R_mv HO786.out) (Kd.R_base ho0) hb) (Kd.R_lower (Kd.R_new' ho0 (Kd.R_lt (Kd.R_mv HO786.out))) (below_size (bm HB))) (kb BK780 hb) (bs HB hb) ?_; clear HO786 BK780 HB; intro HO786 HO793 BK780 HB; (try clear hb); (try clear hb2); (try clear hk); (try clear hi); (try clear ho0)) | ((with_reducible refine gate_dst (N := 8) rfl ?_); refine box_event ?hg (N := 8) ?hd (cs := #[.int .i64 0, .int .i64 0, .slice none 0 0]) (t := 48) ?hr ?_; (case hd => rfl); (case hg => rfl); (case hr => first | (go_simp; done) | (go_simp; rfl)); intro gb794 hg w22 hbox hb; refine ev9 (Kd.R_below (Kd.R_mv HO786.out) hb) (Kd.R_below (Kd.R_mv HO793.out) hb) (kb BK780 hb) (bs HB hb) (hbox) (gle hg HB) (gle hg HB) (gnf hg BK780) (gne hg BK780) ?_; clear HO786 HO793 BK780 HB; intro HO786 HO793 BK780 HB BK794 GW794 GE794 NB780_794 NB794_780; clear hb hbox hg; have hnb23 := NB794_780.out; have hnc23 := NB780_794.out; obtain ⟨hcz24_0, hcz24_1, hcz24_2, hfz24_0, hfz24_1, hfz24_2⟩ := bt3 BK794; obtain ⟨Ao25, co25, eo25⟩ := Kd.R_slice HO793.out; subst eo25) | ((with_reducible refine gate_callee (f := 33) rfl ?_); refine goesL_ (some 28) rfl rfl Try.func33 (by kernel_rfl) rfl #[.agg #[.int .i64 t789, .int .i64 t790, .slice Ao25 t791.length co25], .int .i64 a1] rfl (by (try simp only [ma_, mb_, mc_]); first | done | rfl | (simp only [List.length_drop, List.length_take]; rfl)) ?_; (with_reducible refine (impl_EndNumber.calls k t789 t790 _ _ t791 a1 t795 t796 _ ?side1 ((Kd.R_reads' HO793.out).2.1) A11.out).mono ?_); (case side1 => refine (Kd.R_reads' (e := 78) (base := w.heap.size) (ok := fun k_ => (True ∧ some k_ ≠ (.slice Ao18 t784.length co18 : Value).ownBlock)) (n := t791.length) (c := co25) ?_).2.2; exact (Kd.R_mv (Kd.R_mono (Kd.R_far (p := ⟨gb794, 2, none⟩) (Kd.R_far (p := ⟨gb794, 1, none⟩) (Kd.R_far (p := ⟨gb794, 0, none⟩) (Kd.R_types HO793.out BK794.out (by decide)) (fun _ hk => hk.2) (.int .i64 t789)) (fun _ hk => hk.2) (.int .i64 t790)) (fun _ hk => hk.2) (.slice Ao25 t791.length co25)) (fun _ h_ => h_.1)))); rintro e w26 ⟨rfl, hb⟩; refine ⟨_, rfl, ?_⟩; refine ev5 (Kd.R_below (Kd.R_mv (Kd.R_mono (Kd.R_far (p := ⟨gb794, 2, none⟩) (Kd.R_far (p := ⟨gb794, 1, none⟩) (Kd.R_far (p := ⟨gb794, 0, none⟩) (Kd.R_types HO786.out BK794.out (by decide)) (fun _ hk => hk.2) (.int .i64 t789)) (fun _ hk => hk.2) (.int .i64 t790)) (fun _ hk => hk.2) (.slice Ao25 t791.length co25)) (fun _ h_ => h_.1))) hb) (Kd.R_below (Kd.R_mv (Kd.R_mono (Kd.R_far (p := ⟨gb794, 2, none⟩) (Kd.R_far (p := ⟨gb794, 1, none⟩) (Kd.R_far (p := ⟨gb794, 0, none⟩) (Kd.R_types HO793.out BK794.out (by decide)) (fun _ hk => hk.2) (.int .i64 t789)) (fun _ hk => hk.2) (.int .i64 t790)) (fun _ hk => hk.2) (.slice Ao25 t791.length co25)) (fun _ h_ => h_.1))) hb) (blk_below (g := gb780) (o := .cells #[.int .i64 a0_0, .int .i64 a0_1, .slice A0_2 l0_2.length c0_2] 44 (0, 0)) (fp BK780 rfl) hb) (blk_below (g := gb794) (o := .cells #[.int .i64 t789, .int .i64 t790, .slice Ao25 t791.length co25] 48 (0, 0)) (fp BK794 rfl) hb) (bs HB hb) ?_; clear HO786 HO793 BK780 BK794 HB; intro HO786 HO793 BK780 BK794 HB; (try clear hb); (try clear hb2); (try clear hk); (try clear hi)))
  (try simp only [Act.put, za_, zb_, zc_])
  go_cut [38] (fun v38 wc => ∃ (kq : Nat) (x38_11 : Bool), v38 = .bool x38_11 ∧ Aside0 (laws_FnExactEndNumber.j0 kq x38_11 a0_0 a0_1 l0_2 t789 t790 t791 = some r) ∧ Aside0 (kq ≤ k) ∧ Aside0 (Kd.R k78 78 wc w.heap.size (fun _ => True) (.slice Ao25 t791.length co25) t791) ∧ Aside0 (wc.heap[gb780]? = some (.cells #[.int .i64 a0_0, .int .i64 a0_1, (.slice A0_2 l0_2.length c0_2)] 44 (0, 0))) ∧ Aside0 (wc.heap[gb794]? = some (.cells #[.int .i64 t789, .int .i64 t790, (.slice Ao25 t791.length co25)] 48 (0, 0))) ∧ Aside0 (Below w.heap.size w wc))
  case first =>
   have H := HC12.out
   clear HC12
   by_cases c27 : t795 = t787
   ·rw [if_pos c27] at H
    have c27b0 : (t795 == t787) = true := beq_iff_eq.mpr c27
    have c27b1 : (t795 != t787) = false := bne_eq_false_iff_eq.mpr c27
    clear c27
    (first | rw [c27b0] | (simp only [i64_w, i32_w]; rw [c27b0]) | skip)
    have H' := Aside0.mk H
    clear H
    go_wp2
    go_meet
    case rel => exact ⟨_, ((t796 != t788)), (by first | rfl | (simp; done) | (simp [*]; done)), H', ⟨by first | omega | exact Nat.le_refl _⟩, ⟨Kd.R_mv (Kd.R_mono (ok' := fun k_ => True) HO793.out (fun _ hk => trivial))⟩, ⟨km_ BK780⟩, ⟨km_ BK794⟩, ⟨bm HB⟩⟩
   ·rw [if_neg c27] at H
    have c27b0 : (t795 == t787) = false := beq_eq_false_iff_ne.mpr c27
    have c27b1 : (t795 != t787) = true := bne_iff_ne.mpr c27
    (first | rw [c27b0] | (simp only [i64_w, i32_w]; rw [c27b0]) | skip)
    have H' := Aside0.mk H
    clear H
    go_wp2
    go_meet
    case rel => exact ⟨_, (true), (by first | rfl | (simp; done) | (simp [*]; done)), H', ⟨by first | omega | exact Nat.le_refl _⟩, ⟨Kd.R_mv (Kd.R_mono (ok' := fun k_ => True) HO793.out (fun _ hk => trivial))⟩, ⟨km_ BK780⟩, ⟨km_ BK794⟩, ⟨bm HB⟩⟩
  case rest =>
   clear HC12
   try clear c2
   try clear c3
   try clear c4
   try clear c4b0
   try clear c7
   try clear c23
   try clear hcz14_0
   try clear hcz14_1
   try clear hcz14_2
   try clear hcz16_0
   try clear hcz16_1
   try clear hcz16_2
   try clear hcz20_0
   try clear hcz20_1
   try clear hcz20_2
   try clear hcz24_0
   try clear hcz24_1
   try clear hcz24_2
   try clear hfz14_0
   try clear hfz14_1
   try clear hfz14_2
   try clear hfz16_0
   try clear hfz16_1
   try clear hfz16_2
   try clear hfz20_0
   try clear hfz20_1
   try clear hfz20_2
   try clear hfz24_0
   try clear hfz24_1
   try clear hfz24_2
   obtain ⟨kq, x38_11, rfl, HA, HJ11, HO_795002, BK780, BK794, HB⟩ := hcut
   cases kq with
   | zero => exact absurd HA.out (by simp [laws_FnExactEndNumber.j0])
   | succ kj11 =>
    have H := HA.out
    clear HA
    simp only [laws_FnExactEndNumber.j0] at H
    by_cases c28 : x38_11 = true
    ·subst c28
     have H1 : (some false) = some r := by rw [if_pos rfl] at H; exact H
     clear H
     have H := H1
     clear H1
     exact absurd (H.trans (congrArg some HRT.out)) (by simp)
    ·replace c28 := Bool.eq_false_iff.mpr c28
     subst c28
     have H1 : ((laws_toBoard.f kj11 a0_0 a0_1 l0_2).bind fun bt797 => ((laws_eqBoard.f kj11 t789 t790 t791 bt797.1 bt797.2.1 bt797.2.2).bind fun t802 => (if t802 = true then (some true) else (some false)))) = some r := by rw [if_neg (show ¬ (false = true) by decide)] at H; exact H
     clear H
     have H := H1
     clear H1
     replace H := Option.bind_eq_some_iff.mp H
     obtain ⟨⟨t797, t798, t799⟩, A290, H⟩ := H
     replace H : ((laws_eqBoard.f kj11 t789 t790 t791 t797 t798 t799).bind fun t802 => (if t802 = true then (some true) else (some false))) = some r := H
     have A29 := Aside0.mk A290
     clear A290
     replace H := Option.bind_eq_some_iff.mp H
     obtain ⟨t802, A300, H⟩ := H
     replace H : (if t802 = true then (some true) else (some false)) = some r := H
     have A30 := Aside0.mk A300
     clear A300
     by_cases c31 : t802 = true
     ·subst c31
      have H1 : (some true) = some r := by rw [if_pos rfl] at H; exact H
      clear H
      have H := H1
      clear H1
      obtain rfl := Option.some.inj H
      try go_wp2
      refine ev4 (Kd.R_drew HO_795002.out) (blk_drew BK780.out) (blk_drew BK794.out) (below_drew1 HB.out) ?_
      clear HO_795002 BK780 BK794 HB
      intro HO_795002 BK780 BK794 HB
      refine start_ (n := 5) (S := fun w' => w'.cell? ⟨gb794, 0, none⟩ = some (.int .i64 t789) ∧ w'.cell? ⟨gb794, 1, none⟩ = some (.int .i64 t790) ∧ w'.cell? ⟨gb794, 2, none⟩ = some (.slice Ao25 t791.length co25) ∧ w'.cell? ⟨gb780, 0, none⟩ = some (.int .i64 a0_0) ∧ w'.cell? ⟨gb780, 1, none⟩ = some (.int .i64 a0_1) ∧ w'.cell? ⟨gb780, 2, none⟩ = some (.slice A0_2 l0_2.length c0_2)) (ds := []) #[false, false, false, false, false] (by kernel_rfl) rfl rfl ⟨(blk_cell BK794.out 0).trans rfl, (blk_cell BK794.out 1).trans rfl, (blk_cell BK794.out 2).trans rfl, (blk_cell BK780.out 0).trans rfl, (blk_cell BK780.out 1).trans rfl, (blk_cell BK780.out 2).trans rfl⟩ (fun hHeld => ?_)
      generalize wc.drew = w32 at HO_795002 BK780 BK794 HB hHeld ⊢
      refine take_ (i := 0) (N := some 39) (v := ?_) (a' := ?_) #[true, false, false, false, false] rfl rfl (by kernel_rfl) (fun _ _ _ h => h) (Or.inl ⟨by rfl, ?_⟩) hHeld ?_ ?_
      rotate_left
      ·rintro w' ⟨s0, s1, s2, s3, s4, s5⟩
       go_simp
       with_reducible rfl
      rotate_left
      ·simp only [Act.put, za_, zb_, zc_, i64_w, i32_w]
       rfl
      refine take_ (i := 1) (N := some 40) (v := ?_) (a' := ?_) #[true, true, false, false, false] rfl rfl (by kernel_rfl) (fun _ _ _ h => h) (Or.inl ⟨by rfl, ?_⟩) hHeld ?_ ?_
      rotate_left
      ·rintro w' ⟨s0, s1, s2, s3, s4, s5⟩
       go_simp
       with_reducible rfl
      rotate_left
      ·simp only [Act.put, za_, zb_, zc_, i64_w, i32_w]
       rfl
      refine one_ (i := 2) (N := some 41) #[true, true, true, false, false] rfl rfl (by kernel_rfl) (by decide) (fun K hK => ?_)
      refine goes_ Try.func32 (by kernel_rfl) rfl #[.agg #[.int .i64 a0_0, .int .i64 a0_1, .slice A0_2 l0_2.length c0_2]] (by rfl) rfl rfl (by (try simp only [ma_, mb_, mc_]); first | done | rfl | (simp only [List.length_drop, List.length_take]; rfl)) ?_
      with_reducible refine (laws_toBoard.calls kj11 a0_0 a0_1 _ _ l0_2 t797 t798 t799 _ ?side1 ?side2 A29.out).mono ?_
      (case side1 => exact Kd.C_mv (Kd.C_below HR0_2.out HB.out))
      (case side2 => exact HC0_2.out)
      rintro e w33 ⟨v800, rfl, ho0, hb⟩
      refine ⟨_, rfl, ?_⟩
      refine ev5 (Kd.R_elder' (Kd.R_mv HO_795002.out) (Kd.R_base ho0) hb) (Kd.R_lower (Kd.R_new' ho0 (Kd.R_lt (Kd.R_mv HO_795002.out))) (below_size (bm HB))) (kb BK780 hb) (kb BK794 hb) (bs HB hb) ?_
      clear HO_795002 BK780 BK794 HB
      intro HO_795002 HO801 BK780 BK794 HB
      (try clear hb)
      (try clear hb2)
      (try clear hk)
      (try clear hi)
      (try clear ho0)
      obtain ⟨Ao34, co34, eo34⟩ := Kd.R_slice HO801.out
      (first | subst eo34 | (injection eo34 with f1_ f2_ f3_; have f4_ := f1_.symm; have f5_ := f3_.symm; clear f1_ f2_ f3_; subst f4_; subst f5_))
      refine hK.out _ _ ⟨(blk_cell BK794.out 0).trans rfl, (blk_cell BK794.out 1).trans rfl, (blk_cell BK794.out 2).trans rfl, (blk_cell BK780.out 0).trans rfl, (blk_cell BK780.out 1).trans rfl, (blk_cell BK780.out 2).trans rfl⟩ (fun hHeld => ?_)
      clear hK K
      refine norm_ (a' := ?_) ?_ ?_
      rotate_left
      ·show Act.put _ (some 41) _ = _
       simp only [Act.put, za_, zb_, zc_, i64_w, i32_w]
       rfl
      refine one_ (i := 3) (N := some 42) #[true, true, true, true, false] rfl rfl (by kernel_rfl) (by decide) (fun K hK => ?_)
      refine goes_ Try.func34 (by kernel_rfl) rfl #[.agg #[.int .i64 t789, .int .i64 t790, .slice Ao25 t791.length co25], .agg #[.int .i64 t797, .int .i64 t798, .slice Ao34 t799.length co34]] (by rfl) rfl rfl (by (try simp only [ma_, mb_, mc_]); first | done | rfl | (simp only [List.length_drop, List.length_take]; rfl)) ?_
      with_reducible refine (laws_eqBoard.calls kj11 t789 t790 _ _ t791 t797 t798 _ _ t799 true _ ?side1 ?side2 ?side3 ?side4 A30.out).mono ?_
      (case side1 => exact Kd.C_mv (Kd.R_reads' HO_795002.out).2.2)
      (case side2 => exact (Kd.R_reads' HO_795002.out).2.1)
      (case side3 => exact Kd.C_mv (Kd.R_reads' HO801.out).2.2)
      (case side4 => exact (Kd.R_reads' HO801.out).2.1)
      rintro e w35 ⟨rfl, hb⟩
      refine ⟨_, rfl, ?_⟩
      refine ev5 (Kd.R_below (Kd.R_mv HO_795002.out) hb) (Kd.R_below (Kd.R_mv HO801.out) hb) (kb BK780 hb) (kb BK794 hb) (bs HB hb) ?_
      clear HO_795002 HO801 BK780 BK794 HB
      intro HO_795002 HO801 BK780 BK794 HB
      (try clear hb)
      (try clear hb2)
      (try clear hk)
      (try clear hi)
      refine hK.out _ _ ⟨(blk_cell BK794.out 0).trans rfl, (blk_cell BK794.out 1).trans rfl, (blk_cell BK794.out 2).trans rfl, (blk_cell BK780.out 0).trans rfl, (blk_cell BK780.out 1).trans rfl, (blk_cell BK780.out 2).trans rfl⟩ (fun hHeld => ?_)
      clear hK K
      refine norm_ (a' := ?_) ?_ ?_
      rotate_left
      ·show Act.put _ (some 42) _ = _
       simp only [Act.put, za_, zb_, zc_, i64_w, i32_w]
       rfl
      refine pure_ (i := 4) (N := some 43) (v := ?_) (a' := ?_) #[true, true, true, true, true] rfl rfl (by kernel_rfl) (fun _ _ _ h => h) (Or.inl ⟨by rfl, ?_⟩) ?_ ?_
      rotate_left
      ·intro w'
       go_simp
       with_reducible rfl
      rotate_left
      ·simp only [Act.put, za_, zb_, zc_, i64_w, i32_w]
       rfl
      refine done_ (by kernel_rfl) ?_
      try go_wp2
      go_ret
      exact ⟨by first | rfl | (simp [e0_, e1_] <;> rfl) | (simp [*, e0_, e1_] <;> rfl), bm HB⟩
     ·replace c31 := Bool.eq_false_iff.mpr c31
      subst c31
      have H1 : (some false) = some r := by rw [if_neg (show ¬ (false = true) by decide)] at H; exact H
      clear H
      have H := H1
      clear H1
      exact absurd (H.trans (congrArg some HRT.out)) (by simp)
end Go.Proofs.Ytjogiiobaakjkaa.F
