-- Written by a program of this session (a patched print) out of the translation; Lean checks it.
import Derived.Test.YtjogiiobaakjkaaF0
import Derived.Test.YtjogiiobaakjkaaF2
import Derived.Test.YtjogiiobaakjkaaF5
import Derived.Test.YtjogiiobaakjkaaF10
import Derived.Test.YtjogiiobaakjkaaF12
import Derived.Test.YtjogiiobaakjkaaF14
import Derived.Test.YtjogiiobaakjkaaF23
namespace Go.Proofs.Ytjogiiobaakjkaa.F
open Go.RowKit Go.Proofs.YtjogiiobaakjkaaV.PrintWords Go.Proofs.YtjogiiobaakjkaaV.PrintLast Go.Proofs.YtjogiiobaakjkaaV.PrintMore
attribute [local go_sem] max2_int min2_int max_two min_two max_three min_three max_four min_four
attribute [local go_sem] Try.underlying30 Try.underlying35 Try.underlying44 Try.underlying48 Try.underlying62 Try.underlying66 Try.underlying78 Try.underlying90 Try.underlying112
set_option linter.unusedVariables false
set_option linter.unusedSimpArgs false

/-! ### laws_szTable: function 45 -/
def laws_szTable.f (a0_0 : Int) (l0_1 : List Int) (a1 : Int) : Option (Int) := (laws_szIntS.f l0_1 a1).bind fun t1266 => (if t1266 < 0 then (some (-1)) else (some t1266))
set_option maxHeartbeats 8000000 in
set_option maxRecDepth 100000 in
theorem laws_szTable.calls (a0_0 : Int) (A0_1 : Option Addr) (c0_1 : Nat) (l0_1 : List Int) (a1 : Int) (r : Int) (w : World) (hr0_1 : Kd.C (Kd.int .i64) w A0_1 l0_1.length l0_1) (hc0_1 : l0_1.length ≤ c0_1) (h : laws_szTable.f a0_0 l0_1 a1 = some r) :
  Calls Try.prog 45 #[.agg #[.int .i64 a0_0, .slice A0_1 l0_1.length c0_1], .int .i64 a1] w fun e w' => e = .returned (.int .i64 r) ∧ Below w.heap.size w w' := by
 have HR0_1 := Aside0.mk hr0_1
 have HC0_1 := Aside0.mk hc0_1
 clear hr0_1 hc0_1
 have HB := Aside0.mk (Below.refl w.heap.size w)
 have H : ((laws_szIntS.f l0_1 a1).bind fun t1266 => (if t1266 < 0 then (some (-1)) else (some t1266))) = some r := h
 clear h
 replace H := Option.bind_eq_some_iff.mp H
 obtain ⟨t1266, A30, H⟩ := H
 replace H : (if t1266 < 0 then (some (-1)) else (some t1266)) = some r := H
 have A3 := Aside0.mk A30
 clear A30
 by_cases c4 : t1266 < 0
 ·rw [if_pos c4] at H
  have c4b0 : decide (t1266 < 0) = true := decide_eq_true c4
  clear c4
  obtain rfl := Option.some.inj H
  go_enter Try.func45, Try.ntmps45
  go_wp2_with (first | ((with_reducible refine gate_dst (N := 2) rfl ?_); refine box_event ?hg (N := 2) ?hd (cs := #[.int .i64 a0_0, .slice A0_1 l0_1.length c0_1]) (t := 62) ?hr ?_; (case hd => rfl); (case hg => rfl); (case hr => first | (go_simp; done) | (go_simp; rfl)); intro gb1265 hg w5 hbox hb; refine ev4 (bs HB hb) (hbox) (gle hg HB) (gle hg HB) ?_; clear HB; intro HB BK1265 GW1265 GE1265; clear hb hbox hg; obtain ⟨hcz6_0, hcz6_1, hfz6_0, hfz6_1⟩ := bt2 BK1265) | ((with_reducible refine gate_callee (f := 60) rfl ?_); refine goesL_ (some 8) rfl rfl Try.func60 (by kernel_rfl) rfl #[.slice A0_1 l0_1.length c0_1, .int .i64 a1] rfl (by (try simp only [ma_, mb_, mc_]); first | done | rfl | (simp only [List.length_drop, List.length_take]; rfl)) ?_; (with_reducible refine (laws_szIntS.calls _ _ l0_1 a1 t1266 _ (Kd.C_mv (Kd.C_below HR0_1.out HB.out)) HC0_1.out A3.out).mono ?_); rintro e w' ⟨rfl, ⟨nd, rfl⟩⟩; refine ⟨_, rfl, ?_⟩))
  go_ret
  exact ⟨by first | rfl | (simp [e0_, e1_] <;> rfl) | (simp [*, e0_, e1_] <;> rfl), bm HB⟩
 ·rw [if_neg c4] at H
  have c4b0 : decide (t1266 < 0) = false := decide_eq_false c4
  clear c4
  obtain rfl := Option.some.inj H
  go_enter Try.func45, Try.ntmps45
  go_wp2_with (first | ((with_reducible refine gate_dst (N := 2) rfl ?_); refine box_event ?hg (N := 2) ?hd (cs := #[.int .i64 a0_0, .slice A0_1 l0_1.length c0_1]) (t := 62) ?hr ?_; (case hd => rfl); (case hg => rfl); (case hr => first | (go_simp; done) | (go_simp; rfl)); intro gb1265 hg w7 hbox hb; refine ev4 (bs HB hb) (hbox) (gle hg HB) (gle hg HB) ?_; clear HB; intro HB BK1265 GW1265 GE1265; clear hb hbox hg; obtain ⟨hcz8_0, hcz8_1, hfz8_0, hfz8_1⟩ := bt2 BK1265) | ((with_reducible refine gate_callee (f := 60) rfl ?_); refine goesL_ (some 8) rfl rfl Try.func60 (by kernel_rfl) rfl #[.slice A0_1 l0_1.length c0_1, .int .i64 a1] rfl (by (try simp only [ma_, mb_, mc_]); first | done | rfl | (simp only [List.length_drop, List.length_take]; rfl)) ?_; (with_reducible refine (laws_szIntS.calls _ _ l0_1 a1 t1266 _ (Kd.C_mv (Kd.C_below HR0_1.out HB.out)) HC0_1.out A3.out).mono ?_); rintro e w' ⟨rfl, ⟨nd, rfl⟩⟩; refine ⟨_, rfl, ?_⟩))
  go_ret
  exact ⟨by first | rfl | (simp [e0_, e1_] <;> rfl) | (simp [*, e0_, e1_] <;> rfl), bm HB⟩

/-! ### spec_ttInputs: function 139 -/
def spec_ttInputs.f (a0 : Int) : Option (Bool) := (spec_l1In.f a0 0 4).bind fun t1272 => (some t1272)
set_option maxHeartbeats 8000000 in
set_option maxRecDepth 100000 in
theorem spec_ttInputs.calls (a0 : Int) (r : Bool) (w : World) (h : spec_ttInputs.f a0 = some r) :
  Calls Try.prog 139 #[.int .i64 a0] w fun e w' => e = .returned (.bool r) ∧ Drawn0 w w' := by
 have H : ((spec_l1In.f a0 0 4).bind fun t1272 => (some t1272)) = some r := h
 clear h
 replace H := Option.bind_eq_some_iff.mp H
 obtain ⟨t1272, A20, H⟩ := H
 replace H : (some t1272) = some r := H
 have A2 := Aside0.mk A20
 clear A20
 obtain rfl := Option.some.inj H
 go_enter Try.func139, Try.ntmps139
 go_wp2_with (first | ((with_reducible refine gate_callee (f := 81) rfl ?_); refine goesL_ (some 4) rfl rfl Try.func81 (by kernel_rfl) rfl #[.int .i64 a0, .int .i64 0, .int .i64 4] rfl (by (try simp only [ma_, mb_, mc_]); first | done | rfl | (simp only [List.length_drop, List.length_take]; rfl)) ?_; (with_reducible refine (spec_l1In.calls a0 0 4 t1272 _ A2.out).mono ?_); rintro e w' ⟨rfl, ⟨nd, rfl⟩⟩; refine ⟨_, rfl, ?_⟩))
 go_ret
 exact ⟨by first | rfl | (simp; done) | (simp [*]; done), by repeat (first | exact Drawn0.refl _ | apply Drawn0.step)⟩

/-! ### spec_ttGood: function 121 -/
def spec_ttGood.f (k : Nat) (a0_0 : Int) (l0_1 : List Int) : Option (Bool) := (spec_ttInputs.f a0_0).bind fun t1274 => (if t1274 = true then (if 0 ≤ (IntKind.u64.wrap (a0_0)) then (if (l0_1.length : Int) = (shl .i64 1 (IntKind.u64.wrap (a0_0))) then ((spec_l1All.f k l0_1 0 1).bind fun t1275 => (some t1275)) else (some false)) else (none)) else (some false))
set_option maxHeartbeats 8000000 in
set_option maxRecDepth 100000 in
theorem spec_ttGood.calls (k : Nat) (a0_0 : Int) (A0_1 : Option Addr) (c0_1 : Nat) (l0_1 : List Int) (r : Bool) (w : World) (hr0_1 : Kd.C (Kd.int .i64) w A0_1 l0_1.length l0_1) (hc0_1 : l0_1.length ≤ c0_1) (h : spec_ttGood.f k a0_0 l0_1 = some r) :
  Calls Try.prog 121 #[.agg #[.int .i64 a0_0, .slice A0_1 l0_1.length c0_1]] w fun e w' => e = .returned (.bool r) ∧ Below w.heap.size w w' := by
 have HR0_1 := Aside0.mk hr0_1
 have HC0_1 := Aside0.mk hc0_1
 clear hr0_1 hc0_1
 have HB := Aside0.mk (Below.refl w.heap.size w)
 have H : ((spec_ttInputs.f a0_0).bind fun t1274 => (if t1274 = true then (if 0 ≤ (IntKind.u64.wrap (a0_0)) then (if (l0_1.length : Int) = (shl .i64 1 (IntKind.u64.wrap (a0_0))) then ((spec_l1All.f k l0_1 0 1).bind fun t1275 => (some t1275)) else (some false)) else (none)) else (some false))) = some r := h
 clear h
 replace H := Option.bind_eq_some_iff.mp H
 obtain ⟨t1274, A20, H⟩ := H
 replace H : (if t1274 = true then (if 0 ≤ (IntKind.u64.wrap (a0_0)) then (if (l0_1.length : Int) = (shl .i64 1 (IntKind.u64.wrap (a0_0))) then ((spec_l1All.f k l0_1 0 1).bind fun t1275 => (some t1275)) else (some false)) else (none)) else (some false)) = some r := H
 have A2 := Aside0.mk A20
 clear A20
 by_cases c3 : t1274 = true
 ·subst c3
  have H1 : (if 0 ≤ (IntKind.u64.wrap (a0_0)) then (if (l0_1.length : Int) = (shl .i64 1 (IntKind.u64.wrap (a0_0))) then ((spec_l1All.f k l0_1 0 1).bind fun t1275 => (some t1275)) else (some false)) else (none)) = some r := by rw [if_pos rfl] at H; exact H
  clear H
  have H := H1
  clear H1
  obtain ⟨ji4, hji4⟩ : ∃ j_ : Int, (IntKind.u64.wrap (a0_0)) = j_ := ⟨_, rfl⟩
  replace H : (if 0 ≤ (ji4) then (if (l0_1.length : Int) = (shl .i64 1 (ji4)) then ((spec_l1All.f k l0_1 0 1).bind fun t1275 => (some t1275)) else (some false)) else (none)) = some r := by first | (rw [hji4] at H; exact H) | (simp only [hji4] at H ⊢; exact H)
  (try rw [hji4] at A2)
  by_cases c5 : 0 ≤ (ji4)
  ·rw [if_pos c5] at H
   have c5b0 := eq_true c5
   have c5b1 : decide (0 ≤ (ji4)) = true := decide_eq_true c5
   clear c5
   obtain ⟨ji6, hji6⟩ : ∃ j_ : Int, (shl .i64 1 (ji4)) = j_ := ⟨_, rfl⟩
   replace H : (if (l0_1.length : Int) = (ji6) then ((spec_l1All.f k l0_1 0 1).bind fun t1275 => (some t1275)) else (some false)) = some r := by first | (rw [hji6] at H; exact H) | (simp only [hji6] at H ⊢; exact H)
   (try rw [hji6] at A2)
   have hji6_ : (IntKind.i64.wrap (1 * 2 ^ min (ji4).toNat 64)) = ji6 := hji6
   have hji6z : (ji4) ≤ 64 → (IntKind.i64.wrap (1 * 2 ^ (ji4).toNat)) = ji6 := shl_small hji6
   have hji6u : (IntKind.i64.wrap (2 ^ min (ji4).toNat 64)) = ji6 := by have h_ := hji6_; rw [Int.one_mul] at h_; exact h_
   have hji6v : (ji4) ≤ 64 → (IntKind.i64.wrap (2 ^ (ji4).toNat)) = ji6 := fun hle_ => by have h_ := hji6z hle_; rw [Int.one_mul] at h_; exact h_
   have hji6y : (wrap64 (1 * 2 ^ min (ji4).toNat 64)) = ji6 := (i64_w _).symm.trans hji6_
   have hji6x : (ji4) ≤ 64 → (wrap64 (1 * 2 ^ (ji4).toNat)) = ji6 := fun h_ => (i64_w _).symm.trans (hji6z h_)
   by_cases c7 : (l0_1.length : Int) = (ji6)
   ·rw [if_pos c7] at H
    have c7b0 : ((l0_1.length : Int) == (ji6)) = true := beq_iff_eq.mpr c7
    have c7b1 : ((l0_1.length : Int) != (ji6)) = false := bne_eq_false_iff_eq.mpr c7
    clear c7
    replace H := Option.bind_eq_some_iff.mp H
    obtain ⟨t1275, A80, H⟩ := H
    replace H : (some t1275) = some r := H
    have A8 := Aside0.mk A80
    clear A80
    obtain rfl := Option.some.inj H
    go_enter Try.func121, Try.ntmps121
    go_wp2_with (first | ((with_reducible refine gate_dst (N := 1) rfl ?_); refine box_event ?hg (N := 1) ?hd (cs := #[.int .i64 a0_0, .slice A0_1 l0_1.length c0_1]) (t := 66) ?hr ?_; (case hd => rfl); (case hg => rfl); (case hr => first | (go_simp; done) | (go_simp; rfl)); intro gb1273 hg w9 hbox hb; refine ev4 (bs HB hb) (hbox) (gle hg HB) (gle hg HB) ?_; clear HB; intro HB BK1273 GW1273 GE1273; clear hb hbox hg; obtain ⟨hcz10_0, hcz10_1, hfz10_0, hfz10_1⟩ := bt2 BK1273) | ((with_reducible refine gate_callee (f := 139) rfl ?_); refine goesL_ (some 5) rfl rfl Try.func139 (by kernel_rfl) rfl #[.int .i64 a0_0] rfl (by (try simp only [ma_, mb_, mc_]); first | done | rfl | (simp only [List.length_drop, List.length_take]; rfl)) ?_; (with_reducible refine (spec_ttInputs.calls a0_0 true _ A2.out).mono ?_); rintro e w' ⟨rfl, ⟨nd, rfl⟩⟩; refine ⟨_, rfl, ?_⟩) | (go_at_call 56; (with_reducible refine (spec_l1All.calls k _ _ l0_1 0 1 t1275 _ (Kd.C_below HR0_1.out (bm HB)) HC0_1.out A8.out).mono ?_); rintro e w' ⟨rfl, ⟨nd, rfl⟩⟩))
    go_ret
    exact ⟨by first | rfl | (simp [e0_, e1_] <;> rfl) | (simp only [← hji4, ← hji6]; first | rfl | (simp [e0_, e1_] <;> rfl)) | (simp [*, e0_, e1_] <;> rfl), bm HB⟩
   ·rw [if_neg c7] at H
    have c7b0 : ((l0_1.length : Int) == (ji6)) = false := beq_eq_false_iff_ne.mpr c7
    have c7b1 : ((l0_1.length : Int) != (ji6)) = true := bne_iff_ne.mpr c7
    obtain rfl := Option.some.inj H
    go_enter Try.func121, Try.ntmps121
    go_wp2_with (first | ((with_reducible refine gate_dst (N := 1) rfl ?_); refine box_event ?hg (N := 1) ?hd (cs := #[.int .i64 a0_0, .slice A0_1 l0_1.length c0_1]) (t := 66) ?hr ?_; (case hd => rfl); (case hg => rfl); (case hr => first | (go_simp; done) | (go_simp; rfl)); intro gb1273 hg w11 hbox hb; refine ev4 (bs HB hb) (hbox) (gle hg HB) (gle hg HB) ?_; clear HB; intro HB BK1273 GW1273 GE1273; clear hb hbox hg; obtain ⟨hcz12_0, hcz12_1, hfz12_0, hfz12_1⟩ := bt2 BK1273) | ((with_reducible refine gate_callee (f := 139) rfl ?_); refine goesL_ (some 5) rfl rfl Try.func139 (by kernel_rfl) rfl #[.int .i64 a0_0] rfl (by (try simp only [ma_, mb_, mc_]); first | done | rfl | (simp only [List.length_drop, List.length_take]; rfl)) ?_; (with_reducible refine (spec_ttInputs.calls a0_0 true _ A2.out).mono ?_); rintro e w' ⟨rfl, ⟨nd, rfl⟩⟩; refine ⟨_, rfl, ?_⟩))
    go_ret
    exact ⟨by first | rfl | (simp [e0_, e1_] <;> rfl) | (simp only [← hji4, ← hji6]; first | rfl | (simp [e0_, e1_] <;> rfl)) | (simp [*, e0_, e1_] <;> rfl), bm HB⟩
  ·rw [if_neg c5] at H
   exact absurd H (by simp)
 ·replace c3 := Bool.eq_false_iff.mpr c3
  subst c3
  have H1 : (some false) = some r := by rw [if_neg (show ¬ (false = true) by decide)] at H; exact H
  clear H
  have H := H1
  clear H1
  obtain rfl := Option.some.inj H
  go_enter Try.func121, Try.ntmps121
  go_wp2_with (first | ((with_reducible refine gate_dst (N := 1) rfl ?_); refine box_event ?hg (N := 1) ?hd (cs := #[.int .i64 a0_0, .slice A0_1 l0_1.length c0_1]) (t := 66) ?hr ?_; (case hd => rfl); (case hg => rfl); (case hr => first | (go_simp; done) | (go_simp; rfl)); intro gb1273 hg w13 hbox hb; refine ev4 (bs HB hb) (hbox) (gle hg HB) (gle hg HB) ?_; clear HB; intro HB BK1273 GW1273 GE1273; clear hb hbox hg; obtain ⟨hcz14_0, hcz14_1, hfz14_0, hfz14_1⟩ := bt2 BK1273) | ((with_reducible refine gate_callee (f := 139) rfl ?_); refine goesL_ (some 5) rfl rfl Try.func139 (by kernel_rfl) rfl #[.int .i64 a0_0] rfl (by (try simp only [ma_, mb_, mc_]); first | done | rfl | (simp only [List.length_drop, List.length_take]; rfl)) ?_; (with_reducible refine (spec_ttInputs.calls a0_0 false _ A2.out).mono ?_); rintro e w' ⟨rfl, ⟨nd, rfl⟩⟩; refine ⟨_, rfl, ?_⟩))
  go_ret
  exact ⟨by first | rfl | (simp [e0_, e1_] <;> rfl) | (simp [*, e0_, e1_] <;> rfl), bm HB⟩

/-! ### spec_vfTable: function 90 -/
def spec_vfTable.f (k : Nat) (a0_0 : Int) (a0_1 : Int) (l0_2 : List (S78)) (a1 : Int) (a2_0 : Int) (l2_1 : List Int) : Option (Bool) := (spec_vfAsked.f k a0_0 a0_1 l0_2 a1).bind fun t1278 => (if t1278 = true then ((spec_ttGood.f k a2_0 l2_1).bind fun t1279 => (if t1279 = true then ((spec_vfInputs.f k a0_0 a0_1 l0_2).bind fun t1280 => (some (a2_0 == t1280))) else (some false))) else (some false))
def spec_vfTable.T1 : Bool × List (List Nat × List Nat) := (true, [([], []), ([], []), ([0, 1], [0, 1]), ([2, 2], [2]), ([3], [3]), ([4, 3, 3], [3, 4]), ([3, 5], [3, 5]), ([6, 5], [6]), ([7], [7]), ([8, 7], [7, 8]), ([7], [7]), ([10, 7, 7], [7, 10]), ([9, 11, 7], [7, 9, 11]), ([7, 12], [7, 12]), ([13, 11, 0, 1, 2, 3, 4, 5, 6, 7, 8, 9, 10, 11, 12, 13], [13])])
def spec_vfTable.B1 : List Nat := [0, 0, 3, 7, 15, 31, 63, 127, 255, 511, 255, 1279, 4095, 8191, 16383]
theorem spec_vfTable.tab1 : rtab .any (opsOf Try.f90 1) = spec_vfTable.T1 := by kernel_rfl
theorem spec_vfTable.bits1 : waitsOk spec_vfTable.T1.2 spec_vfTable.B1 = true := by kernel_rfl
set_option maxHeartbeats 8000000 in
set_option maxRecDepth 100000 in
theorem spec_vfTable.calls (k : Nat) (a0_0 : Int) (a0_1 : Int) (A0_2 : Option Addr) (c0_2 : Nat) (l0_2 : List (S78)) (a1 : Int) (a2_0 : Int) (A2_1 : Option Addr) (c2_1 : Nat) (l2_1 : List Int) (r : Bool) (w : World) (hr0_2 : Kd.C k78 w A0_2 l0_2.length l0_2) (hc0_2 : l0_2.length ≤ c0_2) (hr2_1 : Kd.C (Kd.int .i64) w A2_1 l2_1.length l2_1) (hc2_1 : l2_1.length ≤ c2_1) (h : spec_vfTable.f k a0_0 a0_1 l0_2 a1 a2_0 l2_1 = some r) :
  Calls Try.prog 90 #[.agg #[.int .i64 a0_0, .int .i64 a0_1, .slice A0_2 l0_2.length c0_2], .int .i64 a1, .agg #[.int .i64 a2_0, .slice A2_1 l2_1.length c2_1]] w fun e w' => e = .returned (.bool r) ∧ Below w.heap.size w w' := by
 have HR0_2 := Aside0.mk hr0_2
 have HC0_2 := Aside0.mk hc0_2
 clear hr0_2 hc0_2
 have HR2_1 := Aside0.mk hr2_1
 have HC2_1 := Aside0.mk hc2_1
 clear hr2_1 hc2_1
 have HB := Aside0.mk (Below.refl w.heap.size w)
 have H : ((spec_vfAsked.f k a0_0 a0_1 l0_2 a1).bind fun t1278 => (if t1278 = true then ((spec_ttGood.f k a2_0 l2_1).bind fun t1279 => (if t1279 = true then ((spec_vfInputs.f k a0_0 a0_1 l0_2).bind fun t1280 => (some (a2_0 == t1280))) else (some false))) else (some false))) = some r := h
 clear h
 replace H := Option.bind_eq_some_iff.mp H
 obtain ⟨t1278, A40, H⟩ := H
 replace H : (if t1278 = true then ((spec_ttGood.f k a2_0 l2_1).bind fun t1279 => (if t1279 = true then ((spec_vfInputs.f k a0_0 a0_1 l0_2).bind fun t1280 => (some (a2_0 == t1280))) else (some false))) else (some false)) = some r := H
 have A4 := Aside0.mk A40
 clear A40
 by_cases c5 : t1278 = true
 ·subst c5
  have H1 : ((spec_ttGood.f k a2_0 l2_1).bind fun t1279 => (if t1279 = true then ((spec_vfInputs.f k a0_0 a0_1 l0_2).bind fun t1280 => (some (a2_0 == t1280))) else (some false))) = some r := by rw [if_pos rfl] at H; exact H
  clear H
  have H := H1
  clear H1
  replace H := Option.bind_eq_some_iff.mp H
  obtain ⟨t1279, A60, H⟩ := H
  replace H : (if t1279 = true then ((spec_vfInputs.f k a0_0 a0_1 l0_2).bind fun t1280 => (some (a2_0 == t1280))) else (some false)) = some r := H
  have A6 := Aside0.mk A60
  clear A60
  by_cases c7 : t1279 = true
  ·subst c7
   have H1 : ((spec_vfInputs.f k a0_0 a0_1 l0_2).bind fun t1280 => (some (a2_0 == t1280))) = some r := by rw [if_pos rfl] at H; exact H
   clear H
   have H := H1
   clear H1
   replace H := Option.bind_eq_some_iff.mp H
   obtain ⟨t1280, A80, H⟩ := H
   replace H : (some (a2_0 == t1280)) = some r := H
   have A8 := Aside0.mk A80
   clear A80
   obtain rfl := Option.some.inj H
   go_enter Try.func90, Try.ntmps90
   try go_wp2_with (first | ((with_reducible refine gate_dst (N := 3) rfl ?_); refine box_event ?hg (N := 3) ?hd (cs := #[.int .i64 a0_0, .int .i64 a0_1, .slice A0_2 l0_2.length c0_2]) (t := 48) ?hr ?_; (case hd => rfl); (case hg => rfl); (case hr => first | (go_simp; done) | (go_simp; rfl)); intro gb1276 hg w9 hbox hb; refine ev4 (bs HB hb) (hbox) (gle hg HB) (gle hg HB) ?_; clear HB; intro HB BK1276 GW1276 GE1276; clear hb hbox hg) | ((with_reducible refine gate_dst (N := 5) rfl ?_); refine box_event ?hg (N := 5) ?hd (cs := #[.int .i64 a2_0, .slice A2_1 l2_1.length c2_1]) (t := 66) ?hr ?_; (case hd => rfl); (case hg => rfl); (case hr => first | (go_simp; done) | (go_simp; rfl)); intro gb1277 hg w10 hbox hb; refine ev7 (kb BK1276 hb) (bs HB hb) (hbox) (gle hg HB) (gle hg HB) (gnf hg BK1276) (gne hg BK1276) ?_; clear BK1276 HB; intro BK1276 HB BK1277 GW1277 GE1277 NB1276_1277 NB1277_1276; clear hb hbox hg))
   refine ev3 (blk_drew BK1276.out) (blk_drew BK1277.out) (below_drew1 HB.out) ?_
   clear BK1276 BK1277 HB
   intro BK1276 BK1277 HB
   refine start_ (n := 15) (S := fun w' => w'.cell? ⟨gb1276, 0, none⟩ = some (.int .i64 a0_0) ∧ w'.cell? ⟨gb1276, 1, none⟩ = some (.int .i64 a0_1) ∧ w'.cell? ⟨gb1276, 2, none⟩ = some (.slice A0_2 l0_2.length c0_2) ∧ w'.cell? ⟨gb1277, 0, none⟩ = some (.int .i64 a2_0) ∧ w'.cell? ⟨gb1277, 1, none⟩ = some (.slice A2_1 l2_1.length c2_1)) (ds := []) #[false, false, false, false, false, false, false, false, false, false, false, false, false, false, false] (by kernel_rfl) rfl rfl ⟨(blk_cell BK1276.out 0).trans rfl, (blk_cell BK1276.out 1).trans rfl, (blk_cell BK1276.out 2).trans rfl, (blk_cell BK1277.out 0).trans rfl, (blk_cell BK1277.out 1).trans rfl⟩ (fun hHeld => ?_); refine with_tabW spec_vfTable.tab1 spec_vfTable.bits1 (fun HT_ HW_ => ?_)
   generalize w10.drew = w11 at BK1276 BK1277 HB hHeld ⊢
   refine pure_ (i := 1) (N := some 8) (v := ?_) (a' := ?_) #[false, true, false, false, false, false, false, false, false, false, false, false, false, false, false] rfl rfl (any_of HT_.out (by kernel_rfl)) (fun _ _ _ h => h) (Or.inl ⟨by rfl, ?_⟩) ?_ ?_
   rotate_left
   ·intro w'
    go_simp
    with_reducible rfl
   rotate_left
   ·simp only [Act.put, za_, zb_, zc_, i64_w, i32_w]
    rfl
   refine take_ (i := 0) (N := some 7) (v := ?_) (a' := ?_) #[true, true, false, false, false, false, false, false, false, false, false, false, false, false, false] rfl rfl (take_ofW HT_.out HW_.out (by kernel_rfl)) (fun _ _ _ h => h) (Or.inl ⟨by rfl, ?_⟩) hHeld ?_ ?_
   rotate_left
   ·rintro w' ⟨s0, s1, s2, s3, s4⟩
    go_simp
    with_reducible rfl
   rotate_left
   ·simp only [Act.put, za_, zb_, zc_, i64_w, i32_w]
    rfl
   refine one_ (i := 2) (N := some 9) #[true, true, true, false, false, false, false, false, false, false, false, false, false, false, false] rfl rfl (one_of HT_.out (by kernel_rfl)) (by decide) (fun K hK => ?_)
   refine goes_ Try.func98 (by kernel_rfl) rfl #[.agg #[.int .i64 a0_0, .int .i64 a0_1, .slice A0_2 l0_2.length c0_2], .int .i64 a1] (by rfl) rfl rfl (by (try simp only [ma_, mb_, mc_]); first | done | rfl | (simp only [List.length_drop, List.length_take]; rfl)) ?_
   with_reducible refine (spec_vfAsked.calls k a0_0 a0_1 _ _ l0_2 a1 true _ ?side1 ?side2 A4.out).mono ?_
   (case side1 => exact Kd.C_mv (Kd.C_below HR0_2.out HB.out))
   (case side2 => exact HC0_2.out)
   rintro e w12 ⟨rfl, hb⟩
   refine ⟨_, rfl, ?_⟩
   refine ev3 (kb BK1276 hb) (kb BK1277 hb) (bs HB hb) ?_
   clear BK1276 BK1277 HB
   intro BK1276 BK1277 HB
   (try clear hb)
   (try clear hb2)
   (try clear hk)
   (try clear hi)
   refine hK.out _ _ ⟨(blk_cell BK1276.out 0).trans rfl, (blk_cell BK1276.out 1).trans rfl, (blk_cell BK1276.out 2).trans rfl, (blk_cell BK1277.out 0).trans rfl, (blk_cell BK1277.out 1).trans rfl⟩ (fun hHeld => ?_)
   clear hK K
   refine norm_ (a' := ?_) ?_ ?_
   rotate_left
   ·show Act.put _ (some 9) _ = _
    simp only [Act.put, za_, zb_, zc_, i64_w, i32_w]
    rfl
   refine pure_ (i := 3) (N := some 10) (v := ?_) (a' := ?_) #[true, true, true, true, false, false, false, false, false, false, false, false, false, false, false] rfl rfl (any_of HT_.out (by kernel_rfl)) (fun _ _ _ h => h) (Or.inl ⟨by rfl, ?_⟩) ?_ ?_
   rotate_left
   ·intro w'
    go_simp
    with_reducible rfl
   rotate_left
   ·simp only [Act.put, za_, zb_, zc_, i64_w, i32_w]
    rfl
   refine take_ (i := 4) (N := some 11) (v := ?_) (a' := ?_) #[true, true, true, true, true, false, false, false, false, false, false, false, false, false, false] rfl rfl (take_ofW HT_.out HW_.out (by kernel_rfl)) (fun _ _ _ h => h) (Or.inl ⟨by rfl, ?_⟩) hHeld ?_ ?_
   rotate_left
   ·rintro w' ⟨s0, s1, s2, s3, s4⟩
    go_simp
    with_reducible rfl
   rotate_left
   ·simp only [Act.put, za_, zb_, zc_, i64_w, i32_w]
    rfl
   refine one_ (i := 5) (N := some 12) #[true, true, true, true, true, true, false, false, false, false, false, false, false, false, false] rfl rfl (one_of HT_.out (by kernel_rfl)) (by decide) (fun K hK => ?_)
   refine goes_ Try.func121 (by kernel_rfl) rfl #[.agg #[.int .i64 a2_0, .slice A2_1 l2_1.length c2_1]] (by rfl) rfl rfl (by (try simp only [ma_, mb_, mc_]); first | done | rfl | (simp only [List.length_drop, List.length_take]; rfl)) ?_
   with_reducible refine (spec_ttGood.calls k a2_0 _ _ l2_1 true _ ?side1 ?side2 A6.out).mono ?_
   (case side1 => exact Kd.C_mv (Kd.C_below HR2_1.out HB.out))
   (case side2 => exact HC2_1.out)
   rintro e w13 ⟨rfl, hb⟩
   refine ⟨_, rfl, ?_⟩
   refine ev3 (kb BK1276 hb) (kb BK1277 hb) (bs HB hb) ?_
   clear BK1276 BK1277 HB
   intro BK1276 BK1277 HB
   (try clear hb)
   (try clear hb2)
   (try clear hk)
   (try clear hi)
   refine hK.out _ _ ⟨(blk_cell BK1276.out 0).trans rfl, (blk_cell BK1276.out 1).trans rfl, (blk_cell BK1276.out 2).trans rfl, (blk_cell BK1277.out 0).trans rfl, (blk_cell BK1277.out 1).trans rfl⟩ (fun hHeld => ?_)
   clear hK K
   refine norm_ (a' := ?_) ?_ ?_
   rotate_left
   ·show Act.put _ (some 12) _ = _
    simp only [Act.put, za_, zb_, zc_, i64_w, i32_w]
    rfl
   refine pure_ (i := 6) (N := some 13) (v := ?_) (a' := ?_) #[true, true, true, true, true, true, true, false, false, false, false, false, false, false, false] rfl rfl (any_of HT_.out (by kernel_rfl)) (fun _ _ _ h => h) (Or.inl ⟨by rfl, ?_⟩) ?_ ?_
   rotate_left
   ·intro w'
    go_simp
    with_reducible rfl
   rotate_left
   ·simp only [Act.put, za_, zb_, zc_, i64_w, i32_w]
    rfl
   refine pure_ (i := 7) (N := some 14) (v := ?_) (a' := ?_) #[true, true, true, true, true, true, true, true, false, false, false, false, false, false, false] rfl rfl (any_of HT_.out (by kernel_rfl)) (fun _ _ _ h => h) (Or.inl ⟨by rfl, ?_⟩) ?_ ?_
   rotate_left
   ·intro w'
    go_simp
    with_reducible rfl
   rotate_left
   ·simp only [Act.put, za_, zb_, zc_, i64_w, i32_w]
    rfl
   refine pure_ (i := 8) (N := some 15) (v := ?_) (a' := ?_) #[true, true, true, true, true, true, true, true, true, false, false, false, false, false, false] rfl rfl (any_of HT_.out (by kernel_rfl)) (fun _ _ _ h => h) (Or.inl ⟨by rfl, ?_⟩) ?_ ?_
   rotate_left
   ·intro w'
    go_simp
    with_reducible rfl
   rotate_left
   ·simp only [Act.put, za_, zb_, zc_, i64_w, i32_w]
    rfl
   refine take_ (i := 9) (N := some 16) (v := ?_) (a' := ?_) #[true, true, true, true, true, true, true, true, true, true, false, false, false, false, false] rfl rfl (take_ofW HT_.out HW_.out (by kernel_rfl)) (fun _ _ _ h => h) (Or.inl ⟨by rfl, ?_⟩) hHeld ?_ ?_
   rotate_left
   ·rintro w' ⟨s0, s1, s2, s3, s4⟩
    go_simp
    with_reducible rfl
   rotate_left
   ·simp only [Act.put, za_, zb_, zc_, i64_w, i32_w]
    rfl
   refine take_ (i := 10) (N := some 17) (v := ?_) (a' := ?_) #[true, true, true, true, true, true, true, true, true, true, true, false, false, false, false] rfl rfl (take_ofW HT_.out HW_.out (by kernel_rfl)) (fun _ _ _ h => h) (Or.inl ⟨by rfl, ?_⟩) hHeld ?_ ?_
   rotate_left
   ·rintro w' ⟨s0, s1, s2, s3, s4⟩
    go_simp
    with_reducible rfl
   rotate_left
   ·simp only [Act.put, za_, zb_, zc_, i64_w, i32_w]
    rfl
   refine one_ (i := 11) (N := some 18) #[true, true, true, true, true, true, true, true, true, true, true, true, false, false, false] rfl rfl (one_of HT_.out (by kernel_rfl)) (by decide) (fun K hK => ?_)
   refine goes_ Try.func122 (by kernel_rfl) rfl #[.agg #[.int .i64 a0_0, .int .i64 a0_1, .slice A0_2 l0_2.length c0_2]] (by rfl) rfl rfl (by (try simp only [ma_, mb_, mc_]); first | done | rfl | (simp only [List.length_drop, List.length_take]; rfl)) ?_
   with_reducible refine (spec_vfInputs.calls k a0_0 a0_1 _ _ l0_2 t1280 _ ?side1 ?side2 A8.out).mono ?_
   (case side1 => exact Kd.C_mv (Kd.C_below HR0_2.out HB.out))
   (case side2 => exact HC0_2.out)
   rintro e w14 ⟨rfl, hb⟩
   refine ⟨_, rfl, ?_⟩
   refine ev3 (kb BK1276 hb) (kb BK1277 hb) (bs HB hb) ?_
   clear BK1276 BK1277 HB
   intro BK1276 BK1277 HB
   (try clear hb)
   (try clear hb2)
   (try clear hk)
   (try clear hi)
   refine hK.out _ _ ⟨(blk_cell BK1276.out 0).trans rfl, (blk_cell BK1276.out 1).trans rfl, (blk_cell BK1276.out 2).trans rfl, (blk_cell BK1277.out 0).trans rfl, (blk_cell BK1277.out 1).trans rfl⟩ (fun hHeld => ?_)
   clear hK K
   refine norm_ (a' := ?_) ?_ ?_
   rotate_left
   ·show Act.put _ (some 18) _ = _
    simp only [Act.put, za_, zb_, zc_, i64_w, i32_w]
    rfl
   refine pure_ (i := 12) (N := some 19) (v := ?_) (a' := ?_) #[true, true, true, true, true, true, true, true, true, true, true, true, true, false, false] rfl rfl (any_of HT_.out (by kernel_rfl)) (fun _ _ _ h => h) (Or.inl ⟨by rfl, ?_⟩) ?_ ?_
   rotate_left
   ·intro w'
    go_simp
    with_reducible rfl
   rotate_left
   ·simp only [Act.put, za_, zb_, zc_, i64_w, i32_w]
    rfl
   refine pure_ (i := 13) (N := some 20) (v := ?_) (a' := ?_) #[true, true, true, true, true, true, true, true, true, true, true, true, true, true, false] rfl rfl (any_of HT_.out (by kernel_rfl)) (fun _ _ _ h => h) (Or.inl ⟨by rfl, ?_⟩) ?_ ?_
   rotate_left
   ·intro w'
    go_simp
    with_reducible rfl
   rotate_left
   ·simp only [Act.put, za_, zb_, zc_, i64_w, i32_w]
    rfl
   refine pure_ (i := 14) (N := some 6) (v := ?_) (a' := ?_) #[true, true, true, true, true, true, true, true, true, true, true, true, true, true, true] rfl rfl (any_of HT_.out (by kernel_rfl)) (fun _ _ _ h => h) (Or.inl ⟨by rfl, ?_⟩) ?_ ?_
   rotate_left
   ·intro w'
    go_simp
    with_reducible rfl
   rotate_left
   ·simp only [Act.put, za_, zb_, zc_, i64_w, i32_w]
    rfl
   refine done_ (done_of HT_.out (by kernel_rfl)) ?_
   try go_wp2
   go_ret
   exact ⟨by first | rfl | (simp [e0_, e1_] <;> rfl) | (simp [*, e0_, e1_] <;> rfl), bm HB⟩
  ·replace c7 := Bool.eq_false_iff.mpr c7
   subst c7
   have H1 : (some false) = some r := by rw [if_neg (show ¬ (false = true) by decide)] at H; exact H
   clear H
   have H := H1
   clear H1
   obtain rfl := Option.some.inj H
   go_enter Try.func90, Try.ntmps90
   try go_wp2_with (first | ((with_reducible refine gate_dst (N := 3) rfl ?_); refine box_event ?hg (N := 3) ?hd (cs := #[.int .i64 a0_0, .int .i64 a0_1, .slice A0_2 l0_2.length c0_2]) (t := 48) ?hr ?_; (case hd => rfl); (case hg => rfl); (case hr => first | (go_simp; done) | (go_simp; rfl)); intro gb1276 hg w15 hbox hb; refine ev4 (bs HB hb) (hbox) (gle hg HB) (gle hg HB) ?_; clear HB; intro HB BK1276 GW1276 GE1276; clear hb hbox hg) | ((with_reducible refine gate_dst (N := 5) rfl ?_); refine box_event ?hg (N := 5) ?hd (cs := #[.int .i64 a2_0, .slice A2_1 l2_1.length c2_1]) (t := 66) ?hr ?_; (case hd => rfl); (case hg => rfl); (case hr => first | (go_simp; done) | (go_simp; rfl)); intro gb1277 hg w16 hbox hb; refine ev7 (kb BK1276 hb) (bs HB hb) (hbox) (gle hg HB) (gle hg HB) (gnf hg BK1276) (gne hg BK1276) ?_; clear BK1276 HB; intro BK1276 HB BK1277 GW1277 GE1277 NB1276_1277 NB1277_1276; clear hb hbox hg))
   refine ev3 (blk_drew BK1276.out) (blk_drew BK1277.out) (below_drew1 HB.out) ?_
   clear BK1276 BK1277 HB
   intro BK1276 BK1277 HB
   refine start_ (n := 15) (S := fun w' => w'.cell? ⟨gb1276, 0, none⟩ = some (.int .i64 a0_0) ∧ w'.cell? ⟨gb1276, 1, none⟩ = some (.int .i64 a0_1) ∧ w'.cell? ⟨gb1276, 2, none⟩ = some (.slice A0_2 l0_2.length c0_2) ∧ w'.cell? ⟨gb1277, 0, none⟩ = some (.int .i64 a2_0) ∧ w'.cell? ⟨gb1277, 1, none⟩ = some (.slice A2_1 l2_1.length c2_1)) (ds := []) #[false, false, false, false, false, false, false, false, false, false, false, false, false, false, false] (by kernel_rfl) rfl rfl ⟨(blk_cell BK1276.out 0).trans rfl, (blk_cell BK1276.out 1).trans rfl, (blk_cell BK1276.out 2).trans rfl, (blk_cell BK1277.out 0).trans rfl, (blk_cell BK1277.out 1).trans rfl⟩ (fun hHeld => ?_); refine with_tabW spec_vfTable.tab1 spec_vfTable.bits1 (fun HT_ HW_ => ?_)
   generalize w16.drew = w17 at BK1276 BK1277 HB hHeld ⊢
   refine pure_ (i := 1) (N := some 8) (v := ?_) (a' := ?_) #[false, true, false, false, false, false, false, false, false, false, false, false, false, false, false] rfl rfl (any_of HT_.out (by kernel_rfl)) (fun _ _ _ h => h) (Or.inl ⟨by rfl, ?_⟩) ?_ ?_
   rotate_left
   ·intro w'
    go_simp
    with_reducible rfl
   rotate_left
   ·simp only [Act.put, za_, zb_, zc_, i64_w, i32_w]
    rfl
   refine take_ (i := 0) (N := some 7) (v := ?_) (a' := ?_) #[true, true, false, false, false, false, false, false, false, false, false, false, false, false, false] rfl rfl (take_ofW HT_.out HW_.out (by kernel_rfl)) (fun _ _ _ h => h) (Or.inl ⟨by rfl, ?_⟩) hHeld ?_ ?_
   rotate_left
   ·rintro w' ⟨s0, s1, s2, s3, s4⟩
    go_simp
    with_reducible rfl
   rotate_left
   ·simp only [Act.put, za_, zb_, zc_, i64_w, i32_w]
    rfl
   refine one_ (i := 2) (N := some 9) #[true, true, true, false, false, false, false, false, false, false, false, false, false, false, false] rfl rfl (one_of HT_.out (by kernel_rfl)) (by decide) (fun K hK => ?_)
   refine goes_ Try.func98 (by kernel_rfl) rfl #[.agg #[.int .i64 a0_0, .int .i64 a0_1, .slice A0_2 l0_2.length c0_2], .int .i64 a1] (by rfl) rfl rfl (by (try simp only [ma_, mb_, mc_]); first | done | rfl | (simp only [List.length_drop, List.length_take]; rfl)) ?_
   with_reducible refine (spec_vfAsked.calls k a0_0 a0_1 _ _ l0_2 a1 true _ ?side1 ?side2 A4.out).mono ?_
   (case side1 => exact Kd.C_mv (Kd.C_below HR0_2.out HB.out))
   (case side2 => exact HC0_2.out)
   rintro e w18 ⟨rfl, hb⟩
   refine ⟨_, rfl, ?_⟩
   refine ev3 (kb BK1276 hb) (kb BK1277 hb) (bs HB hb) ?_
   clear BK1276 BK1277 HB
   intro BK1276 BK1277 HB
   (try clear hb)
   (try clear hb2)
   (try clear hk)
   (try clear hi)
   refine hK.out _ _ ⟨(blk_cell BK1276.out 0).trans rfl, (blk_cell BK1276.out 1).trans rfl, (blk_cell BK1276.out 2).trans rfl, (blk_cell BK1277.out 0).trans rfl, (blk_cell BK1277.out 1).trans rfl⟩ (fun hHeld => ?_)
   clear hK K
   refine norm_ (a' := ?_) ?_ ?_
   rotate_left
   ·show Act.put _ (some 9) _ = _
    simp only [Act.put, za_, zb_, zc_, i64_w, i32_w]
    rfl
   refine pure_ (i := 3) (N := some 10) (v := ?_) (a' := ?_) #[true, true, true, true, false, false, false, false, false, false, false, false, false, false, false] rfl rfl (any_of HT_.out (by kernel_rfl)) (fun _ _ _ h => h) (Or.inl ⟨by rfl, ?_⟩) ?_ ?_
   rotate_left
   ·intro w'
    go_simp
    with_reducible rfl
   rotate_left
   ·simp only [Act.put, za_, zb_, zc_, i64_w, i32_w]
    rfl
   refine take_ (i := 4) (N := some 11) (v := ?_) (a' := ?_) #[true, true, true, true, true, false, false, false, false, false, false, false, false, false, false] rfl rfl (take_ofW HT_.out HW_.out (by kernel_rfl)) (fun _ _ _ h => h) (Or.inl ⟨by rfl, ?_⟩) hHeld ?_ ?_
   rotate_left
   ·rintro w' ⟨s0, s1, s2, s3, s4⟩
    go_simp
    with_reducible rfl
   rotate_left
   ·simp only [Act.put, za_, zb_, zc_, i64_w, i32_w]
    rfl
   refine one_ (i := 5) (N := some 12) #[true, true, true, true, true, true, false, false, false, false, false, false, false, false, false] rfl rfl (one_of HT_.out (by kernel_rfl)) (by decide) (fun K hK => ?_)
   refine goes_ Try.func121 (by kernel_rfl) rfl #[.agg #[.int .i64 a2_0, .slice A2_1 l2_1.length c2_1]] (by rfl) rfl rfl (by (try simp only [ma_, mb_, mc_]); first | done | rfl | (simp only [List.length_drop, List.length_take]; rfl)) ?_
   with_reducible refine (spec_ttGood.calls k a2_0 _ _ l2_1 false _ ?side1 ?side2 A6.out).mono ?_
   (case side1 => exact Kd.C_mv (Kd.C_below HR2_1.out HB.out))
   (case side2 => exact HC2_1.out)
   rintro e w19 ⟨rfl, hb⟩
   refine ⟨_, rfl, ?_⟩
   refine ev3 (kb BK1276 hb) (kb BK1277 hb) (bs HB hb) ?_
   clear BK1276 BK1277 HB
   intro BK1276 BK1277 HB
   (try clear hb)
   (try clear hb2)
   (try clear hk)
   (try clear hi)
   refine hK.out _ _ ⟨(blk_cell BK1276.out 0).trans rfl, (blk_cell BK1276.out 1).trans rfl, (blk_cell BK1276.out 2).trans rfl, (blk_cell BK1277.out 0).trans rfl, (blk_cell BK1277.out 1).trans rfl⟩ (fun hHeld => ?_)
   clear hK K
   refine norm_ (a' := ?_) ?_ ?_
   rotate_left
   ·show Act.put _ (some 12) _ = _
    simp only [Act.put, za_, zb_, zc_, i64_w, i32_w]
    rfl
   refine pure_ (i := 6) (N := some 13) (v := ?_) (a' := ?_) #[true, true, true, true, true, true, true, false, false, false, false, false, false, false, false] rfl rfl (any_of HT_.out (by kernel_rfl)) (fun _ _ _ h => h) (Or.inl ⟨by rfl, ?_⟩) ?_ ?_
   rotate_left
   ·intro w'
    go_simp
    with_reducible rfl
   rotate_left
   ·simp only [Act.put, za_, zb_, zc_, i64_w, i32_w]
    rfl
   refine pure_ (i := 7) (N := some 14) (v := ?_) (a' := ?_) #[true, true, true, true, true, true, true, true, false, false, false, false, false, false, false] rfl rfl (any_of HT_.out (by kernel_rfl)) (fun _ _ _ h => h) (Or.inl ⟨by rfl, ?_⟩) ?_ ?_
   rotate_left
   ·intro w'
    go_simp
    with_reducible rfl
   rotate_left
   ·simp only [Act.put, za_, zb_, zc_, i64_w, i32_w]
    rfl
   refine pure_ (i := 8) (N := some 15) (v := undef) (a' := ?_) #[true, true, true, true, true, true, true, true, true, false, false, false, false, false, false] rfl rfl (any_of HT_.out (by kernel_rfl)) (fun _ _ _ h => h) (Or.inr ⟨by rfl, rfl⟩) ?_ ?_
   rotate_left
   ·simp only [Act.put, za_, zb_, zc_, i64_w, i32_w]
    rfl
   refine pure_ (i := 9) (N := some 16) (v := undef) (a' := ?_) #[true, true, true, true, true, true, true, true, true, true, false, false, false, false, false] rfl rfl (any_of HT_.out (by kernel_rfl)) (fun _ _ _ h => h) (Or.inr ⟨by rfl, rfl⟩) ?_ ?_
   rotate_left
   ·simp only [Act.put, za_, zb_, zc_, i64_w, i32_w]
    rfl
   refine pure_ (i := 10) (N := some 17) (v := undef) (a' := ?_) #[true, true, true, true, true, true, true, true, true, true, true, false, false, false, false] rfl rfl (any_of HT_.out (by kernel_rfl)) (fun _ _ _ h => h) (Or.inr ⟨by rfl, rfl⟩) ?_ ?_
   rotate_left
   ·simp only [Act.put, za_, zb_, zc_, i64_w, i32_w]
    rfl
   refine pure_ (i := 11) (N := some 18) (v := undef) (a' := ?_) #[true, true, true, true, true, true, true, true, true, true, true, true, false, false, false] rfl rfl (any_of HT_.out (by kernel_rfl)) (fun _ _ _ h => h) (Or.inr ⟨by rfl, rfl⟩) ?_ ?_
   rotate_left
   ·simp only [Act.put, za_, zb_, zc_, i64_w, i32_w]
    rfl
   refine pure_ (i := 12) (N := some 19) (v := undef) (a' := ?_) #[true, true, true, true, true, true, true, true, true, true, true, true, true, false, false] rfl rfl (any_of HT_.out (by kernel_rfl)) (fun _ _ _ h => h) (Or.inr ⟨by rfl, rfl⟩) ?_ ?_
   rotate_left
   ·simp only [Act.put, za_, zb_, zc_, i64_w, i32_w]
    rfl
   refine pure_ (i := 13) (N := some 20) (v := ?_) (a' := ?_) #[true, true, true, true, true, true, true, true, true, true, true, true, true, true, false] rfl rfl (any_of HT_.out (by kernel_rfl)) (fun _ _ _ h => h) (Or.inl ⟨by rfl, ?_⟩) ?_ ?_
   rotate_left
   ·intro w'
    go_simp
    with_reducible rfl
   rotate_left
   ·simp only [Act.put, za_, zb_, zc_, i64_w, i32_w]
    rfl
   refine pure_ (i := 14) (N := some 6) (v := ?_) (a' := ?_) #[true, true, true, true, true, true, true, true, true, true, true, true, true, true, true] rfl rfl (any_of HT_.out (by kernel_rfl)) (fun _ _ _ h => h) (Or.inl ⟨by rfl, ?_⟩) ?_ ?_
   rotate_left
   ·intro w'
    go_simp
    with_reducible rfl
   rotate_left
   ·simp only [Act.put, za_, zb_, zc_, i64_w, i32_w]
    rfl
   refine done_ (done_of HT_.out (by kernel_rfl)) ?_
   try go_wp2
   go_ret
   exact ⟨by first | rfl | (simp [e0_, e1_] <;> rfl) | (simp [*, e0_, e1_] <;> rfl), bm HB⟩
 ·replace c5 := Bool.eq_false_iff.mpr c5
  subst c5
  have H1 : (some false) = some r := by rw [if_neg (show ¬ (false = true) by decide)] at H; exact H
  clear H
  have H := H1
  clear H1
  obtain rfl := Option.some.inj H
  go_enter Try.func90, Try.ntmps90
  try go_wp2_with (first | ((with_reducible refine gate_dst (N := 3) rfl ?_); refine box_event ?hg (N := 3) ?hd (cs := #[.int .i64 a0_0, .int .i64 a0_1, .slice A0_2 l0_2.length c0_2]) (t := 48) ?hr ?_; (case hd => rfl); (case hg => rfl); (case hr => first | (go_simp; done) | (go_simp; rfl)); intro gb1276 hg w20 hbox hb; refine ev4 (bs HB hb) (hbox) (gle hg HB) (gle hg HB) ?_; clear HB; intro HB BK1276 GW1276 GE1276; clear hb hbox hg) | ((with_reducible refine gate_dst (N := 5) rfl ?_); refine box_event ?hg (N := 5) ?hd (cs := #[.int .i64 a2_0, .slice A2_1 l2_1.length c2_1]) (t := 66) ?hr ?_; (case hd => rfl); (case hg => rfl); (case hr => first | (go_simp; done) | (go_simp; rfl)); intro gb1277 hg w21 hbox hb; refine ev7 (kb BK1276 hb) (bs HB hb) (hbox) (gle hg HB) (gle hg HB) (gnf hg BK1276) (gne hg BK1276) ?_; clear BK1276 HB; intro BK1276 HB BK1277 GW1277 GE1277 NB1276_1277 NB1277_1276; clear hb hbox hg))
  refine ev3 (blk_drew BK1276.out) (blk_drew BK1277.out) (below_drew1 HB.out) ?_
  clear BK1276 BK1277 HB
  intro BK1276 BK1277 HB
  refine start_ (n := 15) (S := fun w' => w'.cell? ⟨gb1276, 0, none⟩ = some (.int .i64 a0_0) ∧ w'.cell? ⟨gb1276, 1, none⟩ = some (.int .i64 a0_1) ∧ w'.cell? ⟨gb1276, 2, none⟩ = some (.slice A0_2 l0_2.length c0_2)) (ds := []) #[false, false, false, false, false, false, false, false, false, false, false, false, false, false, false] (by kernel_rfl) rfl rfl ⟨(blk_cell BK1276.out 0).trans rfl, (blk_cell BK1276.out 1).trans rfl, (blk_cell BK1276.out 2).trans rfl⟩ (fun hHeld => ?_); refine with_tabW spec_vfTable.tab1 spec_vfTable.bits1 (fun HT_ HW_ => ?_)
  generalize w21.drew = w22 at BK1276 BK1277 HB hHeld ⊢
  refine pure_ (i := 1) (N := some 8) (v := ?_) (a' := ?_) #[false, true, false, false, false, false, false, false, false, false, false, false, false, false, false] rfl rfl (any_of HT_.out (by kernel_rfl)) (fun _ _ _ h => h) (Or.inl ⟨by rfl, ?_⟩) ?_ ?_
  rotate_left
  ·intro w'
   go_simp
   with_reducible rfl
  rotate_left
  ·simp only [Act.put, za_, zb_, zc_, i64_w, i32_w]
   rfl
  refine take_ (i := 0) (N := some 7) (v := ?_) (a' := ?_) #[true, true, false, false, false, false, false, false, false, false, false, false, false, false, false] rfl rfl (take_ofW HT_.out HW_.out (by kernel_rfl)) (fun _ _ _ h => h) (Or.inl ⟨by rfl, ?_⟩) hHeld ?_ ?_
  rotate_left
  ·rintro w' ⟨s0, s1, s2⟩
   go_simp
   with_reducible rfl
  rotate_left
  ·simp only [Act.put, za_, zb_, zc_, i64_w, i32_w]
   rfl
  refine one_ (i := 2) (N := some 9) #[true, true, true, false, false, false, false, false, false, false, false, false, false, false, false] rfl rfl (one_of HT_.out (by kernel_rfl)) (by decide) (fun K hK => ?_)
  refine goes_ Try.func98 (by kernel_rfl) rfl #[.agg #[.int .i64 a0_0, .int .i64 a0_1, .slice A0_2 l0_2.length c0_2], .int .i64 a1] (by rfl) rfl rfl (by (try simp only [ma_, mb_, mc_]); first | done | rfl | (simp only [List.length_drop, List.length_take]; rfl)) ?_
  with_reducible refine (spec_vfAsked.calls k a0_0 a0_1 _ _ l0_2 a1 false _ ?side1 ?side2 A4.out).mono ?_
  (case side1 => exact Kd.C_mv (Kd.C_below HR0_2.out HB.out))
  (case side2 => exact HC0_2.out)
  rintro e w23 ⟨rfl, hb⟩
  refine ⟨_, rfl, ?_⟩
  refine ev3 (kb BK1276 hb) (kb BK1277 hb) (bs HB hb) ?_
  clear BK1276 BK1277 HB
  intro BK1276 BK1277 HB
  (try clear hb)
  (try clear hb2)
  (try clear hk)
  (try clear hi)
  refine hK.out _ _ ⟨(blk_cell BK1276.out 0).trans rfl, (blk_cell BK1276.out 1).trans rfl, (blk_cell BK1276.out 2).trans rfl⟩ (fun hHeld => ?_)
  clear hK K
  refine norm_ (a' := ?_) ?_ ?_
  rotate_left
  ·show Act.put _ (some 9) _ = _
   simp only [Act.put, za_, zb_, zc_, i64_w, i32_w]
   rfl
  refine pure_ (i := 3) (N := some 10) (v := ?_) (a' := ?_) #[true, true, true, true, false, false, false, false, false, false, false, false, false, false, false] rfl rfl (any_of HT_.out (by kernel_rfl)) (fun _ _ _ h => h) (Or.inl ⟨by rfl, ?_⟩) ?_ ?_
  rotate_left
  ·intro w'
   go_simp
   with_reducible rfl
  rotate_left
  ·simp only [Act.put, za_, zb_, zc_, i64_w, i32_w]
   rfl
  refine pure_ (i := 4) (N := some 11) (v := undef) (a' := ?_) #[true, true, true, true, true, false, false, false, false, false, false, false, false, false, false] rfl rfl (any_of HT_.out (by kernel_rfl)) (fun _ _ _ h => h) (Or.inr ⟨by rfl, rfl⟩) ?_ ?_
  rotate_left
  ·simp only [Act.put, za_, zb_, zc_, i64_w, i32_w]
   rfl
  refine pure_ (i := 5) (N := some 12) (v := undef) (a' := ?_) #[true, true, true, true, true, true, false, false, false, false, false, false, false, false, false] rfl rfl (any_of HT_.out (by kernel_rfl)) (fun _ _ _ h => h) (Or.inr ⟨by rfl, rfl⟩) ?_ ?_
  rotate_left
  ·simp only [Act.put, za_, zb_, zc_, i64_w, i32_w]
   rfl
  refine pure_ (i := 6) (N := some 13) (v := ?_) (a' := ?_) #[true, true, true, true, true, true, true, false, false, false, false, false, false, false, false] rfl rfl (any_of HT_.out (by kernel_rfl)) (fun _ _ _ h => h) (Or.inl ⟨by rfl, ?_⟩) ?_ ?_
  rotate_left
  ·intro w'
   go_simp
   with_reducible rfl
  rotate_left
  ·simp only [Act.put, za_, zb_, zc_, i64_w, i32_w]
   rfl
  refine pure_ (i := 7) (N := some 14) (v := ?_) (a' := ?_) #[true, true, true, true, true, true, true, true, false, false, false, false, false, false, false] rfl rfl (any_of HT_.out (by kernel_rfl)) (fun _ _ _ h => h) (Or.inl ⟨by rfl, ?_⟩) ?_ ?_
  rotate_left
  ·intro w'
   go_simp
   with_reducible rfl
  rotate_left
  ·simp only [Act.put, za_, zb_, zc_, i64_w, i32_w]
   rfl
  refine pure_ (i := 8) (N := some 15) (v := undef) (a' := ?_) #[true, true, true, true, true, true, true, true, true, false, false, false, false, false, false] rfl rfl (any_of HT_.out (by kernel_rfl)) (fun _ _ _ h => h) (Or.inr ⟨by rfl, rfl⟩) ?_ ?_
  rotate_left
  ·simp only [Act.put, za_, zb_, zc_, i64_w, i32_w]
   rfl
  refine pure_ (i := 9) (N := some 16) (v := undef) (a' := ?_) #[true, true, true, true, true, true, true, true, true, true, false, false, false, false, false] rfl rfl (any_of HT_.out (by kernel_rfl)) (fun _ _ _ h => h) (Or.inr ⟨by rfl, rfl⟩) ?_ ?_
  rotate_left
  ·simp only [Act.put, za_, zb_, zc_, i64_w, i32_w]
   rfl
  refine pure_ (i := 10) (N := some 17) (v := undef) (a' := ?_) #[true, true, true, true, true, true, true, true, true, true, true, false, false, false, false] rfl rfl (any_of HT_.out (by kernel_rfl)) (fun _ _ _ h => h) (Or.inr ⟨by rfl, rfl⟩) ?_ ?_
  rotate_left
  ·simp only [Act.put, za_, zb_, zc_, i64_w, i32_w]
   rfl
  refine pure_ (i := 11) (N := some 18) (v := undef) (a' := ?_) #[true, true, true, true, true, true, true, true, true, true, true, true, false, false, false] rfl rfl (any_of HT_.out (by kernel_rfl)) (fun _ _ _ h => h) (Or.inr ⟨by rfl, rfl⟩) ?_ ?_
  rotate_left
  ·simp only [Act.put, za_, zb_, zc_, i64_w, i32_w]
   rfl
  refine pure_ (i := 12) (N := some 19) (v := undef) (a' := ?_) #[true, true, true, true, true, true, true, true, true, true, true, true, true, false, false] rfl rfl (any_of HT_.out (by kernel_rfl)) (fun _ _ _ h => h) (Or.inr ⟨by rfl, rfl⟩) ?_ ?_
  rotate_left
  ·simp only [Act.put, za_, zb_, zc_, i64_w, i32_w]
   rfl
  refine pure_ (i := 13) (N := some 20) (v := ?_) (a' := ?_) #[true, true, true, true, true, true, true, true, true, true, true, true, true, true, false] rfl rfl (any_of HT_.out (by kernel_rfl)) (fun _ _ _ h => h) (Or.inl ⟨by rfl, ?_⟩) ?_ ?_
  rotate_left
  ·intro w'
   go_simp
   with_reducible rfl
  rotate_left
  ·simp only [Act.put, za_, zb_, zc_, i64_w, i32_w]
   rfl
  refine pure_ (i := 14) (N := some 6) (v := ?_) (a' := ?_) #[true, true, true, true, true, true, true, true, true, true, true, true, true, true, true] rfl rfl (any_of HT_.out (by kernel_rfl)) (fun _ _ _ h => h) (Or.inl ⟨by rfl, ?_⟩) ?_ ?_
  rotate_left
  ·intro w'
   go_simp
   with_reducible rfl
  rotate_left
  ·simp only [Act.put, za_, zb_, zc_, i64_w, i32_w]
   rfl
  refine done_ (done_of HT_.out (by kernel_rfl)) ?_
  try go_wp2
  go_ret
  exact ⟨by first | rfl | (simp [e0_, e1_] <;> rfl) | (simp [*, e0_, e1_] <;> rfl), bm HB⟩

/-! ### spec_vfWrong: function 91 -/
def spec_vfWrong.l0 : Nat → List Int → List Int → List Int → Int → Int → Option (List Int)
 | 0, _, _, _, _, _ => none
 | k + 1, x1, x5, x8, x9, x10 => if x10 < x9 then (if 0 ≤ x10 then (if x10 < (x8.length : Int) then (if x10 < (x1.length : Int) then (if (rd x8 x10) = (rd x1 x10) then (spec_vfWrong.l0 k x1 x5 x8 x9 (wrap64 (x10 + 1))) else (if x5.length < 17592186044416 then (spec_vfWrong.l0 k x1 (x5 ++ [x10]) x8 x9 (wrap64 (x10 + 1))) else (none))) else (none)) else (none)) else (none)) else (some x5)
def spec_vfWrong.f (k : Nat) (l0 : List Int) (l1 : List Int) : Option (List Int) := spec_vfWrong.l0 k l1 ([] : List Int) l0 (l0.length : Int) 0
set_option maxHeartbeats 8000000 in
set_option maxRecDepth 100000 in
theorem spec_vfWrong.calls (k : Nat) (A0 : Option Addr) (c0 : Nat) (l0 : List Int) (A1 : Option Addr) (c1 : Nat) (l1 : List Int) (r : List Int) (w : World) (hr0 : Kd.C (Kd.int .i64) w A0 l0.length l0) (hc0 : l0.length ≤ c0) (hr1 : Kd.C (Kd.int .i64) w A1 l1.length l1) (hc1 : l1.length ≤ c1) (h : spec_vfWrong.f k l0 l1 = some r) :
  Calls Try.prog 91 #[.slice A0 l0.length c0, .slice A1 l1.length c1] w fun e w' => ∃ v0_ : Value, e = .returned (v0_) ∧ Kd.R (Kd.int .i64) 3 w' w.heap.size (fun _ => True) v0_ r ∧ Below w.heap.size w w' := by
 have HR0 := Aside0.mk hr0
 have HC0 := Aside0.mk hc0
 clear hr0 hc0
 have HR1 := Aside0.mk hr1
 have HC1 := Aside0.mk hc1
 clear hr1 hc1
 have HB := Aside0.mk (Below.refl w.heap.size w)
 have H : (spec_vfWrong.l0 k l1 ([] : List Int) l0 (l0.length : Int) 0) = some r := h
 clear h
 have H' := Aside0.mk H
 clear H
 go_enter Try.func91, Try.ntmps91
 go_wp2
 go_loopg [5, 10] k (fun kq v5 v10 w' => ∃ (x5_1 : List Int) (x10_1 : Int), v10 = .int .i64 x10_1 ∧ Aside0 (spec_vfWrong.l0 kq l1 x5_1 l0 (l0.length : Int) x10_1 = some r) ∧ Aside0 (kq ≤ k) ∧ Aside0 (Kd.R (Kd.int .i64) 3 w' w.heap.size (fun _ => True) v5 x5_1) ∧ Aside0 (Below w.heap.size w w'))
 case atStart => exact ⟨(([] : List Int)), (0), (by first | rfl | (simp; done) | (simp [*]; done)), H', ⟨Nat.le_refl _⟩, ⟨by first | exact Kd.R_nil _ _ _ _ _ | exact Kd.N_nil _ _ _ _ _ | exact Kd.V_nil _ _ _ _ _ | exact Kd.Q_nil _ _ _ _ _ | exact Kd.S_nil _ _ _ _ _⟩, ⟨bm HB⟩⟩
 case round =>
  clear H'
  try clear c1
  try clear p2
  obtain ⟨x5_1, x10_1, rfl, HA, HK1, HO_5, HB⟩ := hrel
  cases gk with
  | zero => exact absurd HA.out (by simp [spec_vfWrong.l0])
  | succ k1 =>
   have H := HA.out
   clear HA
   simp only [spec_vfWrong.l0] at H
   by_cases c3 : x10_1 < (l0.length : Int)
   ·rw [if_pos c3] at H
    have c3b0 : decide (x10_1 < (l0.length : Int)) = true := decide_eq_true c3
    clear c3
    by_cases c4 : 0 ≤ x10_1
    ·rw [if_pos c4] at H
     have c4b0 : decide (0 ≤ x10_1) = true := decide_eq_true c4
     clear c4
     by_cases c5 : x10_1 < (l0.length : Int)
     ·rw [if_pos c5] at H
      have c5b0 : decide (x10_1 < (l0.length : Int)) = true := decide_eq_true c5
      clear c5
      by_cases c6 : x10_1 < (l1.length : Int)
      ·rw [if_pos c6] at H
       have c6b0 : decide (x10_1 < (l1.length : Int)) = true := decide_eq_true c6
       clear c6
       by_cases c7 : (rd l0 x10_1) = (rd l1 x10_1)
       ·rw [if_pos c7] at H
        have c7b0 : ((rd l0 x10_1) == (rd l1 x10_1)) = true := beq_iff_eq.mpr c7
        have c7b1 : ((rd l0 x10_1) != (rd l1 x10_1)) = false := bne_eq_false_iff_eq.mpr c7
        clear c7
        have H' := Aside0.mk H
        clear H
        have p1281 : 0 ≤ (x10_1 : Int) := of_decide_eq_true (by first | (with_reducible assumption) | assumption)
        have q1281 : x10_1 < (l0.length : Int) := of_decide_eq_true (by first | (with_reducible assumption) | assumption)
        obtain ⟨ad1281, e1281, hx1281_0⟩ := Kd.at_int HR0.out x10_1 p1281 q1281
        cases e1281
        replace hx1281_0 := (HB.out.cell (World.block_lt_of_cell? w _ hx1281_0)).trans hx1281_0
        replace p1281 := eq_true p1281
        replace q1281 := eq_true q1281
        have p1282 : 0 ≤ (x10_1 : Int) := of_decide_eq_true (by first | (with_reducible assumption) | assumption)
        have q1282 : x10_1 < (l1.length : Int) := of_decide_eq_true (by first | (with_reducible assumption) | assumption)
        obtain ⟨ad1282, e1282, hx1282_0⟩ := Kd.at_int HR1.out x10_1 p1282 q1282
        cases e1282
        replace hx1282_0 := (HB.out.cell (World.block_lt_of_cell? w _ hx1282_0)).trans hx1282_0
        replace p1282 := eq_true p1282
        replace q1282 := eq_true q1282
        go_wp2
        go_roundg k1
        case measure => have := HK1.out; omega
        case rel => exact ⟨(x5_1), (wrap64 (x10_1 + 1)), (by first | rfl | (simp; done) | (simp [*]; done)), H', ⟨by have := HK1.out; omega⟩, ⟨Kd.R_mv HO_5.out⟩, ⟨bm HB⟩⟩
       ·rw [if_neg c7] at H
        have c7b0 : ((rd l0 x10_1) == (rd l1 x10_1)) = false := beq_eq_false_iff_ne.mpr c7
        have c7b1 : ((rd l0 x10_1) != (rd l1 x10_1)) = true := bne_iff_ne.mpr c7
        by_cases c8 : x5_1.length < 17592186044416
        ·rw [if_pos c8] at H
         have LMc8 := Aside0.mk c8
         clear c8
         obtain ⟨y1283, hy1283⟩ : ∃ y_ : List Int, y_ = (x5_1 ++ [x10_1]) := ⟨_, rfl⟩
         replace H : (spec_vfWrong.l0 k1 l1 y1283 l0 (l0.length : Int) (wrap64 (x10_1 + 1))) = some r := by first | (rw [hy1283]; with_reducible exact H) | (have H2_ := (Option.bind_some _ _).symm.trans H; rw [hy1283]; with_reducible exact H2_) | (have H2_ := (Option.bind_some _ _).symm.trans H; with_reducible exact H2_) | with_reducible exact H | (rw [hy1283]; exact H) | exact H
         have Ny1283 := Aside0.mk hy1283
         clear hy1283
         have H' := Aside0.mk H
         clear H
         have p1281 : 0 ≤ (x10_1 : Int) := of_decide_eq_true (by first | (with_reducible assumption) | assumption)
         have q1281 : x10_1 < (l0.length : Int) := of_decide_eq_true (by first | (with_reducible assumption) | assumption)
         obtain ⟨ad1281, e1281, hx1281_0⟩ := Kd.at_int HR0.out x10_1 p1281 q1281
         cases e1281
         replace hx1281_0 := (HB.out.cell (World.block_lt_of_cell? w _ hx1281_0)).trans hx1281_0
         replace p1281 := eq_true p1281
         replace q1281 := eq_true q1281
         have p1282 : 0 ≤ (x10_1 : Int) := of_decide_eq_true (by first | (with_reducible assumption) | assumption)
         have q1282 : x10_1 < (l1.length : Int) := of_decide_eq_true (by first | (with_reducible assumption) | assumption)
         obtain ⟨ad1282, e1282, hx1282_0⟩ := Kd.at_int HR1.out x10_1 p1282 q1282
         cases e1282
         replace hx1282_0 := (HB.out.cell (World.block_lt_of_cell? w _ hx1282_0)).trans hx1282_0
         replace p1282 := eq_true p1282
         replace q1282 := eq_true q1282
         go_wp2_with (first | ((with_reducible refine gate_builtin (b := .append) (xs := #[.tmp 21, .tmp 23]) rfl ?_); at_builtin; refine Kd.R_append (Kd.int .i64) (w0 := w) w.heap.size rfl (.tmp 21) (.tmp 23) 22 3 (.int .i64 0) 8 rfl Try.underlying22 info3 rfl (by decide) (by omega) u5 x5_1 x10_1 [.int .i64 x10_1] (fun _ => True) (fun _ => False) rfl rfl ?aP (fun _ hk => hk.elim) ?aF ?aO ?aB ?aS ?aL ?_; (case aP => exact rfl); (case aB => exact (bm HB)); (case aF => exact (fun _ _ => trivial)); (case aO => exact (Kd.R_mv HO_5.out)); (case aS => exact (below_size (bm HB))); (case aL => have := LMc8.out; omega); intro v1284 w9 ho hb hg hat; rw [← Ny1283.out] at ho; refine ev2 (hb) (ho) ?_; clear HB HO_5; intro HB HO1285; clear ho hb hg hat))
         go_roundg k1
         case measure => have := HK1.out; omega
         case rel => exact ⟨(y1283), (wrap64 (x10_1 + 1)), (by first | rfl | (simp; done) | (simp [*]; done)), H', ⟨by have := HK1.out; omega⟩, ⟨Kd.R_mv HO1285.out⟩, ⟨bm HB⟩⟩
        ·rw [if_neg c8] at H
         exact absurd H (by simp)
      ·rw [if_neg c6] at H
       exact absurd H (by simp)
     ·rw [if_neg c5] at H
      exact absurd H (by simp)
    ·rw [if_neg c4] at H
     exact absurd H (by simp)
   ·rw [if_neg c3] at H
    have c3b0 : decide (x10_1 < (l0.length : Int)) = false := decide_eq_false c3
    clear c3
    obtain rfl := Option.some.inj H
    go_wp2
    go_ret
    exact ⟨_, by first | rfl | (simp [e0_, e1_] <;> rfl) | (simp [*, e0_, e1_] <;> rfl), Kd.R_mv HO_5.out, bm HB⟩

/-! ### spec_VerifyBoard: function 46 -/
def spec_VerifyBoard.f (k : Nat) (a0_0 : Int) (a0_1 : Int) (l0_2 : List (S78)) (a1 : Int) (a2_0 : Int) (l2_1 : List Int) : Option (Bool × Bool) := (spec_vfTable.f k a0_0 a0_1 l0_2 a1 a2_0 l2_1).bind fun t1304 => (if t1304 = true then ((spec_vfValues.f k a0_0 a0_1 l0_2 a1).bind fun t1305 => ((spec_vfWrong.f k t1305 l2_1).bind fun t1308 => (some (((t1308.length : Int) == 0), true)))) else (some (false, false)))
def spec_VerifyBoard.T3 : Bool × List (List Nat × List Nat) := (true, [([], []), ([], []), ([0, 1], [0, 1]), ([], []), ([3], [3]), ([2, 4, 2], [2, 4]), ([5], [5]), ([6], [6]), ([7, 5, 0, 1, 2, 3, 4, 5, 6, 7], [7]), ([8, 0, 1, 2, 3, 4, 5, 6, 7, 8], [])])
def spec_VerifyBoard.B3 : List Nat := [0, 0, 3, 0, 8, 31, 63, 127, 255, 511]
theorem spec_VerifyBoard.tab3 : rtab .any (opsOf Try.f46 3) = spec_VerifyBoard.T3 := by kernel_rfl
theorem spec_VerifyBoard.bits3 : waitsOk spec_VerifyBoard.T3.2 spec_VerifyBoard.B3 = true := by kernel_rfl
set_option maxHeartbeats 8000000 in
set_option maxRecDepth 100000 in
theorem spec_VerifyBoard.calls (k : Nat) (a0_0 : Int) (a0_1 : Int) (A0_2 : Option Addr) (c0_2 : Nat) (l0_2 : List (S78)) (a1 : Int) (a2_0 : Int) (A2_1 : Option Addr) (c2_1 : Nat) (l2_1 : List Int) (r1 : Bool) (r2 : Bool) (w : World) (hr0_2 : Kd.C k78 w A0_2 l0_2.length l0_2) (hc0_2 : l0_2.length ≤ c0_2) (hr2_1 : Kd.C (Kd.int .i64) w A2_1 l2_1.length l2_1) (hc2_1 : l2_1.length ≤ c2_1) (h : spec_VerifyBoard.f k a0_0 a0_1 l0_2 a1 a2_0 l2_1 = some (r1, r2)) :
  Calls Try.prog 46 #[.agg #[.int .i64 a0_0, .int .i64 a0_1, .slice A0_2 l0_2.length c0_2], .int .i64 a1, .agg #[.int .i64 a2_0, .slice A2_1 l2_1.length c2_1]] w fun e w' => e = .returned (.tuple #[.bool r1, .bool r2]) ∧ Below w.heap.size w w' := by
 have HR0_2 := Aside0.mk hr0_2
 have HC0_2 := Aside0.mk hc0_2
 clear hr0_2 hc0_2
 have HR2_1 := Aside0.mk hr2_1
 have HC2_1 := Aside0.mk hc2_1
 clear hr2_1 hc2_1
 have HB := Aside0.mk (Below.refl w.heap.size w)
 have H : ((spec_vfTable.f k a0_0 a0_1 l0_2 a1 a2_0 l2_1).bind fun t1304 => (if t1304 = true then ((spec_vfValues.f k a0_0 a0_1 l0_2 a1).bind fun t1305 => ((spec_vfWrong.f k t1305 l2_1).bind fun t1308 => (some (((t1308.length : Int) == 0), true)))) else (some (false, false)))) = some (r1, r2) := h
 clear h
 replace H := Option.bind_eq_some_iff.mp H
 obtain ⟨t1304, A40, H⟩ := H
 replace H : (if t1304 = true then ((spec_vfValues.f k a0_0 a0_1 l0_2 a1).bind fun t1305 => ((spec_vfWrong.f k t1305 l2_1).bind fun t1308 => (some (((t1308.length : Int) == 0), true)))) else (some (false, false))) = some (r1, r2) := H
 have A4 := Aside0.mk A40
 clear A40
 by_cases c5 : t1304 = true
 ·subst c5
  have H1 : ((spec_vfValues.f k a0_0 a0_1 l0_2 a1).bind fun t1305 => ((spec_vfWrong.f k t1305 l2_1).bind fun t1308 => (some (((t1308.length : Int) == 0), true)))) = some (r1, r2) := by rw [if_pos rfl] at H; exact H
  clear H
  have H := H1
  clear H1
  replace H := Option.bind_eq_some_iff.mp H
  obtain ⟨t1305, A60, H⟩ := H
  replace H : ((spec_vfWrong.f k t1305 l2_1).bind fun t1308 => (some (((t1308.length : Int) == 0), true))) = some (r1, r2) := H
  have A6 := Aside0.mk A60
  clear A60
  replace H := Option.bind_eq_some_iff.mp H
  obtain ⟨t1308, A70, H⟩ := H
  replace H : (some (((t1308.length : Int) == 0), true)) = some (r1, r2) := H
  have A7 := Aside0.mk A70
  clear A70
  simp only [Option.some.injEq, Prod.mk.injEq] at H
  obtain ⟨rfl, rfl⟩ := H
  go_enter Try.func46, Try.ntmps46
  try go_wp2_with (first | ((with_reducible refine gate_dst (N := 3) rfl ?_); refine box_event ?hg (N := 3) ?hd (cs := #[.int .i64 a0_0, .int .i64 a0_1, .slice A0_2 l0_2.length c0_2]) (t := 48) ?hr ?_; (case hd => rfl); (case hg => rfl); (case hr => first | (go_simp; done) | (go_simp; rfl)); intro gb1302 hg w8 hbox hb; refine ev4 (bs HB hb) (hbox) (gle hg HB) (gle hg HB) ?_; clear HB; intro HB BK1302 GW1302 GE1302; clear hb hbox hg) | ((with_reducible refine gate_dst (N := 5) rfl ?_); refine box_event ?hg (N := 5) ?hd (cs := #[.int .i64 a2_0, .slice A2_1 l2_1.length c2_1]) (t := 66) ?hr ?_; (case hd => rfl); (case hg => rfl); (case hr => first | (go_simp; done) | (go_simp; rfl)); intro gb1303 hg w9 hbox hb; refine ev7 (kb BK1302 hb) (bs HB hb) (hbox) (gle hg HB) (gle hg HB) (gnf hg BK1302) (gne hg BK1302) ?_; clear BK1302 HB; intro BK1302 HB BK1303 GW1303 GE1303 NB1302_1303 NB1303_1302; clear hb hbox hg; have hnb10 := NB1302_1303.out; have hnc10 := NB1303_1302.out; obtain ⟨hcz11_0, hcz11_1, hcz11_2, hfz11_0, hfz11_1, hfz11_2⟩ := bt3 BK1302; obtain ⟨hcz12_0, hcz12_1, hfz12_0, hfz12_1⟩ := bt2 BK1303) | ((with_reducible refine gate_callee (f := 90) rfl ?_); refine goesL_ (some 11) rfl rfl Try.func90 (by kernel_rfl) rfl #[.agg #[.int .i64 a0_0, .int .i64 a0_1, .slice A0_2 l0_2.length c0_2], .int .i64 a1, .agg #[.int .i64 a2_0, .slice A2_1 l2_1.length c2_1]] rfl (by (try simp only [ma_, mb_, mc_]); first | done | rfl | (simp only [List.length_drop, List.length_take]; rfl)) ?_; (with_reducible refine (spec_vfTable.calls k a0_0 a0_1 _ _ l0_2 a1 a2_0 _ _ l2_1 true _ (Kd.C_mv (Kd.C_below HR0_2.out HB.out)) HC0_2.out (Kd.C_mv (Kd.C_below HR2_1.out HB.out)) HC2_1.out A4.out).mono ?_); rintro e w13 ⟨rfl, hb⟩; refine ⟨_, rfl, ?_⟩; refine ev3 (kb BK1302 hb) (kb BK1303 hb) (bs HB hb) ?_; clear BK1302 BK1303 HB; intro BK1302 BK1303 HB; (try clear hb); (try clear hb2); (try clear hk); (try clear hi)))
  refine ev3 (blk_drew BK1302.out) (blk_drew BK1303.out) (below_drew1 HB.out) ?_
  clear BK1302 BK1303 HB
  intro BK1302 BK1303 HB
  refine start_ (n := 10) (S := fun w' => w'.cell? ⟨gb1302, 0, none⟩ = some (.int .i64 a0_0) ∧ w'.cell? ⟨gb1302, 1, none⟩ = some (.int .i64 a0_1) ∧ w'.cell? ⟨gb1302, 2, none⟩ = some (.slice A0_2 l0_2.length c0_2) ∧ w'.cell? ⟨gb1303, 0, none⟩ = some (.int .i64 a2_0) ∧ w'.cell? ⟨gb1303, 1, none⟩ = some (.slice A2_1 l2_1.length c2_1)) (ds := []) #[false, false, false, false, false, false, false, false, false, false] (by kernel_rfl) rfl rfl ⟨(blk_cell BK1302.out 0).trans rfl, (blk_cell BK1302.out 1).trans rfl, (blk_cell BK1302.out 2).trans rfl, (blk_cell BK1303.out 0).trans rfl, (blk_cell BK1303.out 1).trans rfl⟩ (fun hHeld => ?_); refine with_tabW spec_VerifyBoard.tab3 spec_VerifyBoard.bits3 (fun HT_ HW_ => ?_)
  generalize w13.drew = w14 at BK1302 BK1303 HB hHeld ⊢
  refine pure_ (i := 1) (N := some 14) (v := ?_) (a' := ?_) #[false, true, false, false, false, false, false, false, false, false] rfl rfl (any_of HT_.out (by kernel_rfl)) (fun _ _ _ h => h) (Or.inl ⟨by rfl, ?_⟩) ?_ ?_
  rotate_left
  ·intro w'
   go_simp
   with_reducible rfl
  rotate_left
  ·simp only [Act.put, za_, zb_, zc_, i64_w, i32_w]
   rfl
  refine pure_ (i := 3) (N := some 16) (v := ?_) (a' := ?_) #[false, true, false, true, false, false, false, false, false, false] rfl rfl (any_of HT_.out (by kernel_rfl)) (fun _ _ _ h => h) (Or.inl ⟨by rfl, ?_⟩) ?_ ?_
  rotate_left
  ·intro w'
   go_simp
   with_reducible rfl
  rotate_left
  ·simp only [Act.put, za_, zb_, zc_, i64_w, i32_w]
   rfl
  refine take_ (i := 0) (N := some 13) (v := ?_) (a' := ?_) #[true, true, false, true, false, false, false, false, false, false] rfl rfl (take_ofW HT_.out HW_.out (by kernel_rfl)) (fun _ _ _ h => h) (Or.inl ⟨by rfl, ?_⟩) hHeld ?_ ?_
  rotate_left
  ·rintro w' ⟨s0, s1, s2, s3, s4⟩
   go_simp
   with_reducible rfl
  rotate_left
  ·simp only [Act.put, za_, zb_, zc_, i64_w, i32_w]
   rfl
  refine take_ (i := 4) (N := some 17) (v := ?_) (a' := ?_) #[true, true, false, true, true, false, false, false, false, false] rfl rfl (take_ofW HT_.out HW_.out (by kernel_rfl)) (fun _ _ _ h => h) (Or.inl ⟨by rfl, ?_⟩) hHeld ?_ ?_
  rotate_left
  ·rintro w' ⟨s0, s1, s2, s3, s4⟩
   go_simp
   with_reducible rfl
  rotate_left
  ·simp only [Act.put, za_, zb_, zc_, i64_w, i32_w]
   rfl
  refine one_ (i := 2) (N := some 15) #[true, true, true, true, true, false, false, false, false, false] rfl rfl (one_of HT_.out (by kernel_rfl)) (by decide) (fun K hK => ?_)
  refine goes_ Try.func92 (by kernel_rfl) rfl #[.agg #[.int .i64 a0_0, .int .i64 a0_1, .slice A0_2 l0_2.length c0_2], .int .i64 a1] (by rfl) rfl rfl (by (try simp only [ma_, mb_, mc_]); first | done | rfl | (simp only [List.length_drop, List.length_take]; rfl)) ?_
  with_reducible refine (spec_vfValues.calls k a0_0 a0_1 _ _ l0_2 a1 t1305 _ ?side1 ?side2 A6.out).mono ?_
  (case side1 => exact Kd.C_mv (Kd.C_below HR0_2.out HB.out))
  (case side2 => exact HC0_2.out)
  rintro e w15 ⟨v1306, rfl, ho0, hb⟩
  refine ⟨_, rfl, ?_⟩
  refine ev4 (Kd.R_lower ho0 (below_size (bm HB))) (kb BK1302 hb) (kb BK1303 hb) (bs HB hb) ?_
  clear BK1302 BK1303 HB
  intro HO1307 BK1302 BK1303 HB
  (try clear hb)
  (try clear hb2)
  (try clear hk)
  (try clear hi)
  (try clear ho0)
  obtain ⟨Ao16, co16, eo16⟩ := Kd.R_slice HO1307.out
  (first | subst eo16 | (injection eo16 with f1_ f2_ f3_; have f4_ := f1_.symm; have f5_ := f3_.symm; clear f1_ f2_ f3_; subst f4_; subst f5_))
  refine hK.out _ _ ⟨(blk_cell BK1302.out 0).trans rfl, (blk_cell BK1302.out 1).trans rfl, (blk_cell BK1302.out 2).trans rfl, (blk_cell BK1303.out 0).trans rfl, (blk_cell BK1303.out 1).trans rfl⟩ (fun hHeld => ?_)
  clear hK K
  refine norm_ (a' := ?_) ?_ ?_
  rotate_left
  ·show Act.put _ (some 15) _ = _
   simp only [Act.put, za_, zb_, zc_, i64_w, i32_w]
   rfl
  refine one_ (i := 5) (N := some 18) #[true, true, true, true, true, true, false, false, false, false] rfl rfl (one_of HT_.out (by kernel_rfl)) (by decide) (fun K hK => ?_)
  refine goes_ Try.func91 (by kernel_rfl) rfl #[.slice Ao16 t1305.length co16, .slice A2_1 l2_1.length c2_1] (by rfl) rfl rfl (by (try simp only [ma_, mb_, mc_]); first | done | rfl | (simp only [List.length_drop, List.length_take]; rfl)) ?_
  with_reducible refine (spec_vfWrong.calls k _ _ t1305 _ _ l2_1 t1308 _ ?side1 ?side2 ?side3 ?side4 A7.out).mono ?_
  (case side1 => exact Kd.C_mv (Kd.R_reads' HO1307.out).2.2)
  (case side2 => exact (Kd.R_reads' HO1307.out).2.1)
  (case side3 => exact Kd.C_mv (Kd.C_below HR2_1.out HB.out))
  (case side4 => exact HC2_1.out)
  rintro e w17 ⟨v1309, rfl, ho0, hb⟩
  refine ⟨_, rfl, ?_⟩
  refine ev5 (Kd.R_elder' (Kd.R_mv HO1307.out) (Kd.R_base ho0) hb) (Kd.R_lower (Kd.R_new' ho0 (Kd.R_lt (Kd.R_mv HO1307.out))) (below_size (bm HB))) (kb BK1302 hb) (kb BK1303 hb) (bs HB hb) ?_
  clear HO1307 BK1302 BK1303 HB
  intro HO1307 HO1310 BK1302 BK1303 HB
  (try clear hb)
  (try clear hb2)
  (try clear hk)
  (try clear hi)
  (try clear ho0)
  obtain ⟨Ao18, co18, eo18⟩ := Kd.R_slice HO1310.out
  (first | subst eo18 | (injection eo18 with f1_ f2_ f3_; have f4_ := f1_.symm; have f5_ := f3_.symm; clear f1_ f2_ f3_; subst f4_; subst f5_))
  refine hK.out _ _ ⟨(blk_cell BK1302.out 0).trans rfl, (blk_cell BK1302.out 1).trans rfl, (blk_cell BK1302.out 2).trans rfl, (blk_cell BK1303.out 0).trans rfl, (blk_cell BK1303.out 1).trans rfl⟩ (fun hHeld => ?_)
  clear hK K
  refine norm_ (a' := ?_) ?_ ?_
  rotate_left
  ·show Act.put _ (some 18) _ = _
   simp only [Act.put, za_, zb_, zc_, i64_w, i32_w]
   rfl
  refine pure_ (i := 6) (N := some 19) (v := ?_) (a' := ?_) #[true, true, true, true, true, true, true, false, false, false] rfl rfl (any_of HT_.out (by kernel_rfl)) (fun _ _ _ h => h) (Or.inl ⟨by rfl, ?_⟩) ?_ ?_
  rotate_left
  ·intro w'
   go_simp
   with_reducible rfl
  rotate_left
  ·simp only [Act.put, za_, zb_, zc_, i64_w, i32_w]
   rfl
  refine pure_ (i := 7) (N := some 20) (v := ?_) (a' := ?_) #[true, true, true, true, true, true, true, true, false, false] rfl rfl (any_of HT_.out (by kernel_rfl)) (fun _ _ _ h => h) (Or.inl ⟨by rfl, ?_⟩) ?_ ?_
  rotate_left
  ·intro w'
   go_simp
   with_reducible rfl
  rotate_left
  ·simp only [Act.put, za_, zb_, zc_, i64_w, i32_w]
   rfl
  refine pure_ (i := 8) (N := some 6) (v := ?_) (a' := ?_) #[true, true, true, true, true, true, true, true, true, false] rfl rfl (any_of HT_.out (by kernel_rfl)) (fun _ _ _ h => h) (Or.inl ⟨by rfl, ?_⟩) ?_ ?_
  rotate_left
  ·intro w'
   go_simp
   with_reducible rfl
  rotate_left
  ·simp only [Act.put, za_, zb_, zc_, i64_w, i32_w]
   rfl
  refine pure_ (i := 9) (N := some 7) (v := ?_) (a' := ?_) #[true, true, true, true, true, true, true, true, true, true] rfl rfl (any_of HT_.out (by kernel_rfl)) (fun _ _ _ h => h) (Or.inl ⟨by rfl, ?_⟩) ?_ ?_
  rotate_left
  ·intro w'
   go_simp
   with_reducible rfl
  rotate_left
  ·simp only [Act.put, za_, zb_, zc_, i64_w, i32_w]
   rfl
  refine done_ (done_of HT_.out (by kernel_rfl)) ?_
  try go_wp2
  go_ret2
  exact ⟨by first | rfl | (simp [e0_, e1_] <;> rfl) | (simp [*, e0_, e1_] <;> rfl), bm HB⟩
 ·replace c5 := Bool.eq_false_iff.mpr c5
  subst c5
  have H1 : (some (false, false)) = some (r1, r2) := by rw [if_neg (show ¬ (false = true) by decide)] at H; exact H
  clear H
  have H := H1
  clear H1
  simp only [Option.some.injEq, Prod.mk.injEq] at H
  obtain ⟨rfl, rfl⟩ := H
  go_enter Try.func46, Try.ntmps46
  go_wp2_with (first | ((with_reducible refine gate_dst (N := 3) rfl ?_); refine box_event ?hg (N := 3) ?hd (cs := #[.int .i64 a0_0, .int .i64 a0_1, .slice A0_2 l0_2.length c0_2]) (t := 48) ?hr ?_; (case hd => rfl); (case hg => rfl); (case hr => first | (go_simp; done) | (go_simp; rfl)); intro gb1302 hg w19 hbox hb; refine ev4 (bs HB hb) (hbox) (gle hg HB) (gle hg HB) ?_; clear HB; intro HB BK1302 GW1302 GE1302; clear hb hbox hg) | ((with_reducible refine gate_dst (N := 5) rfl ?_); refine box_event ?hg (N := 5) ?hd (cs := #[.int .i64 a2_0, .slice A2_1 l2_1.length c2_1]) (t := 66) ?hr ?_; (case hd => rfl); (case hg => rfl); (case hr => first | (go_simp; done) | (go_simp; rfl)); intro gb1303 hg w20 hbox hb; refine ev7 (kb BK1302 hb) (bs HB hb) (hbox) (gle hg HB) (gle hg HB) (gnf hg BK1302) (gne hg BK1302) ?_; clear BK1302 HB; intro BK1302 HB BK1303 GW1303 GE1303 NB1302_1303 NB1303_1302; clear hb hbox hg; have hnb21 := NB1302_1303.out; have hnc21 := NB1303_1302.out; obtain ⟨hcz22_0, hcz22_1, hcz22_2, hfz22_0, hfz22_1, hfz22_2⟩ := bt3 BK1302; obtain ⟨hcz23_0, hcz23_1, hfz23_0, hfz23_1⟩ := bt2 BK1303) | ((with_reducible refine gate_callee (f := 90) rfl ?_); refine goesL_ (some 11) rfl rfl Try.func90 (by kernel_rfl) rfl #[.agg #[.int .i64 a0_0, .int .i64 a0_1, .slice A0_2 l0_2.length c0_2], .int .i64 a1, .agg #[.int .i64 a2_0, .slice A2_1 l2_1.length c2_1]] rfl (by (try simp only [ma_, mb_, mc_]); first | done | rfl | (simp only [List.length_drop, List.length_take]; rfl)) ?_; (with_reducible refine (spec_vfTable.calls k a0_0 a0_1 _ _ l0_2 a1 a2_0 _ _ l2_1 false _ (Kd.C_mv (Kd.C_below HR0_2.out HB.out)) HC0_2.out (Kd.C_mv (Kd.C_below HR2_1.out HB.out)) HC2_1.out A4.out).mono ?_); rintro e w24 ⟨rfl, hb⟩; refine ⟨_, rfl, ?_⟩; refine ev3 (kb BK1302 hb) (kb BK1303 hb) (bs HB hb) ?_; clear BK1302 BK1303 HB; intro BK1302 BK1303 HB; (try clear hb); (try clear hb2); (try clear hk); (try clear hi)))
  go_ret2
  exact ⟨by first | rfl | (simp [e0_, e1_] <;> rfl) | (simp [*, e0_, e1_] <;> rfl), bm HB⟩

/-! ### laws_toTable: function 47 -/
def laws_toTable.f (k : Nat) (a0_0 : Int) (l0_1 : List Int) : Option (Int × List Int) := (laws_toIntS.f k l0_1).bind fun t1314 => (some (a0_0, t1314))
set_option maxHeartbeats 8000000 in
set_option maxRecDepth 100000 in
theorem laws_toTable.calls (k : Nat) (a0_0 : Int) (A0_1 : Option Addr) (c0_1 : Nat) (l0_1 : List Int) (r1 : Int) (r2 : List Int) (w : World) (hr0_1 : Kd.C (Kd.int .i64) w A0_1 l0_1.length l0_1) (hc0_1 : l0_1.length ≤ c0_1) (h : laws_toTable.f k a0_0 l0_1 = some (r1, r2)) :
  Calls Try.prog 47 #[.agg #[.int .i64 a0_0, .slice A0_1 l0_1.length c0_1]] w fun e w' => ∃ v1_ : Value, e = .returned (.agg #[.int .i64 r1, v1_]) ∧ Kd.R (Kd.int .i64) 3 w' w.heap.size (fun _ => True) v1_ r2 ∧ Below w.heap.size w w' := by
 have HR0_1 := Aside0.mk hr0_1
 have HC0_1 := Aside0.mk hc0_1
 clear hr0_1 hc0_1
 have HB := Aside0.mk (Below.refl w.heap.size w)
 have H : ((laws_toIntS.f k l0_1).bind fun t1314 => (some (a0_0, t1314))) = some (r1, r2) := h
 clear h
 replace H := Option.bind_eq_some_iff.mp H
 obtain ⟨t1314, A20, H⟩ := H
 replace H : (some (a0_0, t1314)) = some (r1, r2) := H
 have A2 := Aside0.mk A20
 clear A20
 simp only [Option.some.injEq, Prod.mk.injEq] at H
 obtain ⟨rfl, rfl⟩ := H
 go_enter Try.func47, Try.ntmps47
 go_wp2_with (first | ((with_reducible refine gate_dst (N := 1) rfl ?_); refine box_event ?hg (N := 1) ?hd (cs := #[.int .i64 a0_0, .slice A0_1 l0_1.length c0_1]) (t := 62) ?hr ?_; (case hd => rfl); (case hg => rfl); (case hr => first | (go_simp; done) | (go_simp; rfl)); intro gb1311 hg w3 hbox hb; refine ev4 (bs HB hb) (hbox) (gle hg HB) (gle hg HB) ?_; clear HB; intro HB BK1311 GW1311 GE1311; clear hb hbox hg) | ((with_reducible refine gate_dst (N := 2) rfl ?_); refine box_event ?hg (N := 2) ?hd (cs := #[.int .i64 0, .slice none 0 0]) (t := 66) ?hr ?_; (case hd => rfl); (case hg => rfl); (case hr => first | (go_simp; done) | (go_simp; rfl)); intro gb1312 hg w4 hbox hb; refine ev7 (kb BK1311 hb) (bs HB hb) (hbox) (gle hg HB) (gle hg HB) (gnf hg BK1311) (gne hg BK1311) ?_; clear BK1311 HB; intro BK1311 HB BK1312 GW1312 GE1312 NB1311_1312 NB1312_1311; clear hb hbox hg) | ((with_reducible refine gate_dst (N := 3) rfl ?_); refine box_event ?hg (N := 3) ?hd (cs := #[.int .i64 0, .slice none 0 0]) (t := 66) ?hr ?_; (case hd => rfl); (case hg => rfl); (case hr => first | (go_simp; done) | (go_simp; rfl)); intro gb1313 hg w5 hbox hb; refine ev10 (kb BK1311 hb) (kb BK1312 hb) (bs HB hb) (hbox) (gle hg HB) (gle hg HB) (gnf hg BK1311) (gne hg BK1311) (gnf hg BK1312) (gne hg BK1312) ?_; clear BK1311 BK1312 HB; intro BK1311 BK1312 HB BK1313 GW1313 GE1313 NB1311_1313 NB1313_1311 NB1312_1313 NB1313_1312; clear hb hbox hg; have hnb6 := NB1311_1312.out; have hnc6 := NB1312_1311.out; have hnb7 := NB1311_1313.out; have hnc7 := NB1313_1311.out; obtain ⟨hcz8_0, hcz8_1, hfz8_0, hfz8_1⟩ := bt2 BK1311; have hnb9 := NB1313_1312.out; have hnc9 := NB1312_1313.out; obtain ⟨hcz10_0, hcz10_1, hfz10_0, hfz10_1⟩ := bt2 BK1313) | ((with_reducible refine gate_callee (f := 16) rfl ?_); refine goesL_ (some 9) rfl rfl Try.func16 (by kernel_rfl) rfl #[.slice A0_1 l0_1.length c0_1] rfl (by (try simp only [ma_, mb_, mc_]); first | done | rfl | (simp only [List.length_drop, List.length_take]; rfl)) ?_; (with_reducible refine (laws_toIntS.calls k _ _ l0_1 t1314 _ (Kd.C_below HR0_1.out (bm HB)) HC0_1.out A2.out).mono ?_); rintro e w11 ⟨v1315, rfl, ho0, hb⟩; refine ⟨_, rfl, ?_⟩; refine ev5 (Kd.R_lower ho0 (below_size (bm HB))) (blk_below (g := gb1311) (o := .cells #[.int .i64 a0_0, .slice A0_1 l0_1.length c0_1] 62 (0, 0)) (fp BK1311 rfl) hb) (blk_below (g := gb1312) (o := .cells #[.int .i64 0, .slice none 0 0] 66 (0, 0)) (fp BK1312 rfl) hb) (blk_below (g := gb1313) (o := .cells #[.int .i64 a0_0, .slice none 0 0] 66 (0, 0)) (fp BK1313 rfl) hb) (bs HB hb) ?_; clear BK1311 BK1312 BK1313 HB; intro HO1316 BK1311 BK1312 BK1313 HB; (try clear hb); (try clear hb2); (try clear hk); (try clear hi); (try clear ho0); obtain ⟨Ao12, co12, eo12⟩ := Kd.R_slice HO1316.out; subst eo12; obtain ⟨hcz13_0, hcz13_1, hfz13_0, hfz13_1⟩ := bt2 BK1313; obtain ⟨hcz14_0, hcz14_1, hfz14_0, hfz14_1⟩ := bt2 BK1312))
 refine bodyPost_ret (results_cell_row rfl _ _ gb1312 66 #[.int .i64 a0_0, .slice Ao12 t1314.length co12] (0, 0) _ rfl (fp BK1312 rfl) Try.underlying66 rfl (by kernel_rfl)) rfl ?_
 exact ⟨_, by first | rfl | (simp [e0_, e1_] <;> rfl) | (simp [*, e0_, e1_] <;> rfl), Kd.R_mv (Kd.R_mono (ok' := fun k_ => True) (Kd.R_far (p := ⟨gb1312, 1, none⟩) (Kd.R_far (p := ⟨gb1312, 0, none⟩) (Kd.R_far (p := ⟨gb1313, 1, none⟩) (Kd.R_types (Kd.R_types HO1316.out BK1313.out (by decide)) BK1312.out (by decide)) (fun _ hk => hk.1.2) (.slice Ao12 t1314.length co12)) (fun _ hk => hk.2) (.int .i64 a0_0)) (fun _ hk => hk.2) (.slice Ao12 t1314.length co12)) (fun _ hk => trivial)), bm HB⟩

/-! ### impl_areBits: function 140 -/
def impl_areBits.l0 : Nat → List Int → Int → Int → Option (Bool)
 | 0, _, _, _ => none
 | k + 1, x5, x6, x7 => if x7 < x6 then (if 0 ≤ x7 then (if x7 < (x5.length : Int) then (if (rd x5 x7) = 0 then (impl_areBits.l0 k x5 x6 (wrap64 (x7 + 1))) else (if (rd x5 x7) = 1 then (impl_areBits.l0 k x5 x6 (wrap64 (x7 + 1))) else (some false))) else (none)) else (none)) else (some true)
def impl_areBits.f (k : Nat) (l0 : List Int) : Option (Bool) := impl_areBits.l0 k l0 (l0.length : Int) 0
set_option maxHeartbeats 8000000 in
set_option maxRecDepth 100000 in
theorem impl_areBits.calls (k : Nat) (A0 : Option Addr) (c0 : Nat) (l0 : List Int) (r : Bool) (w : World) (hr0 : Kd.C (Kd.int .i64) w A0 l0.length l0) (hc0 : l0.length ≤ c0) (h : impl_areBits.f k l0 = some r) :
  Calls Try.prog 140 #[.slice A0 l0.length c0] w fun e w' => e = .returned (.bool r) ∧ Drawn0 w w' := by
 have HR0 := Aside0.mk hr0
 have HC0 := Aside0.mk hc0
 clear hr0 hc0
 have H : (impl_areBits.l0 k l0 (l0.length : Int) 0) = some r := h
 clear h
 have H' := Aside0.mk H
 clear H
 go_enter Try.func140, Try.ntmps140
 go_wp2
 go_loopg [7] k (fun kq v7 w' => ∃ (x7_1 : Int), v7 = .int .i64 x7_1 ∧ Aside0 (impl_areBits.l0 kq l0 (l0.length : Int) x7_1 = some r) ∧ Aside0 (kq ≤ k) ∧ Drawn0 w w')
 case atStart => exact ⟨(0), (by first | rfl | (simp; done) | (simp [*]; done)), H', ⟨Nat.le_refl _⟩, by repeat (first | exact Drawn0.refl _ | apply Drawn0.step)⟩
 case round =>
  clear H'
  try clear c1
  obtain ⟨x7_1, rfl, HA, HK1, ⟨m1, rfl⟩⟩ := hrel
  cases gk with
  | zero => exact absurd HA.out (by simp [impl_areBits.l0])
  | succ k1 =>
   have H := HA.out
   clear HA
   simp only [impl_areBits.l0] at H
   by_cases c2 : x7_1 < (l0.length : Int)
   ·rw [if_pos c2] at H
    have c2b0 : decide (x7_1 < (l0.length : Int)) = true := decide_eq_true c2
    clear c2
    by_cases c3 : 0 ≤ x7_1
    ·rw [if_pos c3] at H
     have c3b0 : decide (0 ≤ x7_1) = true := decide_eq_true c3
     clear c3
     by_cases c4 : x7_1 < (l0.length : Int)
     ·rw [if_pos c4] at H
      have c4b0 : decide (x7_1 < (l0.length : Int)) = true := decide_eq_true c4
      clear c4
      by_cases c5 : (rd l0 x7_1) = 0
      ·rw [if_pos c5] at H
       have c5b0 : ((rd l0 x7_1) == 0) = true := beq_iff_eq.mpr c5
       have c5b1 : ((rd l0 x7_1) != 0) = false := bne_eq_false_iff_eq.mpr c5
       clear c5
       have H' := Aside0.mk H
       clear H
       have p1333 : 0 ≤ (x7_1 : Int) := of_decide_eq_true (by first | (with_reducible assumption) | assumption)
       have q1333 : x7_1 < (l0.length : Int) := of_decide_eq_true (by first | (with_reducible assumption) | assumption)
       obtain ⟨ad1333, e1333, hx1333_0⟩ := Kd.at_int HR0.out x7_1 p1333 q1333
       cases e1333
       replace p1333 := eq_true p1333
       replace q1333 := eq_true q1333
       go_wp2
       go_roundg k1
       case measure => have := HK1.out; omega
       case rel => exact ⟨(wrap64 (x7_1 + 1)), (by first | rfl | (simp; done) | (simp [*]; done)), H', ⟨by have := HK1.out; omega⟩, by repeat (first | exact Drawn0.refl _ | apply Drawn0.step)⟩
      ·rw [if_neg c5] at H
       have c5b0 : ((rd l0 x7_1) == 0) = false := beq_eq_false_iff_ne.mpr c5
       have c5b1 : ((rd l0 x7_1) != 0) = true := bne_iff_ne.mpr c5
       by_cases c6 : (rd l0 x7_1) = 1
       ·rw [if_pos c6] at H
        have c6b0 : ((rd l0 x7_1) == 1) = true := beq_iff_eq.mpr c6
        have c6b1 : ((rd l0 x7_1) != 1) = false := bne_eq_false_iff_eq.mpr c6
        clear c6
        have H' := Aside0.mk H
        clear H
        have p1333 : 0 ≤ (x7_1 : Int) := of_decide_eq_true (by first | (with_reducible assumption) | assumption)
        have q1333 : x7_1 < (l0.length : Int) := of_decide_eq_true (by first | (with_reducible assumption) | assumption)
        obtain ⟨ad1333, e1333, hx1333_0⟩ := Kd.at_int HR0.out x7_1 p1333 q1333
        cases e1333
        replace p1333 := eq_true p1333
        replace q1333 := eq_true q1333
        go_wp2
        go_roundg k1
        case measure => have := HK1.out; omega
        case rel => exact ⟨(wrap64 (x7_1 + 1)), (by first | rfl | (simp; done) | (simp [*]; done)), H', ⟨by have := HK1.out; omega⟩, by repeat (first | exact Drawn0.refl _ | apply Drawn0.step)⟩
       ·rw [if_neg c6] at H
        have c6b0 : ((rd l0 x7_1) == 1) = false := beq_eq_false_iff_ne.mpr c6
        have c6b1 : ((rd l0 x7_1) != 1) = true := bne_iff_ne.mpr c6
        obtain rfl := Option.some.inj H
        have p1333 : 0 ≤ (x7_1 : Int) := of_decide_eq_true (by first | (with_reducible assumption) | assumption)
        have q1333 : x7_1 < (l0.length : Int) := of_decide_eq_true (by first | (with_reducible assumption) | assumption)
        obtain ⟨ad1333, e1333, hx1333_0⟩ := Kd.at_int HR0.out x7_1 p1333 q1333
        cases e1333
        replace p1333 := eq_true p1333
        replace q1333 := eq_true q1333
        go_wp2
        go_ret
        exact ⟨by first | rfl | (simp; done) | (simp [*]; done), by repeat (first | exact Drawn0.refl _ | apply Drawn0.step)⟩
     ·rw [if_neg c4] at H
      exact absurd H (by simp)
    ·rw [if_neg c3] at H
     exact absurd H (by simp)
   ·rw [if_neg c2] at H
    have c2b0 : decide (x7_1 < (l0.length : Int)) = false := decide_eq_false c2
    clear c2
    obtain rfl := Option.some.inj H
    go_wp2
    go_ret
    exact ⟨by first | rfl | (simp; done) | (simp [*]; done), by repeat (first | exact Drawn0.refl _ | apply Drawn0.step)⟩

/-! ### impl_IsTable: function 124 -/
def impl_IsTable.f (k : Nat) (a0_0 : Int) (l0_1 : List Int) : Option (Bool) := if a0_0 ≥ 0 then (if a0_0 ≤ 4 then (if 0 ≤ a0_0 then (if (l0_1.length : Int) = (shl .i64 1 a0_0) then ((impl_areBits.f k l0_1).bind fun t1335 => (some t1335)) else (some false)) else (none)) else (some false)) else (some false)
set_option maxHeartbeats 8000000 in
set_option maxRecDepth 100000 in
theorem impl_IsTable.calls (k : Nat) (a0_0 : Int) (A0_1 : Option Addr) (c0_1 : Nat) (l0_1 : List Int) (r : Bool) (w : World) (hr0_1 : Kd.C (Kd.int .i64) w A0_1 l0_1.length l0_1) (hc0_1 : l0_1.length ≤ c0_1) (h : impl_IsTable.f k a0_0 l0_1 = some r) :
  Calls Try.prog 124 #[.agg #[.int .i64 a0_0, .slice A0_1 l0_1.length c0_1]] w fun e w' => e = .returned (.bool r) ∧ Below w.heap.size w w' := by
 have HR0_1 := Aside0.mk hr0_1
 have HC0_1 := Aside0.mk hc0_1
 clear hr0_1 hc0_1
 have HB := Aside0.mk (Below.refl w.heap.size w)
 have H : (if a0_0 ≥ 0 then (if a0_0 ≤ 4 then (if 0 ≤ a0_0 then (if (l0_1.length : Int) = (shl .i64 1 a0_0) then ((impl_areBits.f k l0_1).bind fun t1335 => (some t1335)) else (some false)) else (none)) else (some false)) else (some false)) = some r := h
 clear h
 by_cases c2 : a0_0 ≥ 0
 ·rw [if_pos c2] at H
  have c2b0 : decide (0 ≤ a0_0) = true := decide_eq_true c2
  clear c2
  by_cases c3 : a0_0 ≤ 4
  ·rw [if_pos c3] at H
   have c3b0 : decide (a0_0 ≤ 4) = true := decide_eq_true c3
   clear c3
   by_cases c4 : 0 ≤ a0_0
   ·rw [if_pos c4] at H
    have c4b0 := eq_true c4
    have c4b1 : decide (0 ≤ a0_0) = true := decide_eq_true c4
    clear c4
    obtain ⟨ji5, hji5⟩ : ∃ j_ : Int, (shl .i64 1 a0_0) = j_ := ⟨_, rfl⟩
    replace H : (if (l0_1.length : Int) = (ji5) then ((impl_areBits.f k l0_1).bind fun t1335 => (some t1335)) else (some false)) = some r := by first | (rw [hji5] at H; exact H) | (simp only [hji5] at H ⊢; exact H)
    have hji5_ : (IntKind.i64.wrap (1 * 2 ^ min a0_0.toNat 64)) = ji5 := hji5
    have hji5z : a0_0 ≤ 64 → (IntKind.i64.wrap (1 * 2 ^ a0_0.toNat)) = ji5 := shl_small hji5
    have hji5u : (IntKind.i64.wrap (2 ^ min a0_0.toNat 64)) = ji5 := by have h_ := hji5_; rw [Int.one_mul] at h_; exact h_
    have hji5v : a0_0 ≤ 64 → (IntKind.i64.wrap (2 ^ a0_0.toNat)) = ji5 := fun hle_ => by have h_ := hji5z hle_; rw [Int.one_mul] at h_; exact h_
    have hji5y : (wrap64 (1 * 2 ^ min a0_0.toNat 64)) = ji5 := (i64_w _).symm.trans hji5_
    have hji5x : a0_0 ≤ 64 → (wrap64 (1 * 2 ^ a0_0.toNat)) = ji5 := fun h_ => (i64_w _).symm.trans (hji5z h_)
    by_cases c6 : (l0_1.length : Int) = (ji5)
    ·rw [if_pos c6] at H
     have c6b0 : ((l0_1.length : Int) == (ji5)) = true := beq_iff_eq.mpr c6
     have c6b1 : ((l0_1.length : Int) != (ji5)) = false := bne_eq_false_iff_eq.mpr c6
     clear c6
     replace H := Option.bind_eq_some_iff.mp H
     obtain ⟨t1335, A70, H⟩ := H
     replace H : (some t1335) = some r := H
     have A7 := Aside0.mk A70
     clear A70
     obtain rfl := Option.some.inj H
     go_enter Try.func124, Try.ntmps124
     go_wp2_with (first | ((with_reducible refine gate_dst (N := 1) rfl ?_); refine box_event ?hg (N := 1) ?hd (cs := #[.int .i64 a0_0, .slice A0_1 l0_1.length c0_1]) (t := 66) ?hr ?_; (case hd => rfl); (case hg => rfl); (case hr => first | (go_simp; done) | (go_simp; rfl)); intro gb1334 hg w8 hbox hb; refine ev4 (bs HB hb) (hbox) (gle hg HB) (gle hg HB) ?_; clear HB; intro HB BK1334 GW1334 GE1334; clear hb hbox hg; obtain ⟨hcz9_0, hcz9_1, hfz9_0, hfz9_1⟩ := bt2 BK1334) | (go_at_call 140; (with_reducible refine (impl_areBits.calls k _ _ l0_1 t1335 _ (Kd.C_mv (Kd.C_below HR0_1.out HB.out)) HC0_1.out A7.out).mono ?_); rintro e w' ⟨rfl, ⟨nd, rfl⟩⟩; (try first | exact ⟨rfl, _, World.drewN_drewN _ _ _⟩ | exact ⟨rfl, _, Eq.trans (World.drewN_drewN _ _ _) (congrArg (World.drewN _) (Nat.add_assoc _ _ _))⟩)))
     repeat (go_quiet (first | ((with_reducible refine gate_dst (N := 1) rfl ?_); refine box_event ?hg (N := 1) ?hd (cs := #[.int .i64 a0_0, .slice A0_1 l0_1.length c0_1]) (t := 66) ?hr ?_; (case hd => rfl); (case hg => rfl); (case hr => first | (go_simp; done) | (go_simp; rfl)); intro gb1334 hg w8 hbox hb; refine ev4 (bs HB hb) (hbox) (gle hg HB) (gle hg HB) ?_; clear HB; intro HB BK1334 GW1334 GE1334; clear hb hbox hg; obtain ⟨hcz9_0, hcz9_1, hfz9_0, hfz9_1⟩ := bt2 BK1334) | (go_at_call 140; (with_reducible refine (impl_areBits.calls k _ _ l0_1 t1335 _ (Kd.C_mv (Kd.C_below HR0_1.out HB.out)) HC0_1.out A7.out).mono ?_); rintro e w' ⟨rfl, ⟨nd, rfl⟩⟩; (try first | exact ⟨rfl, _, World.drewN_drewN _ _ _⟩ | exact ⟨rfl, _, Eq.trans (World.drewN_drewN _ _ _) (congrArg (World.drewN _) (Nat.add_assoc _ _ _))⟩))); try go_wp2_with (first | ((with_reducible refine gate_dst (N := 1) rfl ?_); refine box_event ?hg (N := 1) ?hd (cs := #[.int .i64 a0_0, .slice A0_1 l0_1.length c0_1]) (t := 66) ?hr ?_; (case hd => rfl); (case hg => rfl); (case hr => first | (go_simp; done) | (go_simp; rfl)); intro gb1334 hg w8 hbox hb; refine ev4 (bs HB hb) (hbox) (gle hg HB) (gle hg HB) ?_; clear HB; intro HB BK1334 GW1334 GE1334; clear hb hbox hg; obtain ⟨hcz9_0, hcz9_1, hfz9_0, hfz9_1⟩ := bt2 BK1334) | (go_at_call 140; (with_reducible refine (impl_areBits.calls k _ _ l0_1 t1335 _ (Kd.C_mv (Kd.C_below HR0_1.out HB.out)) HC0_1.out A7.out).mono ?_); rintro e w' ⟨rfl, ⟨nd, rfl⟩⟩; (try first | exact ⟨rfl, _, World.drewN_drewN _ _ _⟩ | exact ⟨rfl, _, Eq.trans (World.drewN_drewN _ _ _) (congrArg (World.drewN _) (Nat.add_assoc _ _ _))⟩))))
     go_ret
     exact ⟨by first | rfl | (simp [e0_, e1_] <;> rfl) | (simp only [← hji5]; first | rfl | (simp [e0_, e1_] <;> rfl)) | (simp [*, e0_, e1_] <;> rfl), bm HB⟩
    ·rw [if_neg c6] at H
     have c6b0 : ((l0_1.length : Int) == (ji5)) = false := beq_eq_false_iff_ne.mpr c6
     have c6b1 : ((l0_1.length : Int) != (ji5)) = true := bne_iff_ne.mpr c6
     obtain rfl := Option.some.inj H
     go_enter Try.func124, Try.ntmps124
     go_wp2_with (first | ((with_reducible refine gate_dst (N := 1) rfl ?_); refine box_event ?hg (N := 1) ?hd (cs := #[.int .i64 a0_0, .slice A0_1 l0_1.length c0_1]) (t := 66) ?hr ?_; (case hd => rfl); (case hg => rfl); (case hr => first | (go_simp; done) | (go_simp; rfl)); intro gb1334 hg w10 hbox hb; refine ev4 (bs HB hb) (hbox) (gle hg HB) (gle hg HB) ?_; clear HB; intro HB BK1334 GW1334 GE1334; clear hb hbox hg; obtain ⟨hcz11_0, hcz11_1, hfz11_0, hfz11_1⟩ := bt2 BK1334))
     repeat (go_quiet (first | ((with_reducible refine gate_dst (N := 1) rfl ?_); refine box_event ?hg (N := 1) ?hd (cs := #[.int .i64 a0_0, .slice A0_1 l0_1.length c0_1]) (t := 66) ?hr ?_; (case hd => rfl); (case hg => rfl); (case hr => first | (go_simp; done) | (go_simp; rfl)); intro gb1334 hg w10 hbox hb; refine ev4 (bs HB hb) (hbox) (gle hg HB) (gle hg HB) ?_; clear HB; intro HB BK1334 GW1334 GE1334; clear hb hbox hg; obtain ⟨hcz11_0, hcz11_1, hfz11_0, hfz11_1⟩ := bt2 BK1334)); try go_wp2_with (first | ((with_reducible refine gate_dst (N := 1) rfl ?_); refine box_event ?hg (N := 1) ?hd (cs := #[.int .i64 a0_0, .slice A0_1 l0_1.length c0_1]) (t := 66) ?hr ?_; (case hd => rfl); (case hg => rfl); (case hr => first | (go_simp; done) | (go_simp; rfl)); intro gb1334 hg w10 hbox hb; refine ev4 (bs HB hb) (hbox) (gle hg HB) (gle hg HB) ?_; clear HB; intro HB BK1334 GW1334 GE1334; clear hb hbox hg; obtain ⟨hcz11_0, hcz11_1, hfz11_0, hfz11_1⟩ := bt2 BK1334)))
     go_ret
     exact ⟨by first | rfl | (simp [e0_, e1_] <;> rfl) | (simp only [← hji5]; first | rfl | (simp [e0_, e1_] <;> rfl)) | (simp [*, e0_, e1_] <;> rfl), bm HB⟩
   ·rw [if_neg c4] at H
    exact absurd H (by simp)
  ·rw [if_neg c3] at H
   have c3b0 : decide (a0_0 ≤ 4) = false := decide_eq_false c3
   clear c3
   obtain rfl := Option.some.inj H
   go_enter Try.func124, Try.ntmps124
   go_wp2_with (first | ((with_reducible refine gate_dst (N := 1) rfl ?_); refine box_event ?hg (N := 1) ?hd (cs := #[.int .i64 a0_0, .slice A0_1 l0_1.length c0_1]) (t := 66) ?hr ?_; (case hd => rfl); (case hg => rfl); (case hr => first | (go_simp; done) | (go_simp; rfl)); intro gb1334 hg w12 hbox hb; refine ev4 (bs HB hb) (hbox) (gle hg HB) (gle hg HB) ?_; clear HB; intro HB BK1334 GW1334 GE1334; clear hb hbox hg; obtain ⟨hcz13_0, hcz13_1, hfz13_0, hfz13_1⟩ := bt2 BK1334))
   repeat (go_quiet (first | ((with_reducible refine gate_dst (N := 1) rfl ?_); refine box_event ?hg (N := 1) ?hd (cs := #[.int .i64 a0_0, .slice A0_1 l0_1.length c0_1]) (t := 66) ?hr ?_; (case hd => rfl); (case hg => rfl); (case hr => first | (go_simp; done) | (go_simp; rfl)); intro gb1334 hg w12 hbox hb; refine ev4 (bs HB hb) (hbox) (gle hg HB) (gle hg HB) ?_; clear HB; intro HB BK1334 GW1334 GE1334; clear hb hbox hg; obtain ⟨hcz13_0, hcz13_1, hfz13_0, hfz13_1⟩ := bt2 BK1334)); try go_wp2_with (first | ((with_reducible refine gate_dst (N := 1) rfl ?_); refine box_event ?hg (N := 1) ?hd (cs := #[.int .i64 a0_0, .slice A0_1 l0_1.length c0_1]) (t := 66) ?hr ?_; (case hd => rfl); (case hg => rfl); (case hr => first | (go_simp; done) | (go_simp; rfl)); intro gb1334 hg w12 hbox hb; refine ev4 (bs HB hb) (hbox) (gle hg HB) (gle hg HB) ?_; clear HB; intro HB BK1334 GW1334 GE1334; clear hb hbox hg; obtain ⟨hcz13_0, hcz13_1, hfz13_0, hfz13_1⟩ := bt2 BK1334)))
   go_ret
   exact ⟨by first | rfl | (simp [e0_, e1_] <;> rfl) | (simp [*, e0_, e1_] <;> rfl), bm HB⟩
 ·rw [if_neg c2] at H
  have c2b0 : decide (0 ≤ a0_0) = false := decide_eq_false c2
  clear c2
  obtain rfl := Option.some.inj H
  go_enter Try.func124, Try.ntmps124
  go_wp2_with (first | ((with_reducible refine gate_dst (N := 1) rfl ?_); refine box_event ?hg (N := 1) ?hd (cs := #[.int .i64 a0_0, .slice A0_1 l0_1.length c0_1]) (t := 66) ?hr ?_; (case hd => rfl); (case hg => rfl); (case hr => first | (go_simp; done) | (go_simp; rfl)); intro gb1334 hg w14 hbox hb; refine ev4 (bs HB hb) (hbox) (gle hg HB) (gle hg HB) ?_; clear HB; intro HB BK1334 GW1334 GE1334; clear hb hbox hg; obtain ⟨hcz15_0, hcz15_1, hfz15_0, hfz15_1⟩ := bt2 BK1334))
  repeat (go_quiet (first | ((with_reducible refine gate_dst (N := 1) rfl ?_); refine box_event ?hg (N := 1) ?hd (cs := #[.int .i64 a0_0, .slice A0_1 l0_1.length c0_1]) (t := 66) ?hr ?_; (case hd => rfl); (case hg => rfl); (case hr => first | (go_simp; done) | (go_simp; rfl)); intro gb1334 hg w14 hbox hb; refine ev4 (bs HB hb) (hbox) (gle hg HB) (gle hg HB) ?_; clear HB; intro HB BK1334 GW1334 GE1334; clear hb hbox hg; obtain ⟨hcz15_0, hcz15_1, hfz15_0, hfz15_1⟩ := bt2 BK1334)); try go_wp2_with (first | ((with_reducible refine gate_dst (N := 1) rfl ?_); refine box_event ?hg (N := 1) ?hd (cs := #[.int .i64 a0_0, .slice A0_1 l0_1.length c0_1]) (t := 66) ?hr ?_; (case hd => rfl); (case hg => rfl); (case hr => first | (go_simp; done) | (go_simp; rfl)); intro gb1334 hg w14 hbox hb; refine ev4 (bs HB hb) (hbox) (gle hg HB) (gle hg HB) ?_; clear HB; intro HB BK1334 GW1334 GE1334; clear hb hbox hg; obtain ⟨hcz15_0, hcz15_1, hfz15_0, hfz15_1⟩ := bt2 BK1334)))
  go_ret
  exact ⟨by first | rfl | (simp [e0_, e1_] <;> rfl) | (simp [*, e0_, e1_] <;> rfl), bm HB⟩

/-! ### impl_wrongIndices: function 125 -/
def impl_wrongIndices.l0 : Nat → List Int → List Int → Int → Int → Int → List Int → Option (List Int)
 | 0, _, _, _, _, _, _ => none
 | k + 1, x5, x9, x10, x11, x1337000, x1337001 => if x11 < x10 then (if 0 ≤ x11 then (if x11 < (x9.length : Int) then (if x11 < (x1337001.length : Int) then (if (rd x9 x11) = (rd x1337001 x11) then (impl_wrongIndices.l0 k x5 x9 x10 (wrap64 (x11 + 1)) x1337000 x1337001) else (if x5.length < 17592186044416 then (impl_wrongIndices.l0 k (x5 ++ [x11]) x9 x10 (wrap64 (x11 + 1)) x1337000 x1337001) else (none))) else (none)) else (none)) else (none)) else (some x5)
def impl_wrongIndices.f (k : Nat) (l0 : List Int) (a1_0 : Int) (l1_1 : List Int) : Option (List Int) := impl_wrongIndices.l0 k (([] : List Int)) l0 (l0.length : Int) 0 a1_0 l1_1
set_option maxHeartbeats 8000000 in
set_option maxRecDepth 100000 in
theorem impl_wrongIndices.calls (k : Nat) (A0 : Option Addr) (c0 : Nat) (l0 : List Int) (a1_0 : Int) (A1_1 : Option Addr) (c1_1 : Nat) (l1_1 : List Int) (r : List Int) (w : World) (hr0 : Kd.C (Kd.int .i64) w A0 l0.length l0) (hc0 : l0.length ≤ c0) (hr1_1 : Kd.C (Kd.int .i64) w A1_1 l1_1.length l1_1) (hc1_1 : l1_1.length ≤ c1_1) (h : impl_wrongIndices.f k l0 a1_0 l1_1 = some r) :
  Calls Try.prog 125 #[.slice A0 l0.length c0, .agg #[.int .i64 a1_0, .slice A1_1 l1_1.length c1_1]] w fun e w' => ∃ v0_ : Value, e = .returned (v0_) ∧ Kd.R (Kd.int .i64) 3 w' w.heap.size (fun _ => True) v0_ r ∧ Below w.heap.size w w' := by
 have HR0 := Aside0.mk hr0
 have HC0 := Aside0.mk hc0
 clear hr0 hc0
 have HR1_1 := Aside0.mk hr1_1
 have HC1_1 := Aside0.mk hc1_1
 clear hr1_1 hc1_1
 have HB := Aside0.mk (Below.refl w.heap.size w)
 have H : (impl_wrongIndices.l0 k (([] : List Int)) l0 (l0.length : Int) 0 a1_0 l1_1) = some r := h
 clear h
 obtain ⟨y1337, hy1337⟩ : ∃ y_ : List Int, y_ = (([] : List Int)) := ⟨_, rfl⟩
 replace H : (impl_wrongIndices.l0 k y1337 l0 (l0.length : Int) 0 a1_0 l1_1) = some r := by first | (rw [hy1337]; with_reducible exact H) | (have H2_ := (Option.bind_some _ _).symm.trans H; rw [hy1337]; with_reducible exact H2_) | (have H2_ := (Option.bind_some _ _).symm.trans H; with_reducible exact H2_) | with_reducible exact H | (rw [hy1337]; exact H) | exact H
 have Ny1337 := Aside0.mk hy1337
 clear hy1337
 have H' := Aside0.mk H
 clear H
 go_enter Try.func125, Try.ntmps125
 go_wp2_with (first | ((with_reducible refine gate_dst (N := 3) rfl ?_); refine box_event ?hg (N := 3) ?hd (cs := #[.int .i64 a1_0, .slice A1_1 l1_1.length c1_1]) (t := 66) ?hr ?_; (case hd => rfl); (case hg => rfl); (case hr => first | (go_simp; done) | (go_simp; rfl)); intro gb1336 hg w3 hbox hb; refine ev4 (bs HB hb) (hbox) (gle hg HB) (gle hg HB) ?_; clear HB; intro HB BK1336 GW1336 GE1336; clear hb hbox hg) | ((with_reducible refine gate_dst (N := 8) rfl ?_); refine Kd.R_lit (Kd.int .i64) _ 3 ?hg (N := 8) ?hd (xs := ([] : List Int)) (inner := []) (ok := fun _ => True) (okp := fun _ => True) ?hr ?hp (fun _ hk => hk) trivial (Below.refl _ _) (Nat.le_refl _) (by simp) ?_; (case hd => rfl); (case hg => rfl); (case hr => first | (go_simp; done) | (go_simp; rfl)); (case hp => exact (Reps.none _ _)); intro v1338 w4 ho5 hb hg_ hnew_; clear hg_ hnew_; (first | rw [← Ny1337.out] at ho5 | (simp only [Int.reduceToNat] at ho5; rw [← Ny1337.out] at ho5)); refine ev3 (Kd.R_lower ho5 (below_size (bm HB))) (kb BK1336 hb) (bs HB hb) ?_; clear BK1336 HB; intro HO1339 BK1336 HB; clear hb ho5))
 go_loopg [5, 11] k (fun kq v5 v11 w' => ∃ (x5_1 : List Int) (x11_1 : Int), v11 = .int .i64 x11_1 ∧ Aside0 (impl_wrongIndices.l0 kq x5_1 l0 (l0.length : Int) x11_1 a1_0 l1_1 = some r) ∧ Aside0 (kq ≤ k) ∧ Aside0 (Kd.R (Kd.int .i64) 3 w' w.heap.size (fun _ => True) v5 x5_1) ∧ Aside0 (w'.heap[gb1336]? = some (.cells #[.int .i64 a1_0, (.slice A1_1 l1_1.length c1_1)] 66 (0, 0))) ∧ Aside0 (Below w.heap.size w w'))
 case atStart => exact ⟨(y1337), (0), (by first | rfl | (simp; done) | (simp [*]; done)), H', ⟨Nat.le_refl _⟩, ⟨Kd.R_mv HO1339.out⟩, ⟨km_ BK1336⟩, ⟨bm HB⟩⟩
 case round =>
  clear H'
  try clear c1
  try clear p2
  obtain ⟨x5_1, x11_1, rfl, HA, HK1, HO_5, BK1336, HB⟩ := hrel
  cases gk with
  | zero => exact absurd HA.out (by simp [impl_wrongIndices.l0])
  | succ k1 =>
   have H := HA.out
   clear HA
   simp only [impl_wrongIndices.l0] at H
   by_cases c6 : x11_1 < (l0.length : Int)
   ·rw [if_pos c6] at H
    have c6b0 : decide (x11_1 < (l0.length : Int)) = true := decide_eq_true c6
    clear c6
    by_cases c7 : 0 ≤ x11_1
    ·rw [if_pos c7] at H
     have c7b0 : decide (0 ≤ x11_1) = true := decide_eq_true c7
     clear c7
     by_cases c8 : x11_1 < (l0.length : Int)
     ·rw [if_pos c8] at H
      have c8b0 : decide (x11_1 < (l0.length : Int)) = true := decide_eq_true c8
      clear c8
      by_cases c9 : x11_1 < (l1_1.length : Int)
      ·rw [if_pos c9] at H
       have c9b0 : decide (x11_1 < (l1_1.length : Int)) = true := decide_eq_true c9
       clear c9
       by_cases c10 : (rd l0 x11_1) = (rd l1_1 x11_1)
       ·rw [if_pos c10] at H
        have c10b0 : ((rd l0 x11_1) == (rd l1_1 x11_1)) = true := beq_iff_eq.mpr c10
        have c10b1 : ((rd l0 x11_1) != (rd l1_1 x11_1)) = false := bne_eq_false_iff_eq.mpr c10
        clear c10
        have H' := Aside0.mk H
        clear H
        have p1340 : 0 ≤ (x11_1 : Int) := of_decide_eq_true (by first | (with_reducible assumption) | assumption)
        have q1340 : x11_1 < (l0.length : Int) := of_decide_eq_true (by first | (with_reducible assumption) | assumption)
        obtain ⟨ad1340, e1340, hx1340_0⟩ := Kd.at_int HR0.out x11_1 p1340 q1340
        cases e1340
        replace hx1340_0 := (HB.out.cell (World.block_lt_of_cell? w _ hx1340_0)).trans hx1340_0
        replace p1340 := eq_true p1340
        replace q1340 := eq_true q1340
        obtain ⟨hcz11_0, hcz11_1, hfz11_0, hfz11_1⟩ := bt2 BK1336
        have p1341 : 0 ≤ (x11_1 : Int) := of_decide_eq_true (by first | (with_reducible assumption) | assumption)
        have q1341 : x11_1 < (l1_1.length : Int) := of_decide_eq_true (by first | (with_reducible assumption) | assumption)
        obtain ⟨ad1341, e1341, hx1341_0⟩ := Kd.at_int HR1_1.out x11_1 p1341 q1341
        cases e1341
        replace hx1341_0 := (HB.out.cell (World.block_lt_of_cell? w _ hx1341_0)).trans hx1341_0
        replace p1341 := eq_true p1341
        replace q1341 := eq_true q1341
        go_wp2
        go_roundg k1
        case measure => have := HK1.out; omega
        case rel => exact ⟨(x5_1), (wrap64 (x11_1 + 1)), (by first | rfl | (simp; done) | (simp [*]; done)), H', ⟨by have := HK1.out; omega⟩, ⟨Kd.R_mv HO_5.out⟩, ⟨km_ BK1336⟩, ⟨bm HB⟩⟩
       ·rw [if_neg c10] at H
        have c10b0 : ((rd l0 x11_1) == (rd l1_1 x11_1)) = false := beq_eq_false_iff_ne.mpr c10
        have c10b1 : ((rd l0 x11_1) != (rd l1_1 x11_1)) = true := bne_iff_ne.mpr c10
        by_cases c12 : x5_1.length < 17592186044416
        ·rw [if_pos c12] at H
         have LMc12 := Aside0.mk c12
         clear c12
         obtain ⟨y1342, hy1342⟩ : ∃ y_ : List Int, y_ = (x5_1 ++ [x11_1]) := ⟨_, rfl⟩
         replace H : (impl_wrongIndices.l0 k1 y1342 l0 (l0.length : Int) (wrap64 (x11_1 + 1)) a1_0 l1_1) = some r := by first | (rw [hy1342]; with_reducible exact H) | (have H2_ := (Option.bind_some _ _).symm.trans H; rw [hy1342]; with_reducible exact H2_) | (have H2_ := (Option.bind_some _ _).symm.trans H; with_reducible exact H2_) | with_reducible exact H | (rw [hy1342]; exact H) | exact H
         have Ny1342 := Aside0.mk hy1342
         clear hy1342
         have H' := Aside0.mk H
         clear H
         have p1340 : 0 ≤ (x11_1 : Int) := of_decide_eq_true (by first | (with_reducible assumption) | assumption)
         have q1340 : x11_1 < (l0.length : Int) := of_decide_eq_true (by first | (with_reducible assumption) | assumption)
         obtain ⟨ad1340, e1340, hx1340_0⟩ := Kd.at_int HR0.out x11_1 p1340 q1340
         cases e1340
         replace hx1340_0 := (HB.out.cell (World.block_lt_of_cell? w _ hx1340_0)).trans hx1340_0
         replace p1340 := eq_true p1340
         replace q1340 := eq_true q1340
         obtain ⟨hcz13_0, hcz13_1, hfz13_0, hfz13_1⟩ := bt2 BK1336
         have p1341 : 0 ≤ (x11_1 : Int) := of_decide_eq_true (by first | (with_reducible assumption) | assumption)
         have q1341 : x11_1 < (l1_1.length : Int) := of_decide_eq_true (by first | (with_reducible assumption) | assumption)
         obtain ⟨ad1341, e1341, hx1341_0⟩ := Kd.at_int HR1_1.out x11_1 p1341 q1341
         cases e1341
         replace hx1341_0 := (HB.out.cell (World.block_lt_of_cell? w _ hx1341_0)).trans hx1341_0
         replace p1341 := eq_true p1341
         replace q1341 := eq_true q1341
         go_wp2_with (first | ((with_reducible refine gate_builtin (b := .append) (xs := #[.tmp 23, .tmp 25]) rfl ?_); at_builtin; refine Kd.R_append (Kd.int .i64) (w0 := w) w.heap.size rfl (.tmp 23) (.tmp 25) 22 3 (.int .i64 0) 8 rfl Try.underlying22 info3 rfl (by decide) (by omega) u5 x5_1 x11_1 [.int .i64 x11_1] (fun _ => True) (fun _ => False) rfl rfl ?aP (fun _ hk => hk.elim) ?aF ?aO ?aB ?aS ?aL ?_; (case aP => exact rfl); (case aB => exact (bm HB)); (case aF => exact (fun _ _ => trivial)); (case aO => exact (Kd.R_mv HO_5.out)); (case aS => exact (below_size (bm HB))); (case aL => have := LMc12.out; omega); intro v1343 w14 ho hb hg hat; rw [← Ny1342.out] at ho; refine ev3 (blk_grown (km_ BK1336) hg (Kd.R_ne HO_5.out BK1336.out (by decide))) (hb) (ho) ?_; clear BK1336 HB HO_5; intro BK1336 HB HO1344; clear ho hb hg hat))
         go_roundg k1
         case measure => have := HK1.out; omega
         case rel => exact ⟨(y1342), (wrap64 (x11_1 + 1)), (by first | rfl | (simp; done) | (simp [*]; done)), H', ⟨by have := HK1.out; omega⟩, ⟨Kd.R_mv HO1344.out⟩, ⟨km_ BK1336⟩, ⟨bm HB⟩⟩
        ·rw [if_neg c12] at H
         exact absurd H (by simp)
      ·rw [if_neg c9] at H
       exact absurd H (by simp)
     ·rw [if_neg c8] at H
      exact absurd H (by simp)
    ·rw [if_neg c7] at H
     exact absurd H (by simp)
   ·rw [if_neg c6] at H
    have c6b0 : decide (x11_1 < (l0.length : Int)) = false := decide_eq_false c6
    clear c6
    obtain rfl := Option.some.inj H
    go_wp2
    go_ret
    exact ⟨_, by first | rfl | (simp [e0_, e1_] <;> rfl) | (simp [*, e0_, e1_] <;> rfl), Kd.R_mv HO_5.out, bm HB⟩

/-! ### impl_WrongEntries: function 93 -/
def impl_WrongEntries.j0 : Nat → Int → Bool → Int → Int → List (S78) → Int → List Int → Option (List Int × Bool)
 | 0, _, _, _, _, _, _, _ => none
 | k + 1, x1, x24, x1346000, x1346001, x1346002, x1347000, x1347001 => if x24 = true then (some (([] : List Int), false)) else ((impl_entryValues.f k x1346000 x1346001 x1346002 x1).bind fun t1349 => ((impl_wrongIndices.f k t1349 x1347000 x1347001).bind fun t1352 => (some (t1352, true))))
def impl_WrongEntries.f (k : Nat) (a0_0 : Int) (a0_1 : Int) (l0_2 : List (S78)) (a1 : Int) (a2_0 : Int) (l2_1 : List Int) : Option (List Int × Bool) := (impl_readByEntries.f k a0_0 a0_1 l0_2 a1).bind fun t1347 => (if t1347 = true then ((impl_IsTable.f k a2_0 l2_1).bind fun t1348 => (if t1348 = true then (if 0 ≤ a2_0 then (impl_WrongEntries.j0 k a1 (a0_1 != (shl .i64 1 a2_0)) a0_0 a0_1 l0_2 a2_0 l2_1) else (none)) else (impl_WrongEntries.j0 k a1 true a0_0 a0_1 l0_2 a2_0 l2_1))) else (impl_WrongEntries.j0 k a1 true a0_0 a0_1 l0_2 a2_0 l2_1))
def impl_WrongEntries.T1 : Bool × List (List Nat × List Nat) := (true, [([], []), ([], []), ([0, 1], [0, 1]), ([2], [2]), ([3, 2], [3]), ([4], [4]), ([5, 4, 4], [4, 5]), ([6, 4], [4, 6]), ([4, 7], [4, 7]), ([8, 6], [8]), ([9], [9]), ([10, 9], [9, 10]), ([9], [9]), ([12, 9], [9, 12]), ([13, 9], [9, 13]), ([11, 14, 9], [9, 11, 14]), ([9, 15], [9, 15])])
def impl_WrongEntries.B1 : List Nat := [0, 0, 3, 7, 15, 31, 63, 127, 255, 511, 1023, 2047, 1023, 5119, 13311, 32767, 65535]
theorem impl_WrongEntries.tab1 : rtab .any (opsOf Try.f93 1) = impl_WrongEntries.T1 := by kernel_rfl
theorem impl_WrongEntries.bits1 : waitsOk impl_WrongEntries.T1.2 impl_WrongEntries.B1 = true := by kernel_rfl
set_option maxHeartbeats 8000000 in
set_option maxRecDepth 100000 in
theorem impl_WrongEntries.calls (k : Nat) (a0_0 : Int) (a0_1 : Int) (A0_2 : Option Addr) (c0_2 : Nat) (l0_2 : List (S78)) (a1 : Int) (a2_0 : Int) (A2_1 : Option Addr) (c2_1 : Nat) (l2_1 : List Int) (r1 : List Int) (r2 : Bool) (w : World) (hr0_2 : Kd.C k78 w A0_2 l0_2.length l0_2) (hc0_2 : l0_2.length ≤ c0_2) (hr2_1 : Kd.C (Kd.int .i64) w A2_1 l2_1.length l2_1) (hc2_1 : l2_1.length ≤ c2_1) (h : impl_WrongEntries.f k a0_0 a0_1 l0_2 a1 a2_0 l2_1 = some (r1, r2)) :
  Calls Try.prog 93 #[.agg #[.int .i64 a0_0, .int .i64 a0_1, .slice A0_2 l0_2.length c0_2], .int .i64 a1, .agg #[.int .i64 a2_0, .slice A2_1 l2_1.length c2_1]] w fun e w' => ∃ v0_ : Value, e = .returned (.tuple #[v0_, .bool r2]) ∧ Kd.R (Kd.int .i64) 3 w' w.heap.size (fun _ => True) v0_ r1 ∧ Below w.heap.size w w' := by
 have HR0_2 := Aside0.mk hr0_2
 have HC0_2 := Aside0.mk hc0_2
 clear hr0_2 hc0_2
 have HR2_1 := Aside0.mk hr2_1
 have HC2_1 := Aside0.mk hc2_1
 clear hr2_1 hc2_1
 have HB := Aside0.mk (Below.refl w.heap.size w)
 have H : ((impl_readByEntries.f k a0_0 a0_1 l0_2 a1).bind fun t1347 => (if t1347 = true then ((impl_IsTable.f k a2_0 l2_1).bind fun t1348 => (if t1348 = true then (if 0 ≤ a2_0 then (impl_WrongEntries.j0 k a1 (a0_1 != (shl .i64 1 a2_0)) a0_0 a0_1 l0_2 a2_0 l2_1) else (none)) else (impl_WrongEntries.j0 k a1 true a0_0 a0_1 l0_2 a2_0 l2_1))) else (impl_WrongEntries.j0 k a1 true a0_0 a0_1 l0_2 a2_0 l2_1))) = some (r1, r2) := h
 clear h
 have HC4 := Aside0.mk H
 clear H
 go_enter Try.func93, Try.ntmps93
 go_upto_region 1 with (first | ((with_reducible refine gate_dst (N := 3) rfl ?_); refine box_event ?hg (N := 3) ?hd (cs := #[.int .i64 a0_0, .int .i64 a0_1, .slice A0_2 l0_2.length c0_2]) (t := 48) ?hr ?_; (case hd => rfl); (case hg => rfl); (case hr => first | (go_simp; done) | (go_simp; rfl)); intro gb1345 hg w5 hbox hb; refine ev4 (bs HB hb) (hbox) (gle hg HB) (gle hg HB) ?_; clear HB; intro HB BK1345 GW1345 GE1345; clear hb hbox hg) | ((with_reducible refine gate_dst (N := 5) rfl ?_); refine box_event ?hg (N := 5) ?hd (cs := #[.int .i64 a2_0, .slice A2_1 l2_1.length c2_1]) (t := 66) ?hr ?_; (case hd => rfl); (case hg => rfl); (case hr => first | (go_simp; done) | (go_simp; rfl)); intro gb1346 hg w6 hbox hb; refine ev7 (kb BK1345 hb) (bs HB hb) (hbox) (gle hg HB) (gle hg HB) (gnf hg BK1345) (gne hg BK1345) ?_; clear BK1345 HB; intro BK1345 HB BK1346 GW1346 GE1346 NB1345_1346 NB1346_1345; clear hb hbox hg))
 (try simp only [Act.put, za_, zb_, zc_])
 go_cut [24] (fun v24 wc => ∃ (kq : Nat) (x24_3 : Bool), v24 = .bool x24_3 ∧ Aside0 (impl_WrongEntries.j0 kq a1 x24_3 a0_0 a0_1 l0_2 a2_0 l2_1 = some (r1, r2)) ∧ Aside0 (kq ≤ k) ∧ Aside0 (wc.heap[gb1345]? = some (.cells #[.int .i64 a0_0, .int .i64 a0_1, (.slice A0_2 l0_2.length c0_2)] 48 (0, 0))) ∧ Aside0 (wc.heap[gb1346]? = some (.cells #[.int .i64 a2_0, (.slice A2_1 l2_1.length c2_1)] 66 (0, 0))) ∧ Aside0 (Below w.heap.size w wc))
 case first =>
  have H := HC4.out
  clear HC4
  replace H := Option.bind_eq_some_iff.mp H
  obtain ⟨t1347, A70, H⟩ := H
  replace H : (if t1347 = true then ((impl_IsTable.f k a2_0 l2_1).bind fun t1348 => (if t1348 = true then (if 0 ≤ a2_0 then (impl_WrongEntries.j0 k a1 (a0_1 != (shl .i64 1 a2_0)) a0_0 a0_1 l0_2 a2_0 l2_1) else (none)) else (impl_WrongEntries.j0 k a1 true a0_0 a0_1 l0_2 a2_0 l2_1))) else (impl_WrongEntries.j0 k a1 true a0_0 a0_1 l0_2 a2_0 l2_1)) = some (r1, r2) := H
  have A7 := Aside0.mk A70
  clear A70
  by_cases c8 : t1347 = true
  ·subst c8
   have H1 : ((impl_IsTable.f k a2_0 l2_1).bind fun t1348 => (if t1348 = true then (if 0 ≤ a2_0 then (impl_WrongEntries.j0 k a1 (a0_1 != (shl .i64 1 a2_0)) a0_0 a0_1 l0_2 a2_0 l2_1) else (none)) else (impl_WrongEntries.j0 k a1 true a0_0 a0_1 l0_2 a2_0 l2_1))) = some (r1, r2) := by rw [if_pos rfl] at H; exact H
   clear H
   have H := H1
   clear H1
   replace H := Option.bind_eq_some_iff.mp H
   obtain ⟨t1348, A90, H⟩ := H
   replace H : (if t1348 = true then (if 0 ≤ a2_0 then (impl_WrongEntries.j0 k a1 (a0_1 != (shl .i64 1 a2_0)) a0_0 a0_1 l0_2 a2_0 l2_1) else (none)) else (impl_WrongEntries.j0 k a1 true a0_0 a0_1 l0_2 a2_0 l2_1)) = some (r1, r2) := H
   have A9 := Aside0.mk A90
   clear A90
   by_cases c10 : t1348 = true
   ·subst c10
    have H1 : (if 0 ≤ a2_0 then (impl_WrongEntries.j0 k a1 (a0_1 != (shl .i64 1 a2_0)) a0_0 a0_1 l0_2 a2_0 l2_1) else (none)) = some (r1, r2) := by rw [if_pos rfl] at H; exact H
    clear H
    have H := H1
    clear H1
    by_cases c11 : 0 ≤ a2_0
    ·rw [if_pos c11] at H
     have c11b0 := eq_true c11
     have c11b1 : decide (0 ≤ a2_0) = true := decide_eq_true c11
     clear c11
     obtain ⟨ji12, hji12⟩ : ∃ j_ : Int, (shl .i64 1 a2_0) = j_ := ⟨_, rfl⟩
     replace H : (impl_WrongEntries.j0 k a1 (a0_1 != (ji12)) a0_0 a0_1 l0_2 a2_0 l2_1) = some (r1, r2) := by first | (rw [hji12] at H; exact H) | (simp only [hji12] at H ⊢; exact H)
     (try rw [hji12] at A7)
     (try rw [hji12] at A9)
     have hji12_ : (IntKind.i64.wrap (1 * 2 ^ min a2_0.toNat 64)) = ji12 := hji12
     have hji12z : a2_0 ≤ 64 → (IntKind.i64.wrap (1 * 2 ^ a2_0.toNat)) = ji12 := shl_small hji12
     have hji12u : (IntKind.i64.wrap (2 ^ min a2_0.toNat 64)) = ji12 := by have h_ := hji12_; rw [Int.one_mul] at h_; exact h_
     have hji12v : a2_0 ≤ 64 → (IntKind.i64.wrap (2 ^ a2_0.toNat)) = ji12 := fun hle_ => by have h_ := hji12z hle_; rw [Int.one_mul] at h_; exact h_
     have hji12y : (wrap64 (1 * 2 ^ min a2_0.toNat 64)) = ji12 := (i64_w _).symm.trans hji12_
     have hji12x : a2_0 ≤ 64 → (wrap64 (1 * 2 ^ a2_0.toNat)) = ji12 := fun h_ => (i64_w _).symm.trans (hji12z h_)
     have H' := Aside0.mk H
     clear H
     try go_wp2
     refine ev3 (blk_drew BK1345.out) (blk_drew BK1346.out) (below_drew1 HB.out) ?_
     clear BK1345 BK1346 HB
     intro BK1345 BK1346 HB
     refine start_ (n := 17) (S := fun w' => w'.cell? ⟨gb1345, 0, none⟩ = some (.int .i64 a0_0) ∧ w'.cell? ⟨gb1345, 1, none⟩ = some (.int .i64 a0_1) ∧ w'.cell? ⟨gb1345, 2, none⟩ = some (.slice A0_2 l0_2.length c0_2) ∧ w'.cell? ⟨gb1346, 0, none⟩ = some (.int .i64 a2_0) ∧ w'.cell? ⟨gb1346, 1, none⟩ = some (.slice A2_1 l2_1.length c2_1)) (ds := []) #[false, false, false, false, false, false, false, false, false, false, false, false, false, false, false, false, false] (by kernel_rfl) rfl rfl ⟨(blk_cell BK1345.out 0).trans rfl, (blk_cell BK1345.out 1).trans rfl, (blk_cell BK1345.out 2).trans rfl, (blk_cell BK1346.out 0).trans rfl, (blk_cell BK1346.out 1).trans rfl⟩ (fun hHeld => ?_); refine with_tabW impl_WrongEntries.tab1 impl_WrongEntries.bits1 (fun HT_ HW_ => ?_)
     generalize w6.drew = w13 at BK1345 BK1346 HB hHeld ⊢
     refine pure_ (i := 1) (N := some 9) (v := ?_) (a' := ?_) #[false, true, false, false, false, false, false, false, false, false, false, false, false, false, false, false, false] rfl rfl (any_of HT_.out (by kernel_rfl)) (fun _ _ _ h => h) (Or.inl ⟨by rfl, ?_⟩) ?_ ?_
     rotate_left
     ·intro w'
      go_simp
      with_reducible rfl
     rotate_left
     ·simp only [Act.put, za_, zb_, zc_, i64_w, i32_w]
      rfl
     refine take_ (i := 0) (N := some 8) (v := ?_) (a' := ?_) #[true, true, false, false, false, false, false, false, false, false, false, false, false, false, false, false, false] rfl rfl (take_ofW HT_.out HW_.out (by kernel_rfl)) (fun _ _ _ h => h) (Or.inl ⟨by rfl, ?_⟩) hHeld ?_ ?_
     rotate_left
     ·rintro w' ⟨s0, s1, s2, s3, s4⟩
      go_simp
      with_reducible rfl
     rotate_left
     ·simp only [Act.put, za_, zb_, zc_, i64_w, i32_w]
      rfl
     refine one_ (i := 2) (N := some 10) #[true, true, true, false, false, false, false, false, false, false, false, false, false, false, false, false, false] rfl rfl (one_of HT_.out (by kernel_rfl)) (by decide) (fun K hK => ?_)
     refine goes_ Try.func102 (by kernel_rfl) rfl #[.agg #[.int .i64 a0_0, .int .i64 a0_1, .slice A0_2 l0_2.length c0_2], .int .i64 a1] (by rfl) rfl rfl (by (try simp only [ma_, mb_, mc_]); first | done | rfl | (simp only [List.length_drop, List.length_take]; rfl)) ?_
     with_reducible refine (impl_readByEntries.calls k a0_0 a0_1 _ _ l0_2 a1 true _ ?side1 ?side2 A7.out).mono ?_
     (case side1 => exact Kd.C_mv (Kd.C_below HR0_2.out HB.out))
     (case side2 => exact HC0_2.out)
     rintro e w14 ⟨rfl, hb⟩
     refine ⟨_, rfl, ?_⟩
     refine ev3 (kb BK1345 hb) (kb BK1346 hb) (bs HB hb) ?_
     clear BK1345 BK1346 HB
     intro BK1345 BK1346 HB
     (try clear hb)
     (try clear hb2)
     (try clear hk)
     (try clear hi)
     refine hK.out _ _ ⟨(blk_cell BK1345.out 0).trans rfl, (blk_cell BK1345.out 1).trans rfl, (blk_cell BK1345.out 2).trans rfl, (blk_cell BK1346.out 0).trans rfl, (blk_cell BK1346.out 1).trans rfl⟩ (fun hHeld => ?_)
     clear hK K
     refine norm_ (a' := ?_) ?_ ?_
     rotate_left
     ·show Act.put _ (some 10) _ = _
      simp only [Act.put, za_, zb_, zc_, i64_w, i32_w]
      rfl
     refine pure_ (i := 3) (N := some 11) (v := ?_) (a' := ?_) #[true, true, true, true, false, false, false, false, false, false, false, false, false, false, false, false, false] rfl rfl (any_of HT_.out (by kernel_rfl)) (fun _ _ _ h => h) (Or.inl ⟨by rfl, ?_⟩) ?_ ?_
     rotate_left
     ·intro w'
      go_simp
      with_reducible rfl
     rotate_left
     ·simp only [Act.put, za_, zb_, zc_, i64_w, i32_w]
      rfl
     refine pure_ (i := 4) (N := some 12) (v := ?_) (a' := ?_) #[true, true, true, true, true, false, false, false, false, false, false, false, false, false, false, false, false] rfl rfl (any_of HT_.out (by kernel_rfl)) (fun _ _ _ h => h) (Or.inl ⟨by rfl, ?_⟩) ?_ ?_
     rotate_left
     ·intro w'
      go_simp
      with_reducible rfl
     rotate_left
     ·simp only [Act.put, za_, zb_, zc_, i64_w, i32_w]
      rfl
     refine take_ (i := 5) (N := some 13) (v := ?_) (a' := ?_) #[true, true, true, true, true, true, false, false, false, false, false, false, false, false, false, false, false] rfl rfl (take_ofW HT_.out HW_.out (by kernel_rfl)) (fun _ _ _ h => h) (Or.inl ⟨by rfl, ?_⟩) hHeld ?_ ?_
     rotate_left
     ·rintro w' ⟨s0, s1, s2, s3, s4⟩
      go_simp
      with_reducible rfl
     rotate_left
     ·simp only [Act.put, za_, zb_, zc_, i64_w, i32_w]
      rfl
     refine one_ (i := 6) (N := some 14) #[true, true, true, true, true, true, true, false, false, false, false, false, false, false, false, false, false] rfl rfl (one_of HT_.out (by kernel_rfl)) (by decide) (fun K hK => ?_)
     refine goes_ Try.func124 (by kernel_rfl) rfl #[.agg #[.int .i64 a2_0, .slice A2_1 l2_1.length c2_1]] (by rfl) rfl rfl (by (try simp only [ma_, mb_, mc_]); first | done | rfl | (simp only [List.length_drop, List.length_take]; rfl)) ?_
     with_reducible refine (impl_IsTable.calls k a2_0 _ _ l2_1 true _ ?side1 ?side2 A9.out).mono ?_
     (case side1 => exact Kd.C_mv (Kd.C_below HR2_1.out HB.out))
     (case side2 => exact HC2_1.out)
     rintro e w15 ⟨rfl, hb⟩
     refine ⟨_, rfl, ?_⟩
     refine ev3 (kb BK1345 hb) (kb BK1346 hb) (bs HB hb) ?_
     clear BK1345 BK1346 HB
     intro BK1345 BK1346 HB
     (try clear hb)
     (try clear hb2)
     (try clear hk)
     (try clear hi)
     refine hK.out _ _ ⟨(blk_cell BK1345.out 0).trans rfl, (blk_cell BK1345.out 1).trans rfl, (blk_cell BK1345.out 2).trans rfl, (blk_cell BK1346.out 0).trans rfl, (blk_cell BK1346.out 1).trans rfl⟩ (fun hHeld => ?_)
     clear hK K
     refine norm_ (a' := ?_) ?_ ?_
     rotate_left
     ·show Act.put _ (some 14) _ = _
      simp only [Act.put, za_, zb_, zc_, i64_w, i32_w]
      rfl
     refine pure_ (i := 7) (N := some 15) (v := ?_) (a' := ?_) #[true, true, true, true, true, true, true, true, false, false, false, false, false, false, false, false, false] rfl rfl (any_of HT_.out (by kernel_rfl)) (fun _ _ _ h => h) (Or.inl ⟨by rfl, ?_⟩) ?_ ?_
     rotate_left
     ·intro w'
      go_simp
      with_reducible rfl
     rotate_left
     ·simp only [Act.put, za_, zb_, zc_, i64_w, i32_w]
      rfl
     refine pure_ (i := 8) (N := some 16) (v := ?_) (a' := ?_) #[true, true, true, true, true, true, true, true, true, false, false, false, false, false, false, false, false] rfl rfl (any_of HT_.out (by kernel_rfl)) (fun _ _ _ h => h) (Or.inl ⟨by rfl, ?_⟩) ?_ ?_
     rotate_left
     ·intro w'
      go_simp
      with_reducible rfl
     rotate_left
     ·simp only [Act.put, za_, zb_, zc_, i64_w, i32_w]
      rfl
     refine pure_ (i := 9) (N := some 17) (v := ?_) (a' := ?_) #[true, true, true, true, true, true, true, true, true, true, false, false, false, false, false, false, false] rfl rfl (any_of HT_.out (by kernel_rfl)) (fun _ _ _ h => h) (Or.inl ⟨by rfl, ?_⟩) ?_ ?_
     rotate_left
     ·intro w'
      go_simp
      with_reducible rfl
     rotate_left
     ·simp only [Act.put, za_, zb_, zc_, i64_w, i32_w]
      rfl
     refine pure_ (i := 10) (N := some 18) (v := ?_) (a' := ?_) #[true, true, true, true, true, true, true, true, true, true, true, false, false, false, false, false, false] rfl rfl (any_of HT_.out (by kernel_rfl)) (fun _ _ _ h => h) (Or.inl ⟨by rfl, ?_⟩) ?_ ?_
     rotate_left
     ·intro w'
      go_simp
      with_reducible rfl
     rotate_left
     ·simp only [Act.put, za_, zb_, zc_, i64_w, i32_w]
      rfl
     refine pure_ (i := 12) (N := some 20) (v := ?_) (a' := ?_) #[true, true, true, true, true, true, true, true, true, true, true, false, true, false, false, false, false] rfl rfl (any_of HT_.out (by kernel_rfl)) (fun _ _ _ h => h) (Or.inl ⟨by rfl, ?_⟩) ?_ ?_
     rotate_left
     ·intro w'
      go_simp
      with_reducible rfl
     rotate_left
     ·simp only [Act.put, za_, zb_, zc_, i64_w, i32_w]
      rfl
     refine take_ (i := 11) (N := some 19) (v := ?_) (a' := ?_) #[true, true, true, true, true, true, true, true, true, true, true, true, true, false, false, false, false] rfl rfl (take_ofW HT_.out HW_.out (by kernel_rfl)) (fun _ _ _ h => h) (Or.inl ⟨by rfl, ?_⟩) hHeld ?_ ?_
     rotate_left
     ·rintro w' ⟨s0, s1, s2, s3, s4⟩
      go_simp
      with_reducible rfl
     rotate_left
     ·simp only [Act.put, za_, zb_, zc_, i64_w, i32_w]
      rfl
     refine take_ (i := 13) (N := some 21) (v := ?_) (a' := ?_) #[true, true, true, true, true, true, true, true, true, true, true, true, true, true, false, false, false] rfl rfl (take_ofW HT_.out HW_.out (by kernel_rfl)) (fun _ _ _ h => h) (Or.inl ⟨by rfl, ?_⟩) hHeld ?_ ?_
     rotate_left
     ·rintro w' ⟨s0, s1, s2, s3, s4⟩
      go_simp
      with_reducible rfl
     rotate_left
     ·simp only [Act.put, za_, zb_, zc_, i64_w, i32_w]
      rfl
     refine pure_ (i := 14) (N := some 22) (v := ?_) (a' := ?_) #[true, true, true, true, true, true, true, true, true, true, true, true, true, true, true, false, false] rfl rfl (any_of HT_.out (by kernel_rfl)) (fun _ _ _ h => h) (Or.inl ⟨by rfl, ?_⟩) ?_ ?_
     rotate_left
     ·intro w'
      go_simp
      with_reducible rfl
     rotate_left
     ·simp only [Act.put, za_, zb_, zc_, i64_w, i32_w]
      rfl
     refine pure_ (i := 15) (N := some 23) (v := ?_) (a' := ?_) #[true, true, true, true, true, true, true, true, true, true, true, true, true, true, true, true, false] rfl rfl (any_of HT_.out (by kernel_rfl)) (fun _ _ _ h => h) (Or.inl ⟨by rfl, ?_⟩) ?_ ?_
     rotate_left
     ·intro w'
      go_simp
      with_reducible rfl
     rotate_left
     ·simp only [Act.put, za_, zb_, zc_, i64_w, i32_w]
      rfl
     refine pure_ (i := 16) (N := some 24) (v := ?_) (a' := ?_) #[true, true, true, true, true, true, true, true, true, true, true, true, true, true, true, true, true] rfl rfl (any_of HT_.out (by kernel_rfl)) (fun _ _ _ h => h) (Or.inl ⟨by rfl, ?_⟩) ?_ ?_
     rotate_left
     ·intro w'
      go_simp
      with_reducible rfl
     rotate_left
     ·simp only [Act.put, za_, zb_, zc_, i64_w, i32_w]
      rfl
     refine done_ (done_of HT_.out (by kernel_rfl)) ?_
     try go_wp2
     go_meet
     case rel => exact ⟨_, ((a0_1 != (ji12))), (by first | rfl | (simp; done) | (simp only [← hji12] <;> (first | rfl | simp)) | (simp [*]; done)), H', ⟨by first | omega | exact Nat.le_refl _⟩, ⟨km_ BK1345⟩, ⟨km_ BK1346⟩, ⟨bm HB⟩⟩
    ·rw [if_neg c11] at H
     exact absurd H (by simp)
   ·replace c10 := Bool.eq_false_iff.mpr c10
    subst c10
    have H1 : (impl_WrongEntries.j0 k a1 true a0_0 a0_1 l0_2 a2_0 l2_1) = some (r1, r2) := by rw [if_neg (show ¬ (false = true) by decide)] at H; exact H
    clear H
    have H := H1
    clear H1
    have H' := Aside0.mk H
    clear H
    try go_wp2
    refine ev3 (blk_drew BK1345.out) (blk_drew BK1346.out) (below_drew1 HB.out) ?_
    clear BK1345 BK1346 HB
    intro BK1345 BK1346 HB
    refine start_ (n := 17) (S := fun w' => w'.cell? ⟨gb1345, 0, none⟩ = some (.int .i64 a0_0) ∧ w'.cell? ⟨gb1345, 1, none⟩ = some (.int .i64 a0_1) ∧ w'.cell? ⟨gb1345, 2, none⟩ = some (.slice A0_2 l0_2.length c0_2) ∧ w'.cell? ⟨gb1346, 0, none⟩ = some (.int .i64 a2_0) ∧ w'.cell? ⟨gb1346, 1, none⟩ = some (.slice A2_1 l2_1.length c2_1)) (ds := []) #[false, false, false, false, false, false, false, false, false, false, false, false, false, false, false, false, false] (by kernel_rfl) rfl rfl ⟨(blk_cell BK1345.out 0).trans rfl, (blk_cell BK1345.out 1).trans rfl, (blk_cell BK1345.out 2).trans rfl, (blk_cell BK1346.out 0).trans rfl, (blk_cell BK1346.out 1).trans rfl⟩ (fun hHeld => ?_); refine with_tabW impl_WrongEntries.tab1 impl_WrongEntries.bits1 (fun HT_ HW_ => ?_)
    generalize w6.drew = w16 at BK1345 BK1346 HB hHeld ⊢
    refine pure_ (i := 1) (N := some 9) (v := ?_) (a' := ?_) #[false, true, false, false, false, false, false, false, false, false, false, false, false, false, false, false, false] rfl rfl (any_of HT_.out (by kernel_rfl)) (fun _ _ _ h => h) (Or.inl ⟨by rfl, ?_⟩) ?_ ?_
    rotate_left
    ·intro w'
     go_simp
     with_reducible rfl
    rotate_left
    ·simp only [Act.put, za_, zb_, zc_, i64_w, i32_w]
     rfl
    refine take_ (i := 0) (N := some 8) (v := ?_) (a' := ?_) #[true, true, false, false, false, false, false, false, false, false, false, false, false, false, false, false, false] rfl rfl (take_ofW HT_.out HW_.out (by kernel_rfl)) (fun _ _ _ h => h) (Or.inl ⟨by rfl, ?_⟩) hHeld ?_ ?_
    rotate_left
    ·rintro w' ⟨s0, s1, s2, s3, s4⟩
     go_simp
     with_reducible rfl
    rotate_left
    ·simp only [Act.put, za_, zb_, zc_, i64_w, i32_w]
     rfl
    refine one_ (i := 2) (N := some 10) #[true, true, true, false, false, false, false, false, false, false, false, false, false, false, false, false, false] rfl rfl (one_of HT_.out (by kernel_rfl)) (by decide) (fun K hK => ?_)
    refine goes_ Try.func102 (by kernel_rfl) rfl #[.agg #[.int .i64 a0_0, .int .i64 a0_1, .slice A0_2 l0_2.length c0_2], .int .i64 a1] (by rfl) rfl rfl (by (try simp only [ma_, mb_, mc_]); first | done | rfl | (simp only [List.length_drop, List.length_take]; rfl)) ?_
    with_reducible refine (impl_readByEntries.calls k a0_0 a0_1 _ _ l0_2 a1 true _ ?side1 ?side2 A7.out).mono ?_
    (case side1 => exact Kd.C_mv (Kd.C_below HR0_2.out HB.out))
    (case side2 => exact HC0_2.out)
    rintro e w17 ⟨rfl, hb⟩
    refine ⟨_, rfl, ?_⟩
    refine ev3 (kb BK1345 hb) (kb BK1346 hb) (bs HB hb) ?_
    clear BK1345 BK1346 HB
    intro BK1345 BK1346 HB
    (try clear hb)
    (try clear hb2)
    (try clear hk)
    (try clear hi)
    refine hK.out _ _ ⟨(blk_cell BK1345.out 0).trans rfl, (blk_cell BK1345.out 1).trans rfl, (blk_cell BK1345.out 2).trans rfl, (blk_cell BK1346.out 0).trans rfl, (blk_cell BK1346.out 1).trans rfl⟩ (fun hHeld => ?_)
    clear hK K
    refine norm_ (a' := ?_) ?_ ?_
    rotate_left
    ·show Act.put _ (some 10) _ = _
     simp only [Act.put, za_, zb_, zc_, i64_w, i32_w]
     rfl
    refine pure_ (i := 3) (N := some 11) (v := ?_) (a' := ?_) #[true, true, true, true, false, false, false, false, false, false, false, false, false, false, false, false, false] rfl rfl (any_of HT_.out (by kernel_rfl)) (fun _ _ _ h => h) (Or.inl ⟨by rfl, ?_⟩) ?_ ?_
    rotate_left
    ·intro w'
     go_simp
     with_reducible rfl
    rotate_left
    ·simp only [Act.put, za_, zb_, zc_, i64_w, i32_w]
     rfl
    refine pure_ (i := 4) (N := some 12) (v := ?_) (a' := ?_) #[true, true, true, true, true, false, false, false, false, false, false, false, false, false, false, false, false] rfl rfl (any_of HT_.out (by kernel_rfl)) (fun _ _ _ h => h) (Or.inl ⟨by rfl, ?_⟩) ?_ ?_
    rotate_left
    ·intro w'
     go_simp
     with_reducible rfl
    rotate_left
    ·simp only [Act.put, za_, zb_, zc_, i64_w, i32_w]
     rfl
    refine take_ (i := 5) (N := some 13) (v := ?_) (a' := ?_) #[true, true, true, true, true, true, false, false, false, false, false, false, false, false, false, false, false] rfl rfl (take_ofW HT_.out HW_.out (by kernel_rfl)) (fun _ _ _ h => h) (Or.inl ⟨by rfl, ?_⟩) hHeld ?_ ?_
    rotate_left
    ·rintro w' ⟨s0, s1, s2, s3, s4⟩
     go_simp
     with_reducible rfl
    rotate_left
    ·simp only [Act.put, za_, zb_, zc_, i64_w, i32_w]
     rfl
    refine one_ (i := 6) (N := some 14) #[true, true, true, true, true, true, true, false, false, false, false, false, false, false, false, false, false] rfl rfl (one_of HT_.out (by kernel_rfl)) (by decide) (fun K hK => ?_)
    refine goes_ Try.func124 (by kernel_rfl) rfl #[.agg #[.int .i64 a2_0, .slice A2_1 l2_1.length c2_1]] (by rfl) rfl rfl (by (try simp only [ma_, mb_, mc_]); first | done | rfl | (simp only [List.length_drop, List.length_take]; rfl)) ?_
    with_reducible refine (impl_IsTable.calls k a2_0 _ _ l2_1 false _ ?side1 ?side2 A9.out).mono ?_
    (case side1 => exact Kd.C_mv (Kd.C_below HR2_1.out HB.out))
    (case side2 => exact HC2_1.out)
    rintro e w18 ⟨rfl, hb⟩
    refine ⟨_, rfl, ?_⟩
    refine ev3 (kb BK1345 hb) (kb BK1346 hb) (bs HB hb) ?_
    clear BK1345 BK1346 HB
    intro BK1345 BK1346 HB
    (try clear hb)
    (try clear hb2)
    (try clear hk)
    (try clear hi)
    refine hK.out _ _ ⟨(blk_cell BK1345.out 0).trans rfl, (blk_cell BK1345.out 1).trans rfl, (blk_cell BK1345.out 2).trans rfl, (blk_cell BK1346.out 0).trans rfl, (blk_cell BK1346.out 1).trans rfl⟩ (fun hHeld => ?_)
    clear hK K
    refine norm_ (a' := ?_) ?_ ?_
    rotate_left
    ·show Act.put _ (some 14) _ = _
     simp only [Act.put, za_, zb_, zc_, i64_w, i32_w]
     rfl
    refine pure_ (i := 7) (N := some 15) (v := ?_) (a' := ?_) #[true, true, true, true, true, true, true, true, false, false, false, false, false, false, false, false, false] rfl rfl (any_of HT_.out (by kernel_rfl)) (fun _ _ _ h => h) (Or.inl ⟨by rfl, ?_⟩) ?_ ?_
    rotate_left
    ·intro w'
     go_simp
     with_reducible rfl
    rotate_left
    ·simp only [Act.put, za_, zb_, zc_, i64_w, i32_w]
     rfl
    refine pure_ (i := 8) (N := some 16) (v := ?_) (a' := ?_) #[true, true, true, true, true, true, true, true, true, false, false, false, false, false, false, false, false] rfl rfl (any_of HT_.out (by kernel_rfl)) (fun _ _ _ h => h) (Or.inl ⟨by rfl, ?_⟩) ?_ ?_
    rotate_left
    ·intro w'
     go_simp
     with_reducible rfl
    rotate_left
    ·simp only [Act.put, za_, zb_, zc_, i64_w, i32_w]
     rfl
    refine pure_ (i := 9) (N := some 17) (v := ?_) (a' := ?_) #[true, true, true, true, true, true, true, true, true, true, false, false, false, false, false, false, false] rfl rfl (any_of HT_.out (by kernel_rfl)) (fun _ _ _ h => h) (Or.inl ⟨by rfl, ?_⟩) ?_ ?_
    rotate_left
    ·intro w'
     go_simp
     with_reducible rfl
    rotate_left
    ·simp only [Act.put, za_, zb_, zc_, i64_w, i32_w]
     rfl
    refine pure_ (i := 10) (N := some 18) (v := undef) (a' := ?_) #[true, true, true, true, true, true, true, true, true, true, true, false, false, false, false, false, false] rfl rfl (any_of HT_.out (by kernel_rfl)) (fun _ _ _ h => h) (Or.inr ⟨by rfl, rfl⟩) ?_ ?_
    rotate_left
    ·simp only [Act.put, za_, zb_, zc_, i64_w, i32_w]
     rfl
    refine pure_ (i := 11) (N := some 19) (v := undef) (a' := ?_) #[true, true, true, true, true, true, true, true, true, true, true, true, false, false, false, false, false] rfl rfl (any_of HT_.out (by kernel_rfl)) (fun _ _ _ h => h) (Or.inr ⟨by rfl, rfl⟩) ?_ ?_
    rotate_left
    ·simp only [Act.put, za_, zb_, zc_, i64_w, i32_w]
     rfl
    refine pure_ (i := 12) (N := some 20) (v := undef) (a' := ?_) #[true, true, true, true, true, true, true, true, true, true, true, true, true, false, false, false, false] rfl rfl (any_of HT_.out (by kernel_rfl)) (fun _ _ _ h => h) (Or.inr ⟨by rfl, rfl⟩) ?_ ?_
    rotate_left
    ·simp only [Act.put, za_, zb_, zc_, i64_w, i32_w]
     rfl
    refine pure_ (i := 13) (N := some 21) (v := undef) (a' := ?_) #[true, true, true, true, true, true, true, true, true, true, true, true, true, true, false, false, false] rfl rfl (any_of HT_.out (by kernel_rfl)) (fun _ _ _ h => h) (Or.inr ⟨by rfl, rfl⟩) ?_ ?_
    rotate_left
    ·simp only [Act.put, za_, zb_, zc_, i64_w, i32_w]
     rfl
    refine pure_ (i := 14) (N := some 22) (v := undef) (a' := ?_) #[true, true, true, true, true, true, true, true, true, true, true, true, true, true, true, false, false] rfl rfl (any_of HT_.out (by kernel_rfl)) (fun _ _ _ h => h) (Or.inr ⟨by rfl, rfl⟩) ?_ ?_
    rotate_left
    ·simp only [Act.put, za_, zb_, zc_, i64_w, i32_w]
     rfl
    refine pure_ (i := 15) (N := some 23) (v := undef) (a' := ?_) #[true, true, true, true, true, true, true, true, true, true, true, true, true, true, true, true, false] rfl rfl (any_of HT_.out (by kernel_rfl)) (fun _ _ _ h => h) (Or.inr ⟨by rfl, rfl⟩) ?_ ?_
    rotate_left
    ·simp only [Act.put, za_, zb_, zc_, i64_w, i32_w]
     rfl
    refine pure_ (i := 16) (N := some 24) (v := ?_) (a' := ?_) #[true, true, true, true, true, true, true, true, true, true, true, true, true, true, true, true, true] rfl rfl (any_of HT_.out (by kernel_rfl)) (fun _ _ _ h => h) (Or.inl ⟨by rfl, ?_⟩) ?_ ?_
    rotate_left
    ·intro w'
     go_simp
     with_reducible rfl
    rotate_left
    ·simp only [Act.put, za_, zb_, zc_, i64_w, i32_w]
     rfl
    refine done_ (done_of HT_.out (by kernel_rfl)) ?_
    try go_wp2
    go_meet
    case rel => exact ⟨_, (true), (by first | rfl | (simp; done) | (simp [*]; done)), H', ⟨by first | omega | exact Nat.le_refl _⟩, ⟨km_ BK1345⟩, ⟨km_ BK1346⟩, ⟨bm HB⟩⟩
  ·replace c8 := Bool.eq_false_iff.mpr c8
   subst c8
   have H1 : (impl_WrongEntries.j0 k a1 true a0_0 a0_1 l0_2 a2_0 l2_1) = some (r1, r2) := by rw [if_neg (show ¬ (false = true) by decide)] at H; exact H
   clear H
   have H := H1
   clear H1
   have H' := Aside0.mk H
   clear H
   try go_wp2
   refine ev3 (blk_drew BK1345.out) (blk_drew BK1346.out) (below_drew1 HB.out) ?_
   clear BK1345 BK1346 HB
   intro BK1345 BK1346 HB
   refine start_ (n := 17) (S := fun w' => w'.cell? ⟨gb1345, 0, none⟩ = some (.int .i64 a0_0) ∧ w'.cell? ⟨gb1345, 1, none⟩ = some (.int .i64 a0_1) ∧ w'.cell? ⟨gb1345, 2, none⟩ = some (.slice A0_2 l0_2.length c0_2)) (ds := []) #[false, false, false, false, false, false, false, false, false, false, false, false, false, false, false, false, false] (by kernel_rfl) rfl rfl ⟨(blk_cell BK1345.out 0).trans rfl, (blk_cell BK1345.out 1).trans rfl, (blk_cell BK1345.out 2).trans rfl⟩ (fun hHeld => ?_); refine with_tabW impl_WrongEntries.tab1 impl_WrongEntries.bits1 (fun HT_ HW_ => ?_)
   generalize w6.drew = w19 at BK1345 BK1346 HB hHeld ⊢
   refine pure_ (i := 1) (N := some 9) (v := ?_) (a' := ?_) #[false, true, false, false, false, false, false, false, false, false, false, false, false, false, false, false, false] rfl rfl (any_of HT_.out (by kernel_rfl)) (fun _ _ _ h => h) (Or.inl ⟨by rfl, ?_⟩) ?_ ?_
   rotate_left
   ·intro w'
    go_simp
    with_reducible rfl
   rotate_left
   ·simp only [Act.put, za_, zb_, zc_, i64_w, i32_w]
    rfl
   refine take_ (i := 0) (N := some 8) (v := ?_) (a' := ?_) #[true, true, false, false, false, false, false, false, false, false, false, false, false, false, false, false, false] rfl rfl (take_ofW HT_.out HW_.out (by kernel_rfl)) (fun _ _ _ h => h) (Or.inl ⟨by rfl, ?_⟩) hHeld ?_ ?_
   rotate_left
   ·rintro w' ⟨s0, s1, s2⟩
    go_simp
    with_reducible rfl
   rotate_left
   ·simp only [Act.put, za_, zb_, zc_, i64_w, i32_w]
    rfl
   refine one_ (i := 2) (N := some 10) #[true, true, true, false, false, false, false, false, false, false, false, false, false, false, false, false, false] rfl rfl (one_of HT_.out (by kernel_rfl)) (by decide) (fun K hK => ?_)
   refine goes_ Try.func102 (by kernel_rfl) rfl #[.agg #[.int .i64 a0_0, .int .i64 a0_1, .slice A0_2 l0_2.length c0_2], .int .i64 a1] (by rfl) rfl rfl (by (try simp only [ma_, mb_, mc_]); first | done | rfl | (simp only [List.length_drop, List.length_take]; rfl)) ?_
   with_reducible refine (impl_readByEntries.calls k a0_0 a0_1 _ _ l0_2 a1 false _ ?side1 ?side2 A7.out).mono ?_
   (case side1 => exact Kd.C_mv (Kd.C_below HR0_2.out HB.out))
   (case side2 => exact HC0_2.out)
   rintro e w20 ⟨rfl, hb⟩
   refine ⟨_, rfl, ?_⟩
   refine ev3 (kb BK1345 hb) (kb BK1346 hb) (bs HB hb) ?_
   clear BK1345 BK1346 HB
   intro BK1345 BK1346 HB
   (try clear hb)
   (try clear hb2)
   (try clear hk)
   (try clear hi)
   refine hK.out _ _ ⟨(blk_cell BK1345.out 0).trans rfl, (blk_cell BK1345.out 1).trans rfl, (blk_cell BK1345.out 2).trans rfl⟩ (fun hHeld => ?_)
   clear hK K
   refine norm_ (a' := ?_) ?_ ?_
   rotate_left
   ·show Act.put _ (some 10) _ = _
    simp only [Act.put, za_, zb_, zc_, i64_w, i32_w]
    rfl
   refine pure_ (i := 3) (N := some 11) (v := ?_) (a' := ?_) #[true, true, true, true, false, false, false, false, false, false, false, false, false, false, false, false, false] rfl rfl (any_of HT_.out (by kernel_rfl)) (fun _ _ _ h => h) (Or.inl ⟨by rfl, ?_⟩) ?_ ?_
   rotate_left
   ·intro w'
    go_simp
    with_reducible rfl
   rotate_left
   ·simp only [Act.put, za_, zb_, zc_, i64_w, i32_w]
    rfl
   refine pure_ (i := 4) (N := some 12) (v := ?_) (a' := ?_) #[true, true, true, true, true, false, false, false, false, false, false, false, false, false, false, false, false] rfl rfl (any_of HT_.out (by kernel_rfl)) (fun _ _ _ h => h) (Or.inl ⟨by rfl, ?_⟩) ?_ ?_
   rotate_left
   ·intro w'
    go_simp
    with_reducible rfl
   rotate_left
   ·simp only [Act.put, za_, zb_, zc_, i64_w, i32_w]
    rfl
   refine pure_ (i := 5) (N := some 13) (v := undef) (a' := ?_) #[true, true, true, true, true, true, false, false, false, false, false, false, false, false, false, false, false] rfl rfl (any_of HT_.out (by kernel_rfl)) (fun _ _ _ h => h) (Or.inr ⟨by rfl, rfl⟩) ?_ ?_
   rotate_left
   ·simp only [Act.put, za_, zb_, zc_, i64_w, i32_w]
    rfl
   refine pure_ (i := 6) (N := some 14) (v := undef) (a' := ?_) #[true, true, true, true, true, true, true, false, false, false, false, false, false, false, false, false, false] rfl rfl (any_of HT_.out (by kernel_rfl)) (fun _ _ _ h => h) (Or.inr ⟨by rfl, rfl⟩) ?_ ?_
   rotate_left
   ·simp only [Act.put, za_, zb_, zc_, i64_w, i32_w]
    rfl
   refine pure_ (i := 7) (N := some 15) (v := undef) (a' := ?_) #[true, true, true, true, true, true, true, true, false, false, false, false, false, false, false, false, false] rfl rfl (any_of HT_.out (by kernel_rfl)) (fun _ _ _ h => h) (Or.inr ⟨by rfl, rfl⟩) ?_ ?_
   rotate_left
   ·simp only [Act.put, za_, zb_, zc_, i64_w, i32_w]
    rfl
   refine pure_ (i := 8) (N := some 16) (v := ?_) (a' := ?_) #[true, true, true, true, true, true, true, true, true, false, false, false, false, false, false, false, false] rfl rfl (any_of HT_.out (by kernel_rfl)) (fun _ _ _ h => h) (Or.inl ⟨by rfl, ?_⟩) ?_ ?_
   rotate_left
   ·intro w'
    go_simp
    with_reducible rfl
   rotate_left
   ·simp only [Act.put, za_, zb_, zc_, i64_w, i32_w]
    rfl
   refine pure_ (i := 9) (N := some 17) (v := ?_) (a' := ?_) #[true, true, true, true, true, true, true, true, true, true, false, false, false, false, false, false, false] rfl rfl (any_of HT_.out (by kernel_rfl)) (fun _ _ _ h => h) (Or.inl ⟨by rfl, ?_⟩) ?_ ?_
   rotate_left
   ·intro w'
    go_simp
    with_reducible rfl
   rotate_left
   ·simp only [Act.put, za_, zb_, zc_, i64_w, i32_w]
    rfl
   refine pure_ (i := 10) (N := some 18) (v := undef) (a' := ?_) #[true, true, true, true, true, true, true, true, true, true, true, false, false, false, false, false, false] rfl rfl (any_of HT_.out (by kernel_rfl)) (fun _ _ _ h => h) (Or.inr ⟨by rfl, rfl⟩) ?_ ?_
   rotate_left
   ·simp only [Act.put, za_, zb_, zc_, i64_w, i32_w]
    rfl
   refine pure_ (i := 11) (N := some 19) (v := undef) (a' := ?_) #[true, true, true, true, true, true, true, true, true, true, true, true, false, false, false, false, false] rfl rfl (any_of HT_.out (by kernel_rfl)) (fun _ _ _ h => h) (Or.inr ⟨by rfl, rfl⟩) ?_ ?_
   rotate_left
   ·simp only [Act.put, za_, zb_, zc_, i64_w, i32_w]
    rfl
   refine pure_ (i := 12) (N := some 20) (v := undef) (a' := ?_) #[true, true, true, true, true, true, true, true, true, true, true, true, true, false, false, false, false] rfl rfl (any_of HT_.out (by kernel_rfl)) (fun _ _ _ h => h) (Or.inr ⟨by rfl, rfl⟩) ?_ ?_
   rotate_left
   ·simp only [Act.put, za_, zb_, zc_, i64_w, i32_w]
    rfl
   refine pure_ (i := 13) (N := some 21) (v := undef) (a' := ?_) #[true, true, true, true, true, true, true, true, true, true, true, true, true, true, false, false, false] rfl rfl (any_of HT_.out (by kernel_rfl)) (fun _ _ _ h => h) (Or.inr ⟨by rfl, rfl⟩) ?_ ?_
   rotate_left
   ·simp only [Act.put, za_, zb_, zc_, i64_w, i32_w]
    rfl
   refine pure_ (i := 14) (N := some 22) (v := undef) (a' := ?_) #[true, true, true, true, true, true, true, true, true, true, true, true, true, true, true, false, false] rfl rfl (any_of HT_.out (by kernel_rfl)) (fun _ _ _ h => h) (Or.inr ⟨by rfl, rfl⟩) ?_ ?_
   rotate_left
   ·simp only [Act.put, za_, zb_, zc_, i64_w, i32_w]
    rfl
   refine pure_ (i := 15) (N := some 23) (v := undef) (a' := ?_) #[true, true, true, true, true, true, true, true, true, true, true, true, true, true, true, true, false] rfl rfl (any_of HT_.out (by kernel_rfl)) (fun _ _ _ h => h) (Or.inr ⟨by rfl, rfl⟩) ?_ ?_
   rotate_left
   ·simp only [Act.put, za_, zb_, zc_, i64_w, i32_w]
    rfl
   refine pure_ (i := 16) (N := some 24) (v := ?_) (a' := ?_) #[true, true, true, true, true, true, true, true, true, true, true, true, true, true, true, true, true] rfl rfl (any_of HT_.out (by kernel_rfl)) (fun _ _ _ h => h) (Or.inl ⟨by rfl, ?_⟩) ?_ ?_
   rotate_left
   ·intro w'
    go_simp
    with_reducible rfl
   rotate_left
   ·simp only [Act.put, za_, zb_, zc_, i64_w, i32_w]
    rfl
   refine done_ (done_of HT_.out (by kernel_rfl)) ?_
   try go_wp2
   go_meet
   case rel => exact ⟨_, (true), (by first | rfl | (simp; done) | (simp [*]; done)), H', ⟨by first | omega | exact Nat.le_refl _⟩, ⟨km_ BK1345⟩, ⟨km_ BK1346⟩, ⟨bm HB⟩⟩
 case rest =>
  clear HC4
  try clear c2
  try clear c9
  obtain ⟨kq, x24_3, rfl, HA, HJ3, BK1345, BK1346, HB⟩ := hcut
  cases kq with
  | zero => exact absurd HA.out (by simp [impl_WrongEntries.j0])
  | succ kj3 =>
   have H := HA.out
   clear HA
   simp only [impl_WrongEntries.j0] at H
   by_cases c21 : x24_3 = true
   ·subst c21
    have H1 : (some (([] : List Int), false)) = some (r1, r2) := by rw [if_pos rfl] at H; exact H
    clear H
    have H := H1
    clear H1
    simp only [Option.some.injEq, Prod.mk.injEq] at H
    obtain ⟨rfl, rfl⟩ := H
    go_wp2
    go_ret2
    exact ⟨_, by first | rfl | (simp [e0_, e1_] <;> rfl) | (simp [*, e0_, e1_] <;> rfl), by first | exact Kd.R_nil _ _ _ _ _ | exact Kd.N_nil _ _ _ _ _ | exact Kd.V_nil _ _ _ _ _ | exact Kd.Q_nil _ _ _ _ _ | exact Kd.S_nil _ _ _ _ _, bm HB⟩
   ·replace c21 := Bool.eq_false_iff.mpr c21
    subst c21
    have H1 : ((impl_entryValues.f kj3 a0_0 a0_1 l0_2 a1).bind fun t1349 => ((impl_wrongIndices.f kj3 t1349 a2_0 l2_1).bind fun t1352 => (some (t1352, true)))) = some (r1, r2) := by rw [if_neg (show ¬ (false = true) by decide)] at H; exact H
    clear H
    have H := H1
    clear H1
    replace H := Option.bind_eq_some_iff.mp H
    obtain ⟨t1349, A220, H⟩ := H
    replace H : ((impl_wrongIndices.f kj3 t1349 a2_0 l2_1).bind fun t1352 => (some (t1352, true))) = some (r1, r2) := H
    have A22 := Aside0.mk A220
    clear A220
    replace H := Option.bind_eq_some_iff.mp H
    obtain ⟨t1352, A230, H⟩ := H
    replace H : (some (t1352, true)) = some (r1, r2) := H
    have A23 := Aside0.mk A230
    clear A230
    simp only [Option.some.injEq, Prod.mk.injEq] at H
    obtain ⟨rfl, rfl⟩ := H
    try go_wp2
    refine ev3 (blk_drew BK1345.out) (blk_drew BK1346.out) (below_drew1 HB.out) ?_
    clear BK1345 BK1346 HB
    intro BK1345 BK1346 HB
    refine start_ (n := 7) (S := fun w' => w'.cell? ⟨gb1345, 0, none⟩ = some (.int .i64 a0_0) ∧ w'.cell? ⟨gb1345, 1, none⟩ = some (.int .i64 a0_1) ∧ w'.cell? ⟨gb1345, 2, none⟩ = some (.slice A0_2 l0_2.length c0_2) ∧ w'.cell? ⟨gb1346, 0, none⟩ = some (.int .i64 a2_0) ∧ w'.cell? ⟨gb1346, 1, none⟩ = some (.slice A2_1 l2_1.length c2_1)) (ds := []) #[false, false, false, false, false, false, false] (by kernel_rfl) rfl rfl ⟨(blk_cell BK1345.out 0).trans rfl, (blk_cell BK1345.out 1).trans rfl, (blk_cell BK1345.out 2).trans rfl, (blk_cell BK1346.out 0).trans rfl, (blk_cell BK1346.out 1).trans rfl⟩ (fun hHeld => ?_)
    generalize wc.drew = w24 at BK1345 BK1346 HB hHeld ⊢
    refine pure_ (i := 1) (N := some 26) (v := ?_) (a' := ?_) #[false, true, false, false, false, false, false] rfl rfl (by kernel_rfl) (fun _ _ _ h => h) (Or.inl ⟨by rfl, ?_⟩) ?_ ?_
    rotate_left
    ·intro w'
     go_simp
     with_reducible rfl
    rotate_left
    ·simp only [Act.put, za_, zb_, zc_, i64_w, i32_w]
     rfl
    refine take_ (i := 0) (N := some 25) (v := ?_) (a' := ?_) #[true, true, false, false, false, false, false] rfl rfl (by kernel_rfl) (fun _ _ _ h => h) (Or.inl ⟨by rfl, ?_⟩) hHeld ?_ ?_
    rotate_left
    ·rintro w' ⟨s0, s1, s2, s3, s4⟩
     go_simp
     with_reducible rfl
    rotate_left
    ·simp only [Act.put, za_, zb_, zc_, i64_w, i32_w]
     rfl
    refine take_ (i := 3) (N := some 28) (v := ?_) (a' := ?_) #[true, true, false, true, false, false, false] rfl rfl (by kernel_rfl) (fun _ _ _ h => h) (Or.inl ⟨by rfl, ?_⟩) hHeld ?_ ?_
    rotate_left
    ·rintro w' ⟨s0, s1, s2, s3, s4⟩
     go_simp
     with_reducible rfl
    rotate_left
    ·simp only [Act.put, za_, zb_, zc_, i64_w, i32_w]
     rfl
    refine one_ (i := 2) (N := some 27) #[true, true, true, true, false, false, false] rfl rfl (by kernel_rfl) (by decide) (fun K hK => ?_)
    refine goes_ Try.func103 (by kernel_rfl) rfl #[.agg #[.int .i64 a0_0, .int .i64 a0_1, .slice A0_2 l0_2.length c0_2], .int .i64 a1] (by rfl) rfl rfl (by (try simp only [ma_, mb_, mc_]); first | done | rfl | (simp only [List.length_drop, List.length_take]; rfl)) ?_
    with_reducible refine (impl_entryValues.calls kj3 a0_0 a0_1 _ _ l0_2 a1 t1349 _ ?side1 ?side2 A22.out).mono ?_
    (case side1 => exact Kd.C_mv (Kd.C_below HR0_2.out HB.out))
    (case side2 => exact HC0_2.out)
    rintro e w25 ⟨v1350, rfl, ho0, hb⟩
    refine ⟨_, rfl, ?_⟩
    refine ev4 (Kd.R_lower ho0 (below_size (bm HB))) (kb BK1345 hb) (kb BK1346 hb) (bs HB hb) ?_
    clear BK1345 BK1346 HB
    intro HO1351 BK1345 BK1346 HB
    (try clear hb)
    (try clear hb2)
    (try clear hk)
    (try clear hi)
    (try clear ho0)
    obtain ⟨Ao26, co26, eo26⟩ := Kd.R_slice HO1351.out
    (first | subst eo26 | (injection eo26 with f1_ f2_ f3_; have f4_ := f1_.symm; have f5_ := f3_.symm; clear f1_ f2_ f3_; subst f4_; subst f5_))
    refine hK.out _ _ ⟨(blk_cell BK1345.out 0).trans rfl, (blk_cell BK1345.out 1).trans rfl, (blk_cell BK1345.out 2).trans rfl, (blk_cell BK1346.out 0).trans rfl, (blk_cell BK1346.out 1).trans rfl⟩ (fun hHeld => ?_)
    clear hK K
    refine norm_ (a' := ?_) ?_ ?_
    rotate_left
    ·show Act.put _ (some 27) _ = _
     simp only [Act.put, za_, zb_, zc_, i64_w, i32_w]
     rfl
    refine one_ (i := 4) (N := some 29) #[true, true, true, true, true, false, false] rfl rfl (by kernel_rfl) (by decide) (fun K hK => ?_)
    refine goes_ Try.func125 (by kernel_rfl) rfl #[.slice Ao26 t1349.length co26, .agg #[.int .i64 a2_0, .slice A2_1 l2_1.length c2_1]] (by rfl) rfl rfl (by (try simp only [ma_, mb_, mc_]); first | done | rfl | (simp only [List.length_drop, List.length_take]; rfl)) ?_
    with_reducible refine (impl_wrongIndices.calls kj3 _ _ t1349 a2_0 _ _ l2_1 t1352 _ ?side1 ?side2 ?side3 ?side4 A23.out).mono ?_
    (case side1 => exact Kd.C_mv (Kd.R_reads' HO1351.out).2.2)
    (case side2 => exact (Kd.R_reads' HO1351.out).2.1)
    (case side3 => exact Kd.C_mv (Kd.C_below HR2_1.out HB.out))
    (case side4 => exact HC2_1.out)
    rintro e w27 ⟨v1353, rfl, ho0, hb⟩
    refine ⟨_, rfl, ?_⟩
    refine ev5 (Kd.R_elder' (Kd.R_mv HO1351.out) (Kd.R_base ho0) hb) (Kd.R_lower (Kd.R_new' ho0 (Kd.R_lt (Kd.R_mv HO1351.out))) (below_size (bm HB))) (kb BK1345 hb) (kb BK1346 hb) (bs HB hb) ?_
    clear HO1351 BK1345 BK1346 HB
    intro HO1351 HO1354 BK1345 BK1346 HB
    (try clear hb)
    (try clear hb2)
    (try clear hk)
    (try clear hi)
    (try clear ho0)
    refine hK.out _ _ ⟨(blk_cell BK1345.out 0).trans rfl, (blk_cell BK1345.out 1).trans rfl, (blk_cell BK1345.out 2).trans rfl, (blk_cell BK1346.out 0).trans rfl, (blk_cell BK1346.out 1).trans rfl⟩ (fun hHeld => ?_)
    clear hK K
    refine norm_ (a' := ?_) ?_ ?_
    rotate_left
    ·show Act.put _ (some 29) _ = _
     simp only [Act.put, za_, zb_, zc_, i64_w, i32_w]
     rfl
    refine pure_ (i := 5) (N := some 6) (v := ?_) (a' := ?_) #[true, true, true, true, true, true, false] rfl rfl (by kernel_rfl) (fun _ _ _ h => h) (Or.inl ⟨by rfl, ?_⟩) ?_ ?_
    rotate_left
    ·intro w'
     go_simp
     with_reducible rfl
    rotate_left
    ·simp only [Act.put, za_, zb_, zc_, i64_w, i32_w]
     rfl
    refine pure_ (i := 6) (N := some 7) (v := ?_) (a' := ?_) #[true, true, true, true, true, true, true] rfl rfl (by kernel_rfl) (fun _ _ _ h => h) (Or.inl ⟨by rfl, ?_⟩) ?_ ?_
    rotate_left
    ·intro w'
     go_simp
     with_reducible rfl
    rotate_left
    ·simp only [Act.put, za_, zb_, zc_, i64_w, i32_w]
     rfl
    refine done_ (by kernel_rfl) ?_
    try go_wp2
    go_ret2
    exact ⟨_, by first | rfl | (simp [e0_, e1_] <;> rfl) | (simp [*, e0_, e1_] <;> rfl), Kd.R_mv (Kd.R_mono (ok' := fun k_ => True) HO1354.out (fun _ hk => trivial)), bm HB⟩

/-! ### impl_VerifyBoard: function 48 -/
def impl_VerifyBoard.f (k : Nat) (a0_0 : Int) (a0_1 : Int) (l0_2 : List (S78)) (a1 : Int) (a2_0 : Int) (l2_1 : List Int) : Option (Bool × Bool) := (impl_WrongEntries.f k a0_0 a0_1 l0_2 a1 a2_0 l2_1).bind fun bt1357 => (if bt1357.2 = true then (some (((bt1357.1.length : Int) == 0), bt1357.2)) else (some (false, bt1357.2)))
set_option maxHeartbeats 8000000 in
set_option maxRecDepth 100000 in
theorem impl_VerifyBoard.calls (k : Nat) (a0_0 : Int) (a0_1 : Int) (A0_2 : Option Addr) (c0_2 : Nat) (l0_2 : List (S78)) (a1 : Int) (a2_0 : Int) (A2_1 : Option Addr) (c2_1 : Nat) (l2_1 : List Int) (r1 : Bool) (r2 : Bool) (w : World) (hr0_2 : Kd.C k78 w A0_2 l0_2.length l0_2) (hc0_2 : l0_2.length ≤ c0_2) (hr2_1 : Kd.C (Kd.int .i64) w A2_1 l2_1.length l2_1) (hc2_1 : l2_1.length ≤ c2_1) (h : impl_VerifyBoard.f k a0_0 a0_1 l0_2 a1 a2_0 l2_1 = some (r1, r2)) :
  Calls Try.prog 48 #[.agg #[.int .i64 a0_0, .int .i64 a0_1, .slice A0_2 l0_2.length c0_2], .int .i64 a1, .agg #[.int .i64 a2_0, .slice A2_1 l2_1.length c2_1]] w fun e w' => e = .returned (.tuple #[.bool r1, .bool r2]) ∧ Below w.heap.size w w' := by
 have HR0_2 := Aside0.mk hr0_2
 have HC0_2 := Aside0.mk hc0_2
 clear hr0_2 hc0_2
 have HR2_1 := Aside0.mk hr2_1
 have HC2_1 := Aside0.mk hc2_1
 clear hr2_1 hc2_1
 have HB := Aside0.mk (Below.refl w.heap.size w)
 have H : ((impl_WrongEntries.f k a0_0 a0_1 l0_2 a1 a2_0 l2_1).bind fun bt1357 => (if bt1357.2 = true then (some (((bt1357.1.length : Int) == 0), bt1357.2)) else (some (false, bt1357.2)))) = some (r1, r2) := h
 clear h
 replace H := Option.bind_eq_some_iff.mp H
 obtain ⟨⟨t1357, t1360⟩, A40, H⟩ := H
 replace H : (if t1360 = true then (some (((t1357.length : Int) == 0), t1360)) else (some (false, t1360))) = some (r1, r2) := H
 have A4 := Aside0.mk A40
 clear A40
 by_cases c5 : t1360 = true
 ·subst c5
  have H1 : (some (((t1357.length : Int) == 0), true)) = some (r1, r2) := by rw [if_pos rfl] at H; exact H
  clear H
  have H := H1
  clear H1
  simp only [Option.some.injEq, Prod.mk.injEq] at H
  obtain ⟨rfl, rfl⟩ := H
  go_enter Try.func48, Try.ntmps48
  go_wp2_with (first | ((with_reducible refine gate_dst (N := 3) rfl ?_); refine box_event ?hg (N := 3) ?hd (cs := #[.int .i64 a0_0, .int .i64 a0_1, .slice A0_2 l0_2.length c0_2]) (t := 48) ?hr ?_; (case hd => rfl); (case hg => rfl); (case hr => first | (go_simp; done) | (go_simp; rfl)); intro gb1355 hg w6 hbox hb; refine ev4 (bs HB hb) (hbox) (gle hg HB) (gle hg HB) ?_; clear HB; intro HB BK1355 GW1355 GE1355; clear hb hbox hg) | ((with_reducible refine gate_dst (N := 5) rfl ?_); refine box_event ?hg (N := 5) ?hd (cs := #[.int .i64 a2_0, .slice A2_1 l2_1.length c2_1]) (t := 66) ?hr ?_; (case hd => rfl); (case hg => rfl); (case hr => first | (go_simp; done) | (go_simp; rfl)); intro gb1356 hg w7 hbox hb; refine ev7 (kb BK1355 hb) (bs HB hb) (hbox) (gle hg HB) (gle hg HB) (gnf hg BK1355) (gne hg BK1355) ?_; clear BK1355 HB; intro BK1355 HB BK1356 GW1356 GE1356 NB1355_1356 NB1356_1355; clear hb hbox hg; have hnb8 := NB1355_1356.out; have hnc8 := NB1356_1355.out; obtain ⟨hcz9_0, hcz9_1, hcz9_2, hfz9_0, hfz9_1, hfz9_2⟩ := bt3 BK1355; obtain ⟨hcz10_0, hcz10_1, hfz10_0, hfz10_1⟩ := bt2 BK1356) | ((with_reducible refine gate_callee (f := 93) rfl ?_); refine goesL_ (some 14) rfl rfl Try.func93 (by kernel_rfl) rfl #[.agg #[.int .i64 a0_0, .int .i64 a0_1, .slice A0_2 l0_2.length c0_2], .int .i64 a1, .agg #[.int .i64 a2_0, .slice A2_1 l2_1.length c2_1]] rfl (by (try simp only [ma_, mb_, mc_]); first | done | rfl | (simp only [List.length_drop, List.length_take]; rfl)) ?_; (with_reducible refine (impl_WrongEntries.calls k a0_0 a0_1 _ _ l0_2 a1 a2_0 _ _ l2_1 t1357 true _ (Kd.C_mv (Kd.C_below HR0_2.out HB.out)) HC0_2.out (Kd.C_mv (Kd.C_below HR2_1.out HB.out)) HC2_1.out A4.out).mono ?_); rintro e w11 ⟨v1358, rfl, ho0, hb⟩; refine ⟨_, rfl, ?_⟩; refine ev4 (Kd.R_lower ho0 (below_size (bm HB))) (kb BK1355 hb) (kb BK1356 hb) (bs HB hb) ?_; clear BK1355 BK1356 HB; intro HO1359 BK1355 BK1356 HB; (try clear hb); (try clear hb2); (try clear hk); (try clear hi); (try clear ho0); obtain ⟨Ao12, co12, eo12⟩ := Kd.R_slice HO1359.out; subst eo12))
  go_ret2
  exact ⟨by first | rfl | (simp [e0_, e1_] <;> rfl) | (simp [*, e0_, e1_] <;> rfl), bm HB⟩
 ·replace c5 := Bool.eq_false_iff.mpr c5
  subst c5
  have H1 : (some (false, false)) = some (r1, r2) := by rw [if_neg (show ¬ (false = true) by decide)] at H; exact H
  clear H
  have H := H1
  clear H1
  simp only [Option.some.injEq, Prod.mk.injEq] at H
  obtain ⟨rfl, rfl⟩ := H
  go_enter Try.func48, Try.ntmps48
  go_wp2_with (first | ((with_reducible refine gate_dst (N := 3) rfl ?_); refine box_event ?hg (N := 3) ?hd (cs := #[.int .i64 a0_0, .int .i64 a0_1, .slice A0_2 l0_2.length c0_2]) (t := 48) ?hr ?_; (case hd => rfl); (case hg => rfl); (case hr => first | (go_simp; done) | (go_simp; rfl)); intro gb1355 hg w13 hbox hb; refine ev4 (bs HB hb) (hbox) (gle hg HB) (gle hg HB) ?_; clear HB; intro HB BK1355 GW1355 GE1355; clear hb hbox hg) | ((with_reducible refine gate_dst (N := 5) rfl ?_); refine box_event ?hg (N := 5) ?hd (cs := #[.int .i64 a2_0, .slice A2_1 l2_1.length c2_1]) (t := 66) ?hr ?_; (case hd => rfl); (case hg => rfl); (case hr => first | (go_simp; done) | (go_simp; rfl)); intro gb1356 hg w14 hbox hb; refine ev7 (kb BK1355 hb) (bs HB hb) (hbox) (gle hg HB) (gle hg HB) (gnf hg BK1355) (gne hg BK1355) ?_; clear BK1355 HB; intro BK1355 HB BK1356 GW1356 GE1356 NB1355_1356 NB1356_1355; clear hb hbox hg; have hnb15 := NB1355_1356.out; have hnc15 := NB1356_1355.out; obtain ⟨hcz16_0, hcz16_1, hcz16_2, hfz16_0, hfz16_1, hfz16_2⟩ := bt3 BK1355; obtain ⟨hcz17_0, hcz17_1, hfz17_0, hfz17_1⟩ := bt2 BK1356) | ((with_reducible refine gate_callee (f := 93) rfl ?_); refine goesL_ (some 14) rfl rfl Try.func93 (by kernel_rfl) rfl #[.agg #[.int .i64 a0_0, .int .i64 a0_1, .slice A0_2 l0_2.length c0_2], .int .i64 a1, .agg #[.int .i64 a2_0, .slice A2_1 l2_1.length c2_1]] rfl (by (try simp only [ma_, mb_, mc_]); first | done | rfl | (simp only [List.length_drop, List.length_take]; rfl)) ?_; (with_reducible refine (impl_WrongEntries.calls k a0_0 a0_1 _ _ l0_2 a1 a2_0 _ _ l2_1 t1357 false _ (Kd.C_mv (Kd.C_below HR0_2.out HB.out)) HC0_2.out (Kd.C_mv (Kd.C_below HR2_1.out HB.out)) HC2_1.out A4.out).mono ?_); rintro e w18 ⟨v1358, rfl, ho0, hb⟩; refine ⟨_, rfl, ?_⟩; refine ev4 (Kd.R_lower ho0 (below_size (bm HB))) (kb BK1355 hb) (kb BK1356 hb) (bs HB hb) ?_; clear BK1355 BK1356 HB; intro HO1359 BK1355 BK1356 HB; (try clear hb); (try clear hb2); (try clear hk); (try clear hi); (try clear ho0)))
  go_ret2
  exact ⟨by first | rfl | (simp [e0_, e1_] <;> rfl) | (simp [*, e0_, e1_] <;> rfl), bm HB⟩

/-! ### laws_eqTable: function 49 -/
def laws_eqTable.f (k : Nat) (a0_0 : Int) (l0_1 : List Int) (a1_0 : Int) (l1_1 : List Int) : Option (Bool) := if a0_0 = a1_0 then ((laws_eqIntS.f k l0_1 l1_1).bind fun t1363 => (if t1363 = true then (some true) else (some false))) else (some false)
set_option maxHeartbeats 8000000 in
set_option maxRecDepth 100000 in
theorem laws_eqTable.calls (k : Nat) (a0_0 : Int) (A0_1 : Option Addr) (c0_1 : Nat) (l0_1 : List Int) (a1_0 : Int) (A1_1 : Option Addr) (c1_1 : Nat) (l1_1 : List Int) (r : Bool) (w : World) (hr0_1 : Kd.C (Kd.int .i64) w A0_1 l0_1.length l0_1) (hc0_1 : l0_1.length ≤ c0_1) (hr1_1 : Kd.C (Kd.int .i64) w A1_1 l1_1.length l1_1) (hc1_1 : l1_1.length ≤ c1_1) (h : laws_eqTable.f k a0_0 l0_1 a1_0 l1_1 = some r) :
  Calls Try.prog 49 #[.agg #[.int .i64 a0_0, .slice A0_1 l0_1.length c0_1], .agg #[.int .i64 a1_0, .slice A1_1 l1_1.length c1_1]] w fun e w' => e = .returned (.bool r) ∧ Below w.heap.size w w' := by
 have HR0_1 := Aside0.mk hr0_1
 have HC0_1 := Aside0.mk hc0_1
 clear hr0_1 hc0_1
 have HR1_1 := Aside0.mk hr1_1
 have HC1_1 := Aside0.mk hc1_1
 clear hr1_1 hc1_1
 have HB := Aside0.mk (Below.refl w.heap.size w)
 have H : (if a0_0 = a1_0 then ((laws_eqIntS.f k l0_1 l1_1).bind fun t1363 => (if t1363 = true then (some true) else (some false))) else (some false)) = some r := h
 clear h
 by_cases c3 : a0_0 = a1_0
 ·rw [if_pos c3] at H
  have c3b0 : (a0_0 == a1_0) = true := beq_iff_eq.mpr c3
  have c3b1 : (a0_0 != a1_0) = false := bne_eq_false_iff_eq.mpr c3
  clear c3
  replace H := Option.bind_eq_some_iff.mp H
  obtain ⟨t1363, A40, H⟩ := H
  replace H : (if t1363 = true then (some true) else (some false)) = some r := H
  have A4 := Aside0.mk A40
  clear A40
  by_cases c5 : t1363 = true
  ·subst c5
   have H1 : (some true) = some r := by rw [if_pos rfl] at H; exact H
   clear H
   have H := H1
   clear H1
   obtain rfl := Option.some.inj H
   go_enter Try.func49, Try.ntmps49
   go_wp2_with (first | ((with_reducible refine gate_dst (N := 2) rfl ?_); refine box_event ?hg (N := 2) ?hd (cs := #[.int .i64 a0_0, .slice A0_1 l0_1.length c0_1]) (t := 66) ?hr ?_; (case hd => rfl); (case hg => rfl); (case hr => first | (go_simp; done) | (go_simp; rfl)); intro gb1361 hg w6 hbox hb; refine ev4 (bs HB hb) (hbox) (gle hg HB) (gle hg HB) ?_; clear HB; intro HB BK1361 GW1361 GE1361; clear hb hbox hg) | ((with_reducible refine gate_dst (N := 3) rfl ?_); refine box_event ?hg (N := 3) ?hd (cs := #[.int .i64 a1_0, .slice A1_1 l1_1.length c1_1]) (t := 66) ?hr ?_; (case hd => rfl); (case hg => rfl); (case hr => first | (go_simp; done) | (go_simp; rfl)); intro gb1362 hg w7 hbox hb; refine ev7 (kb BK1361 hb) (bs HB hb) (hbox) (gle hg HB) (gle hg HB) (gnf hg BK1361) (gne hg BK1361) ?_; clear BK1361 HB; intro BK1361 HB BK1362 GW1362 GE1362 NB1361_1362 NB1362_1361; clear hb hbox hg; have hnb8 := NB1361_1362.out; have hnc8 := NB1362_1361.out; obtain ⟨hcz9_0, hcz9_1, hfz9_0, hfz9_1⟩ := bt2 BK1361; obtain ⟨hcz10_0, hcz10_1, hfz10_0, hfz10_1⟩ := bt2 BK1362) | ((with_reducible refine gate_callee (f := 18) rfl ?_); refine goesL_ (some 14) rfl rfl Try.func18 (by kernel_rfl) rfl #[.slice A0_1 l0_1.length c0_1, .slice A1_1 l1_1.length c1_1] rfl (by (try simp only [ma_, mb_, mc_]); first | done | rfl | (simp only [List.length_drop, List.length_take]; rfl)) ?_; (with_reducible refine (laws_eqIntS.calls k _ _ l0_1 _ _ l1_1 true _ (Kd.C_mv (Kd.C_below HR0_1.out HB.out)) HC0_1.out (Kd.C_mv (Kd.C_below HR1_1.out HB.out)) HC1_1.out A4.out).mono ?_); rintro e w' ⟨rfl, ⟨nd, rfl⟩⟩; refine ⟨_, rfl, ?_⟩))
   go_ret
   exact ⟨by first | rfl | (simp [e0_, e1_] <;> rfl) | (simp [*, e0_, e1_] <;> rfl), bm HB⟩
  ·replace c5 := Bool.eq_false_iff.mpr c5
   subst c5
   have H1 : (some false) = some r := by rw [if_neg (show ¬ (false = true) by decide)] at H; exact H
   clear H
   have H := H1
   clear H1
   obtain rfl := Option.some.inj H
   go_enter Try.func49, Try.ntmps49
   go_wp2_with (first | ((with_reducible refine gate_dst (N := 2) rfl ?_); refine box_event ?hg (N := 2) ?hd (cs := #[.int .i64 a0_0, .slice A0_1 l0_1.length c0_1]) (t := 66) ?hr ?_; (case hd => rfl); (case hg => rfl); (case hr => first | (go_simp; done) | (go_simp; rfl)); intro gb1361 hg w11 hbox hb; refine ev4 (bs HB hb) (hbox) (gle hg HB) (gle hg HB) ?_; clear HB; intro HB BK1361 GW1361 GE1361; clear hb hbox hg) | ((with_reducible refine gate_dst (N := 3) rfl ?_); refine box_event ?hg (N := 3) ?hd (cs := #[.int .i64 a1_0, .slice A1_1 l1_1.length c1_1]) (t := 66) ?hr ?_; (case hd => rfl); (case hg => rfl); (case hr => first | (go_simp; done) | (go_simp; rfl)); intro gb1362 hg w12 hbox hb; refine ev7 (kb BK1361 hb) (bs HB hb) (hbox) (gle hg HB) (gle hg HB) (gnf hg BK1361) (gne hg BK1361) ?_; clear BK1361 HB; intro BK1361 HB BK1362 GW1362 GE1362 NB1361_1362 NB1362_1361; clear hb hbox hg; have hnb13 := NB1361_1362.out; have hnc13 := NB1362_1361.out; obtain ⟨hcz14_0, hcz14_1, hfz14_0, hfz14_1⟩ := bt2 BK1361; obtain ⟨hcz15_0, hcz15_1, hfz15_0, hfz15_1⟩ := bt2 BK1362) | ((with_reducible refine gate_callee (f := 18) rfl ?_); refine goesL_ (some 14) rfl rfl Try.func18 (by kernel_rfl) rfl #[.slice A0_1 l0_1.length c0_1, .slice A1_1 l1_1.length c1_1] rfl (by (try simp only [ma_, mb_, mc_]); first | done | rfl | (simp only [List.length_drop, List.length_take]; rfl)) ?_; (with_reducible refine (laws_eqIntS.calls k _ _ l0_1 _ _ l1_1 false _ (Kd.C_mv (Kd.C_below HR0_1.out HB.out)) HC0_1.out (Kd.C_mv (Kd.C_below HR1_1.out HB.out)) HC1_1.out A4.out).mono ?_); rintro e w' ⟨rfl, ⟨nd, rfl⟩⟩; refine ⟨_, rfl, ?_⟩))
   go_ret
   exact ⟨by first | rfl | (simp [e0_, e1_] <;> rfl) | (simp [*, e0_, e1_] <;> rfl), bm HB⟩
 ·rw [if_neg c3] at H
  have c3b0 : (a0_0 == a1_0) = false := beq_eq_false_iff_ne.mpr c3
  have c3b1 : (a0_0 != a1_0) = true := bne_iff_ne.mpr c3
  obtain rfl := Option.some.inj H
  go_enter Try.func49, Try.ntmps49
  go_wp2_with (first | ((with_reducible refine gate_dst (N := 2) rfl ?_); refine box_event ?hg (N := 2) ?hd (cs := #[.int .i64 a0_0, .slice A0_1 l0_1.length c0_1]) (t := 66) ?hr ?_; (case hd => rfl); (case hg => rfl); (case hr => first | (go_simp; done) | (go_simp; rfl)); intro gb1361 hg w16 hbox hb; refine ev4 (bs HB hb) (hbox) (gle hg HB) (gle hg HB) ?_; clear HB; intro HB BK1361 GW1361 GE1361; clear hb hbox hg) | ((with_reducible refine gate_dst (N := 3) rfl ?_); refine box_event ?hg (N := 3) ?hd (cs := #[.int .i64 a1_0, .slice A1_1 l1_1.length c1_1]) (t := 66) ?hr ?_; (case hd => rfl); (case hg => rfl); (case hr => first | (go_simp; done) | (go_simp; rfl)); intro gb1362 hg w17 hbox hb; refine ev7 (kb BK1361 hb) (bs HB hb) (hbox) (gle hg HB) (gle hg HB) (gnf hg BK1361) (gne hg BK1361) ?_; clear BK1361 HB; intro BK1361 HB BK1362 GW1362 GE1362 NB1361_1362 NB1362_1361; clear hb hbox hg; have hnb18 := NB1361_1362.out; have hnc18 := NB1362_1361.out; obtain ⟨hcz19_0, hcz19_1, hfz19_0, hfz19_1⟩ := bt2 BK1361; obtain ⟨hcz20_0, hcz20_1, hfz20_0, hfz20_1⟩ := bt2 BK1362))
  go_ret
  exact ⟨by first | rfl | (simp [e0_, e1_] <;> rfl) | (simp [*, e0_, e1_] <;> rfl), bm HB⟩

/-! ### laws_FnExactVerifyBoard: function 11 -/
def laws_FnExactVerifyBoard.j0 : Nat → Bool → Int → Int → List (S112) → Int → List Int → Int → Int → List (S78) → Int → List Int → Option (Bool)
 | 0, _, _, _, _, _, _, _, _, _, _, _ => none
 | k + 1, x51, x1365000, x1365001, x1365002, x1366000, x1366001, x1385000, x1385001, x1385002, x1390000, x1390001 => if x51 = true then (some false) else ((laws_toBoard.f k x1365000 x1365001 x1365002).bind fun bt1392 => ((laws_eqBoard.f k x1385000 x1385001 x1385002 bt1392.1 bt1392.2.1 bt1392.2.2).bind fun t1397 => (if t1397 = true then ((laws_toTable.f k x1366000 x1366001).bind fun bt1398 => ((laws_eqTable.f k x1390000 x1390001 bt1398.1 bt1398.2).bind fun t1402 => (if t1402 = true then (some true) else (some false)))) else (some false))))
def laws_FnExactVerifyBoard.f (k : Nat) (a0_0 : Int) (a0_1 : Int) (l0_2 : List (S112)) (a1 : Int) (a2_0 : Int) (l2_1 : List Int) : Option (Bool) := (laws_szBoard.f a0_0 a0_1 l0_2 1048576).bind fun t1366 => (if t1366 < 0 then (some true) else ((laws_szTable.f a2_0 l2_1 t1366).bind fun t1367 => (if t1367 < 0 then (some true) else ((laws_toBoard.f k a0_0 a0_1 l0_2).bind fun bt1368 => ((laws_toTable.f k a2_0 l2_1).bind fun bt1373 => ((spec_VerifyBoard.f k bt1368.1 bt1368.2.1 bt1368.2.2 a1 bt1373.1 bt1373.2).bind fun bt1377 => ((laws_toBoard.f k a0_0 a0_1 l0_2).bind fun bt1379 => ((laws_toTable.f k a2_0 l2_1).bind fun bt1385 => ((impl_VerifyBoard.f k bt1379.1 bt1379.2.1 bt1379.2.2 a1 bt1385.1 bt1385.2).bind fun bt1390 => (if (bt1390.1 != bt1377.1) = true then (laws_FnExactVerifyBoard.j0 k true a0_0 a0_1 l0_2 a2_0 l2_1 bt1379.1 bt1379.2.1 bt1379.2.2 bt1385.1 bt1385.2) else (laws_FnExactVerifyBoard.j0 k (bt1390.2 != bt1377.2) a0_0 a0_1 l0_2 a2_0 l2_1 bt1379.1 bt1379.2.1 bt1379.2.2 bt1385.1 bt1385.2)))))))))))
def laws_FnExactVerifyBoard.T8 : Bool × List (List Nat × List Nat) := (true, [([], []), ([0], [0]), ([], []), ([], []), ([3, 1], [3]), ([1, 2, 4, 4], [1, 2, 4]), ([5], [5]), ([6], [6]), ([6], [6]), ([7, 5, 0, 1, 2, 3, 4, 5, 6, 7], [7]), ([8, 9, 0, 1, 2, 3, 4, 5, 6, 7, 8, 9], [8])])
def laws_FnExactVerifyBoard.B8 : List Nat := [0, 1, 0, 0, 11, 31, 63, 127, 127, 255, 1023]
theorem laws_FnExactVerifyBoard.tab8 : rtab .any (opsOf Try.f11 8) = laws_FnExactVerifyBoard.T8 := by kernel_rfl
theorem laws_FnExactVerifyBoard.bits8 : waitsOk laws_FnExactVerifyBoard.T8.2 laws_FnExactVerifyBoard.B8 = true := by kernel_rfl
set_option maxHeartbeats 8000000 in
set_option maxRecDepth 100000 in
theorem laws_FnExactVerifyBoard.calls (k : Nat) (a0_0 : Int) (a0_1 : Int) (A0_2 : Option Addr) (c0_2 : Nat) (l0_2 : List (S112)) (a1 : Int) (a2_0 : Int) (A2_1 : Option Addr) (c2_1 : Nat) (l2_1 : List Int) (r : Bool) (w : World) (hr0_2 : Kd.C k112 w A0_2 l0_2.length l0_2) (hc0_2 : l0_2.length ≤ c0_2) (hr2_1 : Kd.C (Kd.int .i64) w A2_1 l2_1.length l2_1) (hc2_1 : l2_1.length ≤ c2_1) (hrt : r = true) (h : laws_FnExactVerifyBoard.f k a0_0 a0_1 l0_2 a1 a2_0 l2_1 = some r) :
  Calls Try.prog 11 #[.agg #[.int .i64 a0_0, .int .i64 a0_1, .slice A0_2 l0_2.length c0_2], .int .i64 a1, .agg #[.int .i64 a2_0, .slice A2_1 l2_1.length c2_1]] w fun e w' => e = .returned (.bool r) ∧ Below w.heap.size w w' := by
 have HR0_2 := Aside0.mk hr0_2
 have HC0_2 := Aside0.mk hc0_2
 clear hr0_2 hc0_2
 have HR2_1 := Aside0.mk hr2_1
 have HC2_1 := Aside0.mk hc2_1
 clear hr2_1 hc2_1
 have HRT := Aside0.mk hrt
 clear hrt
 have HB := Aside0.mk (Below.refl w.heap.size w)
 have H : ((laws_szBoard.f a0_0 a0_1 l0_2 1048576).bind fun t1366 => (if t1366 < 0 then (some true) else ((laws_szTable.f a2_0 l2_1 t1366).bind fun t1367 => (if t1367 < 0 then (some true) else ((laws_toBoard.f k a0_0 a0_1 l0_2).bind fun bt1368 => ((laws_toTable.f k a2_0 l2_1).bind fun bt1373 => ((spec_VerifyBoard.f k bt1368.1 bt1368.2.1 bt1368.2.2 a1 bt1373.1 bt1373.2).bind fun bt1377 => ((laws_toBoard.f k a0_0 a0_1 l0_2).bind fun bt1379 => ((laws_toTable.f k a2_0 l2_1).bind fun bt1385 => ((impl_VerifyBoard.f k bt1379.1 bt1379.2.1 bt1379.2.2 a1 bt1385.1 bt1385.2).bind fun bt1390 => (if (bt1390.1 != bt1377.1) = true then (laws_FnExactVerifyBoard.j0 k true a0_0 a0_1 l0_2 a2_0 l2_1 bt1379.1 bt1379.2.1 bt1379.2.2 bt1385.1 bt1385.2) else (laws_FnExactVerifyBoard.j0 k (bt1390.2 != bt1377.2) a0_0 a0_1 l0_2 a2_0 l2_1 bt1379.1 bt1379.2.1 bt1379.2.2 bt1385.1 bt1385.2)))))))))))) = some r := h
 clear h
 replace H := Option.bind_eq_some_iff.mp H
 obtain ⟨t1366, A40, H⟩ := H
 replace H : (if t1366 < 0 then (some true) else ((laws_szTable.f a2_0 l2_1 t1366).bind fun t1367 => (if t1367 < 0 then (some true) else ((laws_toBoard.f k a0_0 a0_1 l0_2).bind fun bt1368 => ((laws_toTable.f k a2_0 l2_1).bind fun bt1373 => ((spec_VerifyBoard.f k bt1368.1 bt1368.2.1 bt1368.2.2 a1 bt1373.1 bt1373.2).bind fun bt1377 => ((laws_toBoard.f k a0_0 a0_1 l0_2).bind fun bt1379 => ((laws_toTable.f k a2_0 l2_1).bind fun bt1385 => ((impl_VerifyBoard.f k bt1379.1 bt1379.2.1 bt1379.2.2 a1 bt1385.1 bt1385.2).bind fun bt1390 => (if (bt1390.1 != bt1377.1) = true then (laws_FnExactVerifyBoard.j0 k true a0_0 a0_1 l0_2 a2_0 l2_1 bt1379.1 bt1379.2.1 bt1379.2.2 bt1385.1 bt1385.2) else (laws_FnExactVerifyBoard.j0 k (bt1390.2 != bt1377.2) a0_0 a0_1 l0_2 a2_0 l2_1 bt1379.1 bt1379.2.1 bt1379.2.2 bt1385.1 bt1385.2))))))))))) = some r := H
 have A4 := Aside0.mk A40
 clear A40
 by_cases c5 : t1366 < 0
 ·rw [if_pos c5] at H
  have c5b0 : decide (t1366 < 0) = true := decide_eq_true c5
  clear c5
  obtain rfl := Option.some.inj H
  go_enter Try.func11, Try.ntmps11
  go_wp2_with (first | ((with_reducible refine gate_dst (N := 3) rfl ?_); refine box_event ?hg (N := 3) ?hd (cs := #[.int .i64 a0_0, .int .i64 a0_1, .slice A0_2 l0_2.length c0_2]) (t := 44) ?hr ?_; (case hd => rfl); (case hg => rfl); (case hr => first | (go_simp; done) | (go_simp; rfl)); intro gb1364 hg w6 hbox hb; refine ev4 (bs HB hb) (hbox) (gle hg HB) (gle hg HB) ?_; clear HB; intro HB BK1364 GW1364 GE1364; clear hb hbox hg) | ((with_reducible refine gate_dst (N := 5) rfl ?_); refine box_event ?hg (N := 5) ?hd (cs := #[.int .i64 a2_0, .slice A2_1 l2_1.length c2_1]) (t := 62) ?hr ?_; (case hd => rfl); (case hg => rfl); (case hr => first | (go_simp; done) | (go_simp; rfl)); intro gb1365 hg w7 hbox hb; refine ev7 (kb BK1364 hb) (bs HB hb) (hbox) (gle hg HB) (gle hg HB) (gnf hg BK1364) (gne hg BK1364) ?_; clear BK1364 HB; intro BK1364 HB BK1365 GW1365 GE1365 NB1364_1365 NB1365_1364; clear hb hbox hg; have hnb8 := NB1364_1365.out; have hnc8 := NB1365_1364.out; obtain ⟨hcz9_0, hcz9_1, hcz9_2, hfz9_0, hfz9_1, hfz9_2⟩ := bt3 BK1364) | ((with_reducible refine gate_callee (f := 30) rfl ?_); refine goesL_ (some 16) rfl rfl Try.func30 (by kernel_rfl) rfl #[.agg #[.int .i64 a0_0, .int .i64 a0_1, .slice A0_2 l0_2.length c0_2], .int .i64 1048576] rfl (by (try simp only [ma_, mb_, mc_]); first | done | rfl | (simp only [List.length_drop, List.length_take]; rfl)) ?_; (with_reducible refine (laws_szBoard.calls a0_0 a0_1 _ _ l0_2 1048576 t1366 _ (Kd.C_mv (Kd.C_below HR0_2.out HB.out)) HC0_2.out A4.out).mono ?_); rintro e w10 ⟨rfl, hb⟩; refine ⟨_, rfl, ?_⟩; refine ev3 (kb BK1364 hb) (kb BK1365 hb) (bs HB hb) ?_; clear BK1364 BK1365 HB; intro BK1364 BK1365 HB; (try clear hb); (try clear hb2); (try clear hk); (try clear hi)))
  go_ret
  exact ⟨by first | rfl | (simp [e0_, e1_] <;> rfl) | (simp [*, e0_, e1_] <;> rfl), bm HB⟩
 ·rw [if_neg c5] at H
  have c5b0 : decide (t1366 < 0) = false := decide_eq_false c5
  clear c5
  replace H := Option.bind_eq_some_iff.mp H
  obtain ⟨t1367, A110, H⟩ := H
  replace H : (if t1367 < 0 then (some true) else ((laws_toBoard.f k a0_0 a0_1 l0_2).bind fun bt1368 => ((laws_toTable.f k a2_0 l2_1).bind fun bt1373 => ((spec_VerifyBoard.f k bt1368.1 bt1368.2.1 bt1368.2.2 a1 bt1373.1 bt1373.2).bind fun bt1377 => ((laws_toBoard.f k a0_0 a0_1 l0_2).bind fun bt1379 => ((laws_toTable.f k a2_0 l2_1).bind fun bt1385 => ((impl_VerifyBoard.f k bt1379.1 bt1379.2.1 bt1379.2.2 a1 bt1385.1 bt1385.2).bind fun bt1390 => (if (bt1390.1 != bt1377.1) = true then (laws_FnExactVerifyBoard.j0 k true a0_0 a0_1 l0_2 a2_0 l2_1 bt1379.1 bt1379.2.1 bt1379.2.2 bt1385.1 bt1385.2) else (laws_FnExactVerifyBoard.j0 k (bt1390.2 != bt1377.2) a0_0 a0_1 l0_2 a2_0 l2_1 bt1379.1 bt1379.2.1 bt1379.2.2 bt1385.1 bt1385.2))))))))) = some r := H
  have A11 := Aside0.mk A110
  clear A110
  by_cases c12 : t1367 < 0
  ·rw [if_pos c12] at H
   have c12b0 : decide (t1367 < 0) = true := decide_eq_true c12
   clear c12
   obtain rfl := Option.some.inj H
   go_enter Try.func11, Try.ntmps11
   go_wp2_with (first | ((with_reducible refine gate_dst (N := 3) rfl ?_); refine box_event ?hg (N := 3) ?hd (cs := #[.int .i64 a0_0, .int .i64 a0_1, .slice A0_2 l0_2.length c0_2]) (t := 44) ?hr ?_; (case hd => rfl); (case hg => rfl); (case hr => first | (go_simp; done) | (go_simp; rfl)); intro gb1364 hg w13 hbox hb; refine ev4 (bs HB hb) (hbox) (gle hg HB) (gle hg HB) ?_; clear HB; intro HB BK1364 GW1364 GE1364; clear hb hbox hg) | ((with_reducible refine gate_dst (N := 5) rfl ?_); refine box_event ?hg (N := 5) ?hd (cs := #[.int .i64 a2_0, .slice A2_1 l2_1.length c2_1]) (t := 62) ?hr ?_; (case hd => rfl); (case hg => rfl); (case hr => first | (go_simp; done) | (go_simp; rfl)); intro gb1365 hg w14 hbox hb; refine ev7 (kb BK1364 hb) (bs HB hb) (hbox) (gle hg HB) (gle hg HB) (gnf hg BK1364) (gne hg BK1364) ?_; clear BK1364 HB; intro BK1364 HB BK1365 GW1365 GE1365 NB1364_1365 NB1365_1364; clear hb hbox hg; have hnb15 := NB1364_1365.out; have hnc15 := NB1365_1364.out; obtain ⟨hcz16_0, hcz16_1, hcz16_2, hfz16_0, hfz16_1, hfz16_2⟩ := bt3 BK1364) | ((with_reducible refine gate_callee (f := 30) rfl ?_); refine goesL_ (some 16) rfl rfl Try.func30 (by kernel_rfl) rfl #[.agg #[.int .i64 a0_0, .int .i64 a0_1, .slice A0_2 l0_2.length c0_2], .int .i64 1048576] rfl (by (try simp only [ma_, mb_, mc_]); first | done | rfl | (simp only [List.length_drop, List.length_take]; rfl)) ?_; (with_reducible refine (laws_szBoard.calls a0_0 a0_1 _ _ l0_2 1048576 t1366 _ (Kd.C_mv (Kd.C_below HR0_2.out HB.out)) HC0_2.out A4.out).mono ?_); rintro e w17 ⟨rfl, hb⟩; refine ⟨_, rfl, ?_⟩; refine ev3 (kb BK1364 hb) (kb BK1365 hb) (bs HB hb) ?_; clear BK1364 BK1365 HB; intro BK1364 BK1365 HB; (try clear hb); (try clear hb2); (try clear hk); (try clear hi); obtain ⟨hcz18_0, hcz18_1, hfz18_0, hfz18_1⟩ := bt2 BK1365) | ((with_reducible refine gate_callee (f := 45) rfl ?_); refine goesL_ (some 21) rfl rfl Try.func45 (by kernel_rfl) rfl #[.agg #[.int .i64 a2_0, .slice A2_1 l2_1.length c2_1], .int .i64 t1366] rfl (by (try simp only [ma_, mb_, mc_]); first | done | rfl | (simp only [List.length_drop, List.length_take]; rfl)) ?_; (with_reducible refine (laws_szTable.calls a2_0 _ _ l2_1 t1366 t1367 _ (Kd.C_mv (Kd.C_below HR2_1.out HB.out)) HC2_1.out A11.out).mono ?_); rintro e w19 ⟨rfl, hb⟩; refine ⟨_, rfl, ?_⟩; refine ev3 (kb BK1364 hb) (kb BK1365 hb) (bs HB hb) ?_; clear BK1364 BK1365 HB; intro BK1364 BK1365 HB; (try clear hb); (try clear hb2); (try clear hk); (try clear hi)))
   go_ret
   exact ⟨by first | rfl | (simp [e0_, e1_] <;> rfl) | (simp [*, e0_, e1_] <;> rfl), bm HB⟩
  ·rw [if_neg c12] at H
   have c12b0 : decide (t1367 < 0) = false := decide_eq_false c12
   clear c12
   replace H := Option.bind_eq_some_iff.mp H
   obtain ⟨⟨t1368, t1369, t1370⟩, A200, H⟩ := H
   replace H : ((laws_toTable.f k a2_0 l2_1).bind fun bt1373 => ((spec_VerifyBoard.f k t1368 t1369 t1370 a1 bt1373.1 bt1373.2).bind fun bt1377 => ((laws_toBoard.f k a0_0 a0_1 l0_2).bind fun bt1379 => ((laws_toTable.f k a2_0 l2_1).bind fun bt1385 => ((impl_VerifyBoard.f k bt1379.1 bt1379.2.1 bt1379.2.2 a1 bt1385.1 bt1385.2).bind fun bt1390 => (if (bt1390.1 != bt1377.1) = true then (laws_FnExactVerifyBoard.j0 k true a0_0 a0_1 l0_2 a2_0 l2_1 bt1379.1 bt1379.2.1 bt1379.2.2 bt1385.1 bt1385.2) else (laws_FnExactVerifyBoard.j0 k (bt1390.2 != bt1377.2) a0_0 a0_1 l0_2 a2_0 l2_1 bt1379.1 bt1379.2.1 bt1379.2.2 bt1385.1 bt1385.2))))))) = some r := H
   have A20 := Aside0.mk A200
   clear A200
   replace H := Option.bind_eq_some_iff.mp H
   obtain ⟨⟨t1373, t1374⟩, A210, H⟩ := H
   replace H : ((spec_VerifyBoard.f k t1368 t1369 t1370 a1 t1373 t1374).bind fun bt1377 => ((laws_toBoard.f k a0_0 a0_1 l0_2).bind fun bt1379 => ((laws_toTable.f k a2_0 l2_1).bind fun bt1385 => ((impl_VerifyBoard.f k bt1379.1 bt1379.2.1 bt1379.2.2 a1 bt1385.1 bt1385.2).bind fun bt1390 => (if (bt1390.1 != bt1377.1) = true then (laws_FnExactVerifyBoard.j0 k true a0_0 a0_1 l0_2 a2_0 l2_1 bt1379.1 bt1379.2.1 bt1379.2.2 bt1385.1 bt1385.2) else (laws_FnExactVerifyBoard.j0 k (bt1390.2 != bt1377.2) a0_0 a0_1 l0_2 a2_0 l2_1 bt1379.1 bt1379.2.1 bt1379.2.2 bt1385.1 bt1385.2)))))) = some r := H
   have A21 := Aside0.mk A210
   clear A210
   replace H := Option.bind_eq_some_iff.mp H
   obtain ⟨⟨t1377, t1378⟩, A220, H⟩ := H
   replace H : ((laws_toBoard.f k a0_0 a0_1 l0_2).bind fun bt1379 => ((laws_toTable.f k a2_0 l2_1).bind fun bt1385 => ((impl_VerifyBoard.f k bt1379.1 bt1379.2.1 bt1379.2.2 a1 bt1385.1 bt1385.2).bind fun bt1390 => (if (bt1390.1 != t1377) = true then (laws_FnExactVerifyBoard.j0 k true a0_0 a0_1 l0_2 a2_0 l2_1 bt1379.1 bt1379.2.1 bt1379.2.2 bt1385.1 bt1385.2) else (laws_FnExactVerifyBoard.j0 k (bt1390.2 != t1378) a0_0 a0_1 l0_2 a2_0 l2_1 bt1379.1 bt1379.2.1 bt1379.2.2 bt1385.1 bt1385.2))))) = some r := H
   have A22 := Aside0.mk A220
   clear A220
   replace H := Option.bind_eq_some_iff.mp H
   obtain ⟨⟨t1379, t1380, t1381⟩, A230, H⟩ := H
   replace H : ((laws_toTable.f k a2_0 l2_1).bind fun bt1385 => ((impl_VerifyBoard.f k t1379 t1380 t1381 a1 bt1385.1 bt1385.2).bind fun bt1390 => (if (bt1390.1 != t1377) = true then (laws_FnExactVerifyBoard.j0 k true a0_0 a0_1 l0_2 a2_0 l2_1 t1379 t1380 t1381 bt1385.1 bt1385.2) else (laws_FnExactVerifyBoard.j0 k (bt1390.2 != t1378) a0_0 a0_1 l0_2 a2_0 l2_1 t1379 t1380 t1381 bt1385.1 bt1385.2)))) = some r := H
   have A23 := Aside0.mk A230
   clear A230
   replace H := Option.bind_eq_some_iff.mp H
   obtain ⟨⟨t1385, t1386⟩, A240, H⟩ := H
   replace H : ((impl_VerifyBoard.f k t1379 t1380 t1381 a1 t1385 t1386).bind fun bt1390 => (if (bt1390.1 != t1377) = true then (laws_FnExactVerifyBoard.j0 k true a0_0 a0_1 l0_2 a2_0 l2_1 t1379 t1380 t1381 t1385 t1386) else (laws_FnExactVerifyBoard.j0 k (bt1390.2 != t1378) a0_0 a0_1 l0_2 a2_0 l2_1 t1379 t1380 t1381 t1385 t1386))) = some r := H
   have A24 := Aside0.mk A240
   clear A240
   replace H := Option.bind_eq_some_iff.mp H
   obtain ⟨⟨t1390, t1391⟩, A250, H⟩ := H
   replace H : (if (t1390 != t1377) = true then (laws_FnExactVerifyBoard.j0 k true a0_0 a0_1 l0_2 a2_0 l2_1 t1379 t1380 t1381 t1385 t1386) else (laws_FnExactVerifyBoard.j0 k (t1391 != t1378) a0_0 a0_1 l0_2 a2_0 l2_1 t1379 t1380 t1381 t1385 t1386)) = some r := H
   have A25 := Aside0.mk A250
   clear A250
   have HC26 := Aside0.mk H
   clear H
   go_enter Try.func11, Try.ntmps11
   try go_wp2_with (first | ((with_reducible refine gate_dst (N := 3) rfl ?_); refine box_event ?hg (N := 3) ?hd (cs := #[.int .i64 a0_0, .int .i64 a0_1, .slice A0_2 l0_2.length c0_2]) (t := 44) ?hr ?_; (case hd => rfl); (case hg => rfl); (case hr => first | (go_simp; done) | (go_simp; rfl)); intro gb1364 hg w27 hbox hb; refine ev4 (bs HB hb) (hbox) (gle hg HB) (gle hg HB) ?_; clear HB; intro HB BK1364 GW1364 GE1364; clear hb hbox hg) | ((with_reducible refine gate_dst (N := 5) rfl ?_); refine box_event ?hg (N := 5) ?hd (cs := #[.int .i64 a2_0, .slice A2_1 l2_1.length c2_1]) (t := 62) ?hr ?_; (case hd => rfl); (case hg => rfl); (case hr => first | (go_simp; done) | (go_simp; rfl)); intro gb1365 hg w28 hbox hb; refine ev7 (kb BK1364 hb) (bs HB hb) (hbox) (gle hg HB) (gle hg HB) (gnf hg BK1364) (gne hg BK1364) ?_; clear BK1364 HB; intro BK1364 HB BK1365 GW1365 GE1365 NB1364_1365 NB1365_1364; clear hb hbox hg; have hnb29 := NB1364_1365.out; have hnc29 := NB1365_1364.out; obtain ⟨hcz30_0, hcz30_1, hcz30_2, hfz30_0, hfz30_1, hfz30_2⟩ := bt3 BK1364) | ((with_reducible refine gate_callee (f := 30) rfl ?_); refine goesL_ (some 16) rfl rfl Try.func30 (by kernel_rfl) rfl #[.agg #[.int .i64 a0_0, .int .i64 a0_1, .slice A0_2 l0_2.length c0_2], .int .i64 1048576] rfl (by (try simp only [ma_, mb_, mc_]); first | done | rfl | (simp only [List.length_drop, List.length_take]; rfl)) ?_; (with_reducible refine (laws_szBoard.calls a0_0 a0_1 _ _ l0_2 1048576 t1366 _ (Kd.C_mv (Kd.C_below HR0_2.out HB.out)) HC0_2.out A4.out).mono ?_); rintro e w31 ⟨rfl, hb⟩; refine ⟨_, rfl, ?_⟩; refine ev3 (kb BK1364 hb) (kb BK1365 hb) (bs HB hb) ?_; clear BK1364 BK1365 HB; intro BK1364 BK1365 HB; (try clear hb); (try clear hb2); (try clear hk); (try clear hi); obtain ⟨hcz32_0, hcz32_1, hfz32_0, hfz32_1⟩ := bt2 BK1365) | ((with_reducible refine gate_callee (f := 45) rfl ?_); refine goesL_ (some 21) rfl rfl Try.func45 (by kernel_rfl) rfl #[.agg #[.int .i64 a2_0, .slice A2_1 l2_1.length c2_1], .int .i64 t1366] rfl (by (try simp only [ma_, mb_, mc_]); first | done | rfl | (simp only [List.length_drop, List.length_take]; rfl)) ?_; (with_reducible refine (laws_szTable.calls a2_0 _ _ l2_1 t1366 t1367 _ (Kd.C_mv (Kd.C_below HR2_1.out HB.out)) HC2_1.out A11.out).mono ?_); rintro e w33 ⟨rfl, hb⟩; refine ⟨_, rfl, ?_⟩; refine ev3 (kb BK1364 hb) (kb BK1365 hb) (bs HB hb) ?_; clear BK1364 BK1365 HB; intro BK1364 BK1365 HB; (try clear hb); (try clear hb2); (try clear hk); (try clear hi)))
   refine ev3 (blk_drew BK1364.out) (blk_drew BK1365.out) (below_drew1 HB.out) ?_
   clear BK1364 BK1365 HB
   intro BK1364 BK1365 HB
   refine start_ (n := 11) (S := fun w' => w'.cell? ⟨gb1364, 0, none⟩ = some (.int .i64 a0_0) ∧ w'.cell? ⟨gb1364, 1, none⟩ = some (.int .i64 a0_1) ∧ w'.cell? ⟨gb1364, 2, none⟩ = some (.slice A0_2 l0_2.length c0_2) ∧ w'.cell? ⟨gb1365, 0, none⟩ = some (.int .i64 a2_0) ∧ w'.cell? ⟨gb1365, 1, none⟩ = some (.slice A2_1 l2_1.length c2_1)) (ds := []) #[false, false, false, false, false, false, false, false, false, false, false] (by kernel_rfl) rfl rfl ⟨(blk_cell BK1364.out 0).trans rfl, (blk_cell BK1364.out 1).trans rfl, (blk_cell BK1364.out 2).trans rfl, (blk_cell BK1365.out 0).trans rfl, (blk_cell BK1365.out 1).trans rfl⟩ (fun hHeld => ?_); refine with_tabW laws_FnExactVerifyBoard.tab8 laws_FnExactVerifyBoard.bits8 (fun HT_ HW_ => ?_)
   generalize w33.drew = w34 at BK1364 BK1365 HB hHeld ⊢
   refine pure_ (i := 2) (N := some 27) (v := ?_) (a' := ?_) #[false, false, true, false, false, false, false, false, false, false, false] rfl rfl (any_of HT_.out (by kernel_rfl)) (fun _ _ _ h => h) (Or.inl ⟨by rfl, ?_⟩) ?_ ?_
   rotate_left
   ·intro w'
    go_simp
    with_reducible rfl
   rotate_left
   ·simp only [Act.put, za_, zb_, zc_, i64_w, i32_w]
    rfl
   refine take_ (i := 0) (N := some 25) (v := ?_) (a' := ?_) #[true, false, true, false, false, false, false, false, false, false, false] rfl rfl (take_ofW HT_.out HW_.out (by kernel_rfl)) (fun _ _ _ h => h) (Or.inl ⟨by rfl, ?_⟩) hHeld ?_ ?_
   rotate_left
   ·rintro w' ⟨s0, s1, s2, s3, s4⟩
    go_simp
    with_reducible rfl
   rotate_left
   ·simp only [Act.put, za_, zb_, zc_, i64_w, i32_w]
    rfl
   refine take_ (i := 3) (N := some 28) (v := ?_) (a' := ?_) #[true, false, true, true, false, false, false, false, false, false, false] rfl rfl (take_ofW HT_.out HW_.out (by kernel_rfl)) (fun _ _ _ h => h) (Or.inl ⟨by rfl, ?_⟩) hHeld ?_ ?_
   rotate_left
   ·rintro w' ⟨s0, s1, s2, s3, s4⟩
    go_simp
    with_reducible rfl
   rotate_left
   ·simp only [Act.put, za_, zb_, zc_, i64_w, i32_w]
    rfl
   refine one_ (i := 1) (N := some 26) #[true, true, true, true, false, false, false, false, false, false, false] rfl rfl (one_of HT_.out (by kernel_rfl)) (by decide) (fun K hK => ?_)
   refine goes_ Try.func32 (by kernel_rfl) rfl #[.agg #[.int .i64 a0_0, .int .i64 a0_1, .slice A0_2 l0_2.length c0_2]] (by rfl) rfl rfl (by (try simp only [ma_, mb_, mc_]); first | done | rfl | (simp only [List.length_drop, List.length_take]; rfl)) ?_
   with_reducible refine (laws_toBoard.calls k a0_0 a0_1 _ _ l0_2 t1368 t1369 t1370 _ ?side1 ?side2 A20.out).mono ?_
   (case side1 => exact Kd.C_mv (Kd.C_below HR0_2.out HB.out))
   (case side2 => exact HC0_2.out)
   rintro e w35 ⟨v1371, rfl, ho0, hb⟩
   refine ⟨_, rfl, ?_⟩
   refine ev4 (Kd.R_lower ho0 (below_size (bm HB))) (kb BK1364 hb) (kb BK1365 hb) (bs HB hb) ?_
   clear BK1364 BK1365 HB
   intro HO1372 BK1364 BK1365 HB
   (try clear hb)
   (try clear hb2)
   (try clear hk)
   (try clear hi)
   (try clear ho0)
   refine hK.out _ _ ⟨(blk_cell BK1364.out 0).trans rfl, (blk_cell BK1364.out 1).trans rfl, (blk_cell BK1364.out 2).trans rfl, (blk_cell BK1365.out 0).trans rfl, (blk_cell BK1365.out 1).trans rfl⟩ (fun hHeld => ?_)
   clear hK K
   refine norm_ (a' := ?_) ?_ ?_
   rotate_left
   ·show Act.put _ (some 26) _ = _
    simp only [Act.put, za_, zb_, zc_, i64_w, i32_w]
    rfl
   refine one_ (i := 4) (N := some 29) #[true, true, true, true, true, false, false, false, false, false, false] rfl rfl (one_of HT_.out (by kernel_rfl)) (by decide) (fun K hK => ?_)
   refine goes_ Try.func47 (by kernel_rfl) rfl #[.agg #[.int .i64 a2_0, .slice A2_1 l2_1.length c2_1]] (by rfl) rfl rfl (by (try simp only [ma_, mb_, mc_]); first | done | rfl | (simp only [List.length_drop, List.length_take]; rfl)) ?_
   with_reducible refine (laws_toTable.calls k a2_0 _ _ l2_1 t1373 t1374 _ ?side1 ?side2 A21.out).mono ?_
   (case side1 => exact Kd.C_mv (Kd.C_below HR2_1.out HB.out))
   (case side2 => exact HC2_1.out)
   rintro e w36 ⟨v1375, rfl, ho0, hb⟩
   refine ⟨_, rfl, ?_⟩
   refine ev5 (Kd.R_below (Kd.R_mv HO1372.out) hb) (Kd.R_lower ho0 (below_size (bm HB))) (kb BK1364 hb) (kb BK1365 hb) (bs HB hb) ?_
   clear HO1372 BK1364 BK1365 HB
   intro HO1372 HO1376 BK1364 BK1365 HB
   (try clear hb)
   (try clear hb2)
   (try clear hk)
   (try clear hi)
   (try clear ho0)
   obtain ⟨Ao37, co37, eo37⟩ := Kd.R_slice HO1372.out
   (first | subst eo37 | (injection eo37 with f1_ f2_ f3_; have f4_ := f1_.symm; have f5_ := f3_.symm; clear f1_ f2_ f3_; subst f4_; subst f5_))
   obtain ⟨Ao38, co38, eo38⟩ := Kd.R_slice HO1376.out
   (first | subst eo38 | (injection eo38 with f1_ f2_ f3_; have f4_ := f1_.symm; have f5_ := f3_.symm; clear f1_ f2_ f3_; subst f4_; subst f5_))
   refine hK.out _ _ ⟨(blk_cell BK1364.out 0).trans rfl, (blk_cell BK1364.out 1).trans rfl, (blk_cell BK1364.out 2).trans rfl, (blk_cell BK1365.out 0).trans rfl, (blk_cell BK1365.out 1).trans rfl⟩ (fun hHeld => ?_)
   clear hK K
   refine norm_ (a' := ?_) ?_ ?_
   rotate_left
   ·show Act.put _ (some 29) _ = _
    simp only [Act.put, za_, zb_, zc_, i64_w, i32_w]
    rfl
   refine one_ (i := 5) (N := some 30) #[true, true, true, true, true, true, false, false, false, false, false] rfl rfl (one_of HT_.out (by kernel_rfl)) (by decide) (fun K hK => ?_)
   refine goes_ Try.func46 (by kernel_rfl) rfl #[.agg #[.int .i64 t1368, .int .i64 t1369, .slice Ao37 t1370.length co37], .int .i64 a1, .agg #[.int .i64 t1373, .slice Ao38 t1374.length co38]] (by rfl) rfl rfl (by (try simp only [ma_, mb_, mc_]); first | done | rfl | (simp only [List.length_drop, List.length_take]; rfl)) ?_
   with_reducible refine (spec_VerifyBoard.calls k t1368 t1369 _ _ t1370 a1 t1373 _ _ t1374 t1377 t1378 _ ?side1 ?side2 ?side3 ?side4 A22.out).mono ?_
   (case side1 => exact Kd.C_mv (Kd.R_reads' HO1372.out).2.2)
   (case side2 => exact (Kd.R_reads' HO1372.out).2.1)
   (case side3 => exact Kd.C_mv (Kd.R_reads' HO1376.out).2.2)
   (case side4 => exact (Kd.R_reads' HO1376.out).2.1)
   rintro e w39 ⟨rfl, hb⟩
   refine ⟨_, rfl, ?_⟩
   refine ev5 (Kd.R_below (Kd.R_mv HO1372.out) hb) (Kd.R_below (Kd.R_mv HO1376.out) hb) (kb BK1364 hb) (kb BK1365 hb) (bs HB hb) ?_
   clear HO1372 HO1376 BK1364 BK1365 HB
   intro HO1372 HO1376 BK1364 BK1365 HB
   (try clear hb)
   (try clear hb2)
   (try clear hk)
   (try clear hi)
   refine hK.out _ _ ⟨(blk_cell BK1364.out 0).trans rfl, (blk_cell BK1364.out 1).trans rfl, (blk_cell BK1364.out 2).trans rfl, (blk_cell BK1365.out 0).trans rfl, (blk_cell BK1365.out 1).trans rfl⟩ (fun hHeld => ?_)
   clear hK K
   refine norm_ (a' := ?_) ?_ ?_
   rotate_left
   ·show Act.put _ (some 30) _ = _
    simp only [Act.put, za_, zb_, zc_, i64_w, i32_w]
    rfl
   refine pure_ (i := 6) (N := some 24) (v := ?_) (a' := ?_) #[true, true, true, true, true, true, true, false, false, false, false] rfl rfl (any_of HT_.out (by kernel_rfl)) (fun _ _ _ h => h) (Or.inl ⟨by rfl, ?_⟩) ?_ ?_
   rotate_left
   ·intro w'
    go_simp
    with_reducible rfl
   rotate_left
   ·simp only [Act.put, za_, zb_, zc_, i64_w, i32_w]
    rfl
   refine pure_ (i := 7) (N := some 31) (v := ?_) (a' := ?_) #[true, true, true, true, true, true, true, true, false, false, false] rfl rfl (any_of HT_.out (by kernel_rfl)) (fun _ _ _ h => h) (Or.inl ⟨by rfl, ?_⟩) ?_ ?_
   rotate_left
   ·intro w'
    go_simp
    with_reducible rfl
   rotate_left
   ·simp only [Act.put, za_, zb_, zc_, i64_w, i32_w]
    rfl
   refine pure_ (i := 8) (N := some 32) (v := ?_) (a' := ?_) #[true, true, true, true, true, true, true, true, true, false, false] rfl rfl (any_of HT_.out (by kernel_rfl)) (fun _ _ _ h => h) (Or.inl ⟨by rfl, ?_⟩) ?_ ?_
   rotate_left
   ·intro w'
    go_simp
    with_reducible rfl
   rotate_left
   ·simp only [Act.put, za_, zb_, zc_, i64_w, i32_w]
    rfl
   refine pure_ (i := 9) (N := some 8) (v := ?_) (a' := ?_) #[true, true, true, true, true, true, true, true, true, true, false] rfl rfl (any_of HT_.out (by kernel_rfl)) (fun _ _ _ h => h) (Or.inl ⟨by rfl, ?_⟩) ?_ ?_
   rotate_left
   ·intro w'
    go_simp
    with_reducible rfl
   rotate_left
   ·simp only [Act.put, za_, zb_, zc_, i64_w, i32_w]
    rfl
   refine pure_ (i := 10) (N := some 9) (v := ?_) (a' := ?_) #[true, true, true, true, true, true, true, true, true, true, true] rfl rfl (any_of HT_.out (by kernel_rfl)) (fun _ _ _ h => h) (Or.inl ⟨by rfl, ?_⟩) ?_ ?_
   rotate_left
   ·intro w'
    go_simp
    with_reducible rfl
   rotate_left
   ·simp only [Act.put, za_, zb_, zc_, i64_w, i32_w]
    rfl
   refine done_ (done_of HT_.out (by kernel_rfl)) ?_
   obtain ⟨hcz40_0, hcz40_1, hcz40_2, hfz40_0, hfz40_1, hfz40_2⟩ := bt3 BK1364
   go_upto_region 12 with (first | ((with_reducible refine gate_callee (f := 32) rfl ?_); refine goesL_ (some 34) rfl rfl Try.func32 (by kernel_rfl) rfl #[.agg #[.int .i64 a0_0, .int .i64 a0_1, .slice A0_2 l0_2.length c0_2]] rfl (by (try simp only [ma_, mb_, mc_]); first | done | rfl | (simp only [List.length_drop, List.length_take]; rfl)) ?_; (with_reducible refine (laws_toBoard.calls k a0_0 a0_1 _ _ l0_2 t1379 t1380 t1381 _ (Kd.C_mv (Kd.C_below HR0_2.out HB.out)) HC0_2.out A23.out).mono ?_); rintro e w41 ⟨v1382, rfl, ho0, hb⟩; refine ⟨_, rfl, ?_⟩; refine ev6 (Kd.R_elder' (Kd.R_mv HO1372.out) (Kd.R_base ho0) hb) (Kd.R_below (Kd.R_mv HO1376.out) hb) (Kd.R_lower (Kd.R_new' ho0 (Kd.R_lt (Kd.R_mv HO1372.out))) (below_size (bm HB))) (kb BK1364 hb) (kb BK1365 hb) (bs HB hb) ?_; clear HO1372 HO1376 BK1364 BK1365 HB; intro HO1372 HO1376 HO1383 BK1364 BK1365 HB; (try clear hb); (try clear hb2); (try clear hk); (try clear hi); (try clear ho0)) | ((with_reducible refine gate_dst (N := 10) rfl ?_); refine box_event ?hg (N := 10) ?hd (cs := #[.int .i64 0, .int .i64 0, .slice none 0 0]) (t := 48) ?hr ?_; (case hd => rfl); (case hg => rfl); (case hr => first | (go_simp; done) | (go_simp; rfl)); intro gb1384 hg w42 hbox hb; refine ev12 (Kd.R_below (Kd.R_mv HO1372.out) hb) (Kd.R_below (Kd.R_mv HO1376.out) hb) (Kd.R_below (Kd.R_mv HO1383.out) hb) (kb BK1364 hb) (kb BK1365 hb) (bs HB hb) (hbox) (gle hg HB) (gle hg HB) (gnf hg BK1364) (gne hg BK1364) (gnf hg BK1365) ?_; intro n0_ n1_ n2_ n3_ n4_ n5_ n6_ n7_ n8_ n9_ n10_ n11_; refine ev1 (gne hg BK1365) ?_; intro n12_; clear HO1372 HO1376 HO1383 BK1364 BK1365 HB; revert n0_ n1_ n2_ n3_ n4_ n5_ n6_ n7_ n8_ n9_ n10_ n11_ n12_; intro HO1372 HO1376 HO1383 BK1364 BK1365 HB BK1384 GW1384 GE1384 NB1364_1384 NB1384_1364 NB1365_1384 NB1384_1365; clear hb hbox hg; have hnb43 := NB1384_1364.out; have hnc43 := NB1364_1384.out; have hnb44 := NB1384_1365.out; have hnc44 := NB1365_1384.out; obtain ⟨hcz45_0, hcz45_1, hcz45_2, hfz45_0, hfz45_1, hfz45_2⟩ := bt3 BK1384; obtain ⟨Ao46, co46, eo46⟩ := Kd.R_slice HO1383.out; subst eo46; obtain ⟨hcz47_0, hcz47_1, hfz47_0, hfz47_1⟩ := bt2 BK1365) | ((with_reducible refine gate_callee (f := 47) rfl ?_); refine goesL_ (some 36) rfl rfl Try.func47 (by kernel_rfl) rfl #[.agg #[.int .i64 a2_0, .slice A2_1 l2_1.length c2_1]] rfl (by (try simp only [ma_, mb_, mc_]); first | done | rfl | (simp only [List.length_drop, List.length_take]; rfl)) ?_; (with_reducible refine (laws_toTable.calls k a2_0 _ _ l2_1 t1385 t1386 _ (Kd.C_below HR2_1.out (bm HB)) HC2_1.out A24.out).mono ?_); rintro e w48 ⟨v1387, rfl, ho0, hb⟩; refine ⟨_, rfl, ?_⟩; refine ev8 (Kd.R_below (Kd.R_mv (Kd.R_mono (Kd.R_far (p := ⟨gb1384, 2, none⟩) (Kd.R_far (p := ⟨gb1384, 1, none⟩) (Kd.R_far (p := ⟨gb1384, 0, none⟩) (Kd.R_types HO1372.out BK1384.out (by decide)) (fun _ hk => hk.2) (.int .i64 t1379)) (fun _ hk => hk.2) (.int .i64 t1380)) (fun _ hk => hk.2) (.slice Ao46 t1381.length co46)) (fun _ h_ => h_.1))) hb) (Kd.R_elder' (Kd.R_mv (Kd.R_mono (Kd.R_far (p := ⟨gb1384, 2, none⟩) (Kd.R_far (p := ⟨gb1384, 1, none⟩) (Kd.R_far (p := ⟨gb1384, 0, none⟩) (Kd.R_types HO1376.out BK1384.out (by decide)) (fun _ hk => hk.2) (.int .i64 t1379)) (fun _ hk => hk.2) (.int .i64 t1380)) (fun _ hk => hk.2) (.slice Ao46 t1381.length co46)) (fun _ h_ => h_.1))) (Kd.R_base ho0) hb) (Kd.R_below (Kd.R_mv (Kd.R_mono (Kd.R_far (p := ⟨gb1384, 2, none⟩) (Kd.R_far (p := ⟨gb1384, 1, none⟩) (Kd.R_far (p := ⟨gb1384, 0, none⟩) (Kd.R_types HO1383.out BK1384.out (by decide)) (fun _ hk => hk.2) (.int .i64 t1379)) (fun _ hk => hk.2) (.int .i64 t1380)) (fun _ hk => hk.2) (.slice Ao46 t1381.length co46)) (fun _ h_ => h_.1))) hb) (Kd.R_lower (Kd.R_new' ho0 (Kd.R_lt (Kd.R_mv (Kd.R_mono (Kd.R_far (p := ⟨gb1384, 2, none⟩) (Kd.R_far (p := ⟨gb1384, 1, none⟩) (Kd.R_far (p := ⟨gb1384, 0, none⟩) (Kd.R_types HO1376.out BK1384.out (by decide)) (fun _ hk => hk.2) (.int .i64 t1379)) (fun _ hk => hk.2) (.int .i64 t1380)) (fun _ hk => hk.2) (.slice Ao46 t1381.length co46)) (fun _ h_ => h_.1))))) (below_size (bm HB))) (blk_below (g := gb1364) (o := .cells #[.int .i64 a0_0, .int .i64 a0_1, .slice A0_2 l0_2.length c0_2] 44 (0, 0)) (fp BK1364 rfl) hb) (blk_below (g := gb1365) (o := .cells #[.int .i64 a2_0, .slice A2_1 l2_1.length c2_1] 62 (0, 0)) (fp BK1365 rfl) hb) (blk_below (g := gb1384) (o := .cells #[.int .i64 t1379, .int .i64 t1380, .slice Ao46 t1381.length co46] 48 (0, 0)) (fp BK1384 rfl) hb) (bs HB hb) ?_; clear HO1372 HO1376 HO1383 BK1364 BK1365 BK1384 HB; intro HO1372 HO1376 HO1383 HO1388 BK1364 BK1365 BK1384 HB; (try clear hb); (try clear hb2); (try clear hk); (try clear hi); (try clear ho0)) | ((with_reducible refine gate_dst (N := 11) rfl ?_); refine box_event ?hg (N := 11) ?hd (cs := #[.int .i64 0, .slice none 0 0]) (t := 66) ?hr ?_; (case hd => rfl); (case hg => rfl); (case hr => first | (go_simp; done) | (go_simp; rfl)); intro gb1389 hg w49 hbox hb; refine ev12 (Kd.R_below (Kd.R_mv HO1372.out) hb) (Kd.R_below (Kd.R_mv HO1376.out) hb) (Kd.R_below (Kd.R_mv HO1383.out) hb) (Kd.R_below (Kd.R_mv HO1388.out) hb) (kb BK1364 hb) (kb BK1365 hb) (kb BK1384 hb) (bs HB hb) (hbox) (gle hg HB) (gle hg HB) (gnf hg BK1364) ?_; intro n0_ n1_ n2_ n3_ n4_ n5_ n6_ n7_ n8_ n9_ n10_ n11_; refine ev5 (gne hg BK1364) (gnf hg BK1365) (gne hg BK1365) (gnf hg BK1384) (gne hg BK1384) ?_; intro n12_ n13_ n14_ n15_ n16_; clear HO1372 HO1376 HO1383 HO1388 BK1364 BK1365 BK1384 HB; revert n0_ n1_ n2_ n3_ n4_ n5_ n6_ n7_ n8_ n9_ n10_ n11_ n12_ n13_ n14_ n15_ n16_; intro HO1372 HO1376 HO1383 HO1388 BK1364 BK1365 BK1384 HB BK1389 GW1389 GE1389 NB1364_1389 NB1389_1364 NB1365_1389 NB1389_1365 NB1384_1389 NB1389_1384; clear hb hbox hg; have hnb50 := NB1389_1364.out; have hnc50 := NB1364_1389.out; have hnb51 := NB1389_1365.out; have hnc51 := NB1365_1389.out; have hnb52 := NB1389_1384.out; have hnc52 := NB1384_1389.out; obtain ⟨hcz53_0, hcz53_1, hfz53_0, hfz53_1⟩ := bt2 BK1389; obtain ⟨Ao54, co54, eo54⟩ := Kd.R_slice HO1388.out; subst eo54; obtain ⟨hcz55_0, hcz55_1, hcz55_2, hfz55_0, hfz55_1, hfz55_2⟩ := bt3 BK1384) | ((with_reducible refine gate_callee (f := 48) rfl ?_); refine goesL_ (some 41) rfl rfl Try.func48 (by kernel_rfl) rfl #[.agg #[.int .i64 t1379, .int .i64 t1380, .slice Ao46 t1381.length co46], .int .i64 a1, .agg #[.int .i64 t1385, .slice Ao54 t1386.length co54]] rfl (by (try simp only [ma_, mb_, mc_]); first | done | rfl | (simp only [List.length_drop, List.length_take]; rfl)) ?_; (with_reducible refine (impl_VerifyBoard.calls k t1379 t1380 _ _ t1381 a1 t1385 _ _ t1386 t1390 t1391 _ ?side1 ((Kd.R_reads' HO1383.out).2.1) ?side3 ((Kd.R_reads' HO1388.out).2.1) A25.out).mono ?_); (case side1 => refine (Kd.R_reads' (e := 78) (base := w.heap.size) (ok := fun k_ => (True ∧ some k_ ≠ (.slice Ao37 t1370.length co37 : Value).ownBlock)) (n := t1381.length) (c := co46) ?_).2.2; exact (Kd.R_mv (Kd.R_mono (Kd.R_far (p := ⟨gb1389, 1, none⟩) (Kd.R_far (p := ⟨gb1389, 0, none⟩) (Kd.R_types HO1383.out BK1389.out (by decide)) (fun _ hk => hk.2) (.int .i64 t1385)) (fun _ hk => hk.2) (.slice Ao54 t1386.length co54)) (fun _ h_ => h_.1)))); (case side3 => refine (Kd.R_reads' (e := 3) (base := w.heap.size) (ok := fun k_ => (True ∧ some k_ ≠ (.slice Ao38 t1374.length co38 : Value).ownBlock)) (n := t1386.length) (c := co54) ?_).2.2; exact (Kd.R_mv (Kd.R_mono (Kd.R_far (p := ⟨gb1389, 1, none⟩) (Kd.R_far (p := ⟨gb1389, 0, none⟩) (Kd.R_types HO1388.out BK1389.out (by decide)) (fun _ hk => hk.2) (.int .i64 t1385)) (fun _ hk => hk.2) (.slice Ao54 t1386.length co54)) (fun _ h_ => h_.1)))); rintro e w56 ⟨rfl, hb⟩; refine ⟨_, rfl, ?_⟩; refine ev9 (Kd.R_below (Kd.R_mv (Kd.R_mono (Kd.R_far (p := ⟨gb1389, 1, none⟩) (Kd.R_far (p := ⟨gb1389, 0, none⟩) (Kd.R_types HO1372.out BK1389.out (by decide)) (fun _ hk => hk.2) (.int .i64 t1385)) (fun _ hk => hk.2) (.slice Ao54 t1386.length co54)) (fun _ h_ => h_.1))) hb) (Kd.R_below (Kd.R_mv (Kd.R_mono (Kd.R_far (p := ⟨gb1389, 1, none⟩) (Kd.R_far (p := ⟨gb1389, 0, none⟩) (Kd.R_types HO1376.out BK1389.out (by decide)) (fun _ hk => hk.2) (.int .i64 t1385)) (fun _ hk => hk.2) (.slice Ao54 t1386.length co54)) (fun _ h_ => h_.1))) hb) (Kd.R_below (Kd.R_mv (Kd.R_mono (Kd.R_far (p := ⟨gb1389, 1, none⟩) (Kd.R_far (p := ⟨gb1389, 0, none⟩) (Kd.R_types HO1383.out BK1389.out (by decide)) (fun _ hk => hk.2) (.int .i64 t1385)) (fun _ hk => hk.2) (.slice Ao54 t1386.length co54)) (fun _ h_ => h_.1))) hb) (Kd.R_below (Kd.R_mv (Kd.R_mono (Kd.R_far (p := ⟨gb1389, 1, none⟩) (Kd.R_far (p := ⟨gb1389, 0, none⟩) (Kd.R_types HO1388.out BK1389.out (by decide)) (fun _ hk => hk.2) (.int .i64 t1385)) (fun _ hk => hk.2) (.slice Ao54 t1386.length co54)) (fun _ h_ => h_.1))) hb) (blk_below (g := gb1364) (o := .cells #[.int .i64 a0_0, .int .i64 a0_1, .slice A0_2 l0_2.length c0_2] 44 (0, 0)) (fp BK1364 rfl) hb) (blk_below (g := gb1365) (o := .cells #[.int .i64 a2_0, .slice A2_1 l2_1.length c2_1] 62 (0, 0)) (fp BK1365 rfl) hb) (blk_below (g := gb1384) (o := .cells #[.int .i64 t1379, .int .i64 t1380, .slice Ao46 t1381.length co46] 48 (0, 0)) (fp BK1384 rfl) hb) (blk_below (g := gb1389) (o := .cells #[.int .i64 t1385, .slice Ao54 t1386.length co54] 66 (0, 0)) (fp BK1389 rfl) hb) (bs HB hb) ?_; clear HO1372 HO1376 HO1383 HO1388 BK1364 BK1365 BK1384 BK1389 HB; intro HO1372 HO1376 HO1383 HO1388 BK1364 BK1365 BK1384 BK1389 HB; (try clear hb); (try clear hb2); (try clear hk); (try clear hi)))
   (try simp only [Act.put, za_, zb_, zc_])
   go_cut [51] (fun v51 wc => ∃ (kq : Nat) (x51_25 : Bool), v51 = .bool x51_25 ∧ Aside0 (laws_FnExactVerifyBoard.j0 kq x51_25 a0_0 a0_1 l0_2 a2_0 l2_1 t1379 t1380 t1381 t1385 t1386 = some r) ∧ Aside0 (kq ≤ k) ∧ Aside0 (Kd.R k78 78 wc w.heap.size (fun _ => True) (.slice Ao46 t1381.length co46) t1381) ∧ Aside0 (Kd.R (Kd.int .i64) 3 wc w.heap.size (fun _ => True) (.slice Ao54 t1386.length co54) t1386) ∧ Aside0 (wc.heap[gb1364]? = some (.cells #[.int .i64 a0_0, .int .i64 a0_1, (.slice A0_2 l0_2.length c0_2)] 44 (0, 0))) ∧ Aside0 (wc.heap[gb1365]? = some (.cells #[.int .i64 a2_0, (.slice A2_1 l2_1.length c2_1)] 62 (0, 0))) ∧ Aside0 (wc.heap[gb1384]? = some (.cells #[.int .i64 t1379, .int .i64 t1380, (.slice Ao46 t1381.length co46)] 48 (0, 0))) ∧ Aside0 (wc.heap[gb1389]? = some (.cells #[.int .i64 t1385, (.slice Ao54 t1386.length co54)] 66 (0, 0))) ∧ Aside0 (Below w.heap.size w wc))
   case first =>
    have H := HC26.out
    clear HC26
    by_cases c57 : (t1390 != t1377) = true
    ·rw [if_pos c57] at H
     have c57b0 : (t1390 != t1377) = true := c57
     (try (have c57b1 : decide (t1390 = t1377) = false := by simpa using c57))
     (try (have c57b2 : (t1390 == t1377) = false := by simpa using c57))
     (try (have c57b3 : ¬ (t1390 = t1377) := by simpa using c57))
     clear c57
     (first | rw [c57b0] | (simp only [i64_w, i32_w]; rw [c57b0]) | skip)
     have H' := Aside0.mk H
     clear H
     go_wp2
     go_meet
     case rel => exact ⟨_, (true), (by first | rfl | (simp; done) | (simp [*]; done)), H', ⟨by first | omega | exact Nat.le_refl _⟩, ⟨Kd.R_mv (Kd.R_mono (ok' := fun k_ => True) HO1383.out (fun _ hk => trivial))⟩, ⟨Kd.R_mv (Kd.R_mono (ok' := fun k_ => True) HO1388.out (fun _ hk => trivial))⟩, ⟨km_ BK1364⟩, ⟨km_ BK1365⟩, ⟨km_ BK1384⟩, ⟨km_ BK1389⟩, ⟨bm HB⟩⟩
    ·rw [if_neg c57] at H
     have c57b0 : (t1390 != t1377) = false := by simpa using c57
     (try (have c57b1 : decide (t1390 = t1377) = true := by simpa using c57))
     (try (have c57b2 : (t1390 == t1377) = true := by simpa using c57))
     clear c57
     (first | rw [c57b0] | (simp only [i64_w, i32_w]; rw [c57b0]) | skip)
     have H' := Aside0.mk H
     clear H
     go_wp2
     go_meet
     case rel => exact ⟨_, ((t1391 != t1378)), (by first | rfl | (simp; done) | (simp [*]; done)), H', ⟨by first | omega | exact Nat.le_refl _⟩, ⟨Kd.R_mv (Kd.R_mono (ok' := fun k_ => True) HO1383.out (fun _ hk => trivial))⟩, ⟨Kd.R_mv (Kd.R_mono (ok' := fun k_ => True) HO1388.out (fun _ hk => trivial))⟩, ⟨km_ BK1364⟩, ⟨km_ BK1365⟩, ⟨km_ BK1384⟩, ⟨km_ BK1389⟩, ⟨bm HB⟩⟩
   case rest =>
    clear HC26
    try clear c1
    try clear c2
    try clear p2
    try clear c3
    try clear c4
    try clear c5
    try clear c5b0
    try clear c11
    try clear c12
    try clear c12b0
    try clear c29
    try clear c30
    try clear c32
    try clear c43
    try clear c44
    try clear c45
    try clear c46
    try clear c47
    try clear c48
    try clear c50
    try clear c51
    try clear c52
    try clear hcz30_0
    try clear hcz30_1
    try clear hcz30_2
    try clear hcz32_0
    try clear hcz32_1
    try clear hcz40_0
    try clear hcz40_1
    try clear hcz40_2
    try clear hcz45_0
    try clear hcz45_1
    try clear hcz45_2
    try clear hcz47_0
    try clear hcz47_1
    try clear hcz53_0
    try clear hcz53_1
    try clear hcz55_0
    try clear hcz55_1
    try clear hcz55_2
    try clear hfz30_0
    try clear hfz30_1
    try clear hfz30_2
    try clear hfz32_0
    try clear hfz32_1
    try clear hfz40_0
    try clear hfz40_1
    try clear hfz40_2
    try clear hfz45_0
    try clear hfz45_1
    try clear hfz45_2
    try clear hfz47_0
    try clear hfz47_1
    try clear hfz53_0
    try clear hfz53_1
    try clear hfz55_0
    try clear hfz55_1
    try clear hfz55_2
    obtain ⟨kq, x51_25, rfl, HA, HJ25, HO_1385002, HO_1390001, BK1364, BK1365, BK1384, BK1389, HB⟩ := hcut
    cases kq with
    | zero => exact absurd HA.out (by simp [laws_FnExactVerifyBoard.j0])
    | succ kj25 =>
     have H := HA.out
     clear HA
     simp only [laws_FnExactVerifyBoard.j0] at H
     by_cases c58 : x51_25 = true
     ·subst c58
      have H1 : (some false) = some r := by rw [if_pos rfl] at H; exact H
      clear H
      have H := H1
      clear H1
      exact absurd (H.trans (congrArg some HRT.out)) (by simp)
     ·replace c58 := Bool.eq_false_iff.mpr c58
      subst c58
      have H1 : ((laws_toBoard.f kj25 a0_0 a0_1 l0_2).bind fun bt1392 => ((laws_eqBoard.f kj25 t1379 t1380 t1381 bt1392.1 bt1392.2.1 bt1392.2.2).bind fun t1397 => (if t1397 = true then ((laws_toTable.f kj25 a2_0 l2_1).bind fun bt1398 => ((laws_eqTable.f kj25 t1385 t1386 bt1398.1 bt1398.2).bind fun t1402 => (if t1402 = true then (some true) else (some false)))) else (some false)))) = some r := by rw [if_neg (show ¬ (false = true) by decide)] at H; exact H
      clear H
      have H := H1
      clear H1
      replace H := Option.bind_eq_some_iff.mp H
      obtain ⟨⟨t1392, t1393, t1394⟩, A590, H⟩ := H
      replace H : ((laws_eqBoard.f kj25 t1379 t1380 t1381 t1392 t1393 t1394).bind fun t1397 => (if t1397 = true then ((laws_toTable.f kj25 a2_0 l2_1).bind fun bt1398 => ((laws_eqTable.f kj25 t1385 t1386 bt1398.1 bt1398.2).bind fun t1402 => (if t1402 = true then (some true) else (some false)))) else (some false))) = some r := H
      have A59 := Aside0.mk A590
      clear A590
      replace H := Option.bind_eq_some_iff.mp H
      obtain ⟨t1397, A600, H⟩ := H
      replace H : (if t1397 = true then ((laws_toTable.f kj25 a2_0 l2_1).bind fun bt1398 => ((laws_eqTable.f kj25 t1385 t1386 bt1398.1 bt1398.2).bind fun t1402 => (if t1402 = true then (some true) else (some false)))) else (some false)) = some r := H
      have A60 := Aside0.mk A600
      clear A600
      by_cases c61 : t1397 = true
      ·subst c61
       have H1 : ((laws_toTable.f kj25 a2_0 l2_1).bind fun bt1398 => ((laws_eqTable.f kj25 t1385 t1386 bt1398.1 bt1398.2).bind fun t1402 => (if t1402 = true then (some true) else (some false)))) = some r := by rw [if_pos rfl] at H; exact H
       clear H
       have H := H1
       clear H1
       replace H := Option.bind_eq_some_iff.mp H
       obtain ⟨⟨t1398, t1399⟩, A620, H⟩ := H
       replace H : ((laws_eqTable.f kj25 t1385 t1386 t1398 t1399).bind fun t1402 => (if t1402 = true then (some true) else (some false))) = some r := H
       have A62 := Aside0.mk A620
       clear A620
       replace H := Option.bind_eq_some_iff.mp H
       obtain ⟨t1402, A630, H⟩ := H
       replace H : (if t1402 = true then (some true) else (some false)) = some r := H
       have A63 := Aside0.mk A630
       clear A630
       by_cases c64 : t1402 = true
       ·subst c64
        have H1 : (some true) = some r := by rw [if_pos rfl] at H; exact H
        clear H
        have H := H1
        clear H1
        obtain rfl := Option.some.inj H
        try go_wp2
        refine ev7 (Kd.R_drew HO_1385002.out) (Kd.R_drew HO_1390001.out) (blk_drew BK1364.out) (blk_drew BK1365.out) (blk_drew BK1384.out) (blk_drew BK1389.out) (below_drew1 HB.out) ?_
        clear HO_1385002 HO_1390001 BK1364 BK1365 BK1384 BK1389 HB
        intro HO_1385002 HO_1390001 BK1364 BK1365 BK1384 BK1389 HB
        refine start_ (n := 5) (S := fun w' => w'.cell? ⟨gb1384, 0, none⟩ = some (.int .i64 t1379) ∧ w'.cell? ⟨gb1384, 1, none⟩ = some (.int .i64 t1380) ∧ w'.cell? ⟨gb1384, 2, none⟩ = some (.slice Ao46 t1381.length co46) ∧ w'.cell? ⟨gb1364, 0, none⟩ = some (.int .i64 a0_0) ∧ w'.cell? ⟨gb1364, 1, none⟩ = some (.int .i64 a0_1) ∧ w'.cell? ⟨gb1364, 2, none⟩ = some (.slice A0_2 l0_2.length c0_2)) (ds := []) #[false, false, false, false, false] (by kernel_rfl) rfl rfl ⟨(blk_cell BK1384.out 0).trans rfl, (blk_cell BK1384.out 1).trans rfl, (blk_cell BK1384.out 2).trans rfl, (blk_cell BK1364.out 0).trans rfl, (blk_cell BK1364.out 1).trans rfl, (blk_cell BK1364.out 2).trans rfl⟩ (fun hHeld => ?_)
        generalize wc.drew = w65 at HO_1385002 HO_1390001 BK1364 BK1365 BK1384 BK1389 HB hHeld ⊢
        refine take_ (i := 0) (N := some 52) (v := ?_) (a' := ?_) #[true, false, false, false, false] rfl rfl (by kernel_rfl) (fun _ _ _ h => h) (Or.inl ⟨by rfl, ?_⟩) hHeld ?_ ?_
        rotate_left
        ·rintro w' ⟨s0, s1, s2, s3, s4, s5⟩
         go_simp
         with_reducible rfl
        rotate_left
        ·simp only [Act.put, za_, zb_, zc_, i64_w, i32_w]
         rfl
        refine take_ (i := 1) (N := some 53) (v := ?_) (a' := ?_) #[true, true, false, false, false] rfl rfl (by kernel_rfl) (fun _ _ _ h => h) (Or.inl ⟨by rfl, ?_⟩) hHeld ?_ ?_
        rotate_left
        ·rintro w' ⟨s0, s1, s2, s3, s4, s5⟩
         go_simp
         with_reducible rfl
        rotate_left
        ·simp only [Act.put, za_, zb_, zc_, i64_w, i32_w]
         rfl
        refine one_ (i := 2) (N := some 54) #[true, true, true, false, false] rfl rfl (by kernel_rfl) (by decide) (fun K hK => ?_)
        refine goes_ Try.func32 (by kernel_rfl) rfl #[.agg #[.int .i64 a0_0, .int .i64 a0_1, .slice A0_2 l0_2.length c0_2]] (by rfl) rfl rfl (by (try simp only [ma_, mb_, mc_]); first | done | rfl | (simp only [List.length_drop, List.length_take]; rfl)) ?_
        with_reducible refine (laws_toBoard.calls kj25 a0_0 a0_1 _ _ l0_2 t1392 t1393 t1394 _ ?side1 ?side2 A59.out).mono ?_
        (case side1 => exact Kd.C_mv (Kd.C_below HR0_2.out HB.out))
        (case side2 => exact HC0_2.out)
        rintro e w66 ⟨v1395, rfl, ho0, hb⟩
        refine ⟨_, rfl, ?_⟩
        refine ev8 (Kd.R_elder' (Kd.R_mv HO_1385002.out) (Kd.R_base ho0) hb) (Kd.R_below (Kd.R_mv HO_1390001.out) hb) (Kd.R_lower (Kd.R_new' ho0 (Kd.R_lt (Kd.R_mv HO_1385002.out))) (below_size (bm HB))) (kb BK1364 hb) (kb BK1365 hb) (kb BK1384 hb) (kb BK1389 hb) (bs HB hb) ?_
        clear HO_1385002 HO_1390001 BK1364 BK1365 BK1384 BK1389 HB
        intro HO_1385002 HO_1390001 HO1396 BK1364 BK1365 BK1384 BK1389 HB
        (try clear hb)
        (try clear hb2)
        (try clear hk)
        (try clear hi)
        (try clear ho0)
        obtain ⟨Ao67, co67, eo67⟩ := Kd.R_slice HO1396.out
        (first | subst eo67 | (injection eo67 with f1_ f2_ f3_; have f4_ := f1_.symm; have f5_ := f3_.symm; clear f1_ f2_ f3_; subst f4_; subst f5_))
        refine hK.out _ _ ⟨(blk_cell BK1384.out 0).trans rfl, (blk_cell BK1384.out 1).trans rfl, (blk_cell BK1384.out 2).trans rfl, (blk_cell BK1364.out 0).trans rfl, (blk_cell BK1364.out 1).trans rfl, (blk_cell BK1364.out 2).trans rfl⟩ (fun hHeld => ?_)
        clear hK K
        refine norm_ (a' := ?_) ?_ ?_
        rotate_left
        ·show Act.put _ (some 54) _ = _
         simp only [Act.put, za_, zb_, zc_, i64_w, i32_w]
         rfl
        refine one_ (i := 3) (N := some 55) #[true, true, true, true, false] rfl rfl (by kernel_rfl) (by decide) (fun K hK => ?_)
        refine goes_ Try.func34 (by kernel_rfl) rfl #[.agg #[.int .i64 t1379, .int .i64 t1380, .slice Ao46 t1381.length co46], .agg #[.int .i64 t1392, .int .i64 t1393, .slice Ao67 t1394.length co67]] (by rfl) rfl rfl (by (try simp only [ma_, mb_, mc_]); first | done | rfl | (simp only [List.length_drop, List.length_take]; rfl)) ?_
        with_reducible refine (laws_eqBoard.calls kj25 t1379 t1380 _ _ t1381 t1392 t1393 _ _ t1394 true _ ?side1 ?side2 ?side3 ?side4 A60.out).mono ?_
        (case side1 => exact Kd.C_mv (Kd.R_reads' HO_1385002.out).2.2)
        (case side2 => exact (Kd.R_reads' HO_1385002.out).2.1)
        (case side3 => exact Kd.C_mv (Kd.R_reads' HO1396.out).2.2)
        (case side4 => exact (Kd.R_reads' HO1396.out).2.1)
        rintro e w68 ⟨rfl, hb⟩
        refine ⟨_, rfl, ?_⟩
        refine ev8 (Kd.R_below (Kd.R_mv HO_1385002.out) hb) (Kd.R_below (Kd.R_mv HO_1390001.out) hb) (Kd.R_below (Kd.R_mv HO1396.out) hb) (kb BK1364 hb) (kb BK1365 hb) (kb BK1384 hb) (kb BK1389 hb) (bs HB hb) ?_
        clear HO_1385002 HO_1390001 HO1396 BK1364 BK1365 BK1384 BK1389 HB
        intro HO_1385002 HO_1390001 HO1396 BK1364 BK1365 BK1384 BK1389 HB
        (try clear hb)
        (try clear hb2)
        (try clear hk)
        (try clear hi)
        refine hK.out _ _ ⟨(blk_cell BK1384.out 0).trans rfl, (blk_cell BK1384.out 1).trans rfl, (blk_cell BK1384.out 2).trans rfl, (blk_cell BK1364.out 0).trans rfl, (blk_cell BK1364.out 1).trans rfl, (blk_cell BK1364.out 2).trans rfl⟩ (fun hHeld => ?_)
        clear hK K
        refine norm_ (a' := ?_) ?_ ?_
        rotate_left
        ·show Act.put _ (some 55) _ = _
         simp only [Act.put, za_, zb_, zc_, i64_w, i32_w]
         rfl
        refine pure_ (i := 4) (N := some 56) (v := ?_) (a' := ?_) #[true, true, true, true, true] rfl rfl (by kernel_rfl) (fun _ _ _ h => h) (Or.inl ⟨by rfl, ?_⟩) ?_ ?_
        rotate_left
        ·intro w'
         go_simp
         with_reducible rfl
        rotate_left
        ·simp only [Act.put, za_, zb_, zc_, i64_w, i32_w]
         rfl
        refine done_ (by kernel_rfl) ?_
        try go_wp2
        refine ev8 (Kd.R_drew HO_1385002.out) (Kd.R_drew HO_1390001.out) (Kd.R_drew HO1396.out) (blk_drew BK1364.out) (blk_drew BK1365.out) (blk_drew BK1384.out) (blk_drew BK1389.out) (below_drew1 HB.out) ?_
        clear HO_1385002 HO_1390001 HO1396 BK1364 BK1365 BK1384 BK1389 HB
        intro HO_1385002 HO_1390001 HO1396 BK1364 BK1365 BK1384 BK1389 HB
        refine start_ (n := 5) (S := fun w' => w'.cell? ⟨gb1389, 0, none⟩ = some (.int .i64 t1385) ∧ w'.cell? ⟨gb1389, 1, none⟩ = some (.slice Ao54 t1386.length co54) ∧ w'.cell? ⟨gb1365, 0, none⟩ = some (.int .i64 a2_0) ∧ w'.cell? ⟨gb1365, 1, none⟩ = some (.slice A2_1 l2_1.length c2_1)) (ds := []) #[false, false, false, false, false] (by kernel_rfl) rfl rfl ⟨(blk_cell BK1389.out 0).trans rfl, (blk_cell BK1389.out 1).trans rfl, (blk_cell BK1365.out 0).trans rfl, (blk_cell BK1365.out 1).trans rfl⟩ (fun hHeld => ?_)
        generalize w68.drew = w69 at HO_1385002 HO_1390001 HO1396 BK1364 BK1365 BK1384 BK1389 HB hHeld ⊢
        refine take_ (i := 0) (N := some 57) (v := ?_) (a' := ?_) #[true, false, false, false, false] rfl rfl (by kernel_rfl) (fun _ _ _ h => h) (Or.inl ⟨by rfl, ?_⟩) hHeld ?_ ?_
        rotate_left
        ·rintro w' ⟨s0, s1, s2, s3⟩
         go_simp
         with_reducible rfl
        rotate_left
        ·simp only [Act.put, za_, zb_, zc_, i64_w, i32_w]
         rfl
        refine take_ (i := 1) (N := some 58) (v := ?_) (a' := ?_) #[true, true, false, false, false] rfl rfl (by kernel_rfl) (fun _ _ _ h => h) (Or.inl ⟨by rfl, ?_⟩) hHeld ?_ ?_
        rotate_left
        ·rintro w' ⟨s0, s1, s2, s3⟩
         go_simp
         with_reducible rfl
        rotate_left
        ·simp only [Act.put, za_, zb_, zc_, i64_w, i32_w]
         rfl
        refine one_ (i := 2) (N := some 59) #[true, true, true, false, false] rfl rfl (by kernel_rfl) (by decide) (fun K hK => ?_)
        refine goes_ Try.func47 (by kernel_rfl) rfl #[.agg #[.int .i64 a2_0, .slice A2_1 l2_1.length c2_1]] (by rfl) rfl rfl (by (try simp only [ma_, mb_, mc_]); first | done | rfl | (simp only [List.length_drop, List.length_take]; rfl)) ?_
        with_reducible refine (laws_toTable.calls kj25 a2_0 _ _ l2_1 t1398 t1399 _ ?side1 ?side2 A62.out).mono ?_
        (case side1 => exact Kd.C_mv (Kd.C_below HR2_1.out HB.out))
        (case side2 => exact HC2_1.out)
        rintro e w70 ⟨v1400, rfl, ho0, hb⟩
        refine ⟨_, rfl, ?_⟩
        refine ev9 (Kd.R_below (Kd.R_mv HO_1385002.out) hb) (Kd.R_elder' (Kd.R_mv HO_1390001.out) (Kd.R_base ho0) hb) (Kd.R_below (Kd.R_mv HO1396.out) hb) (Kd.R_lower (Kd.R_new' ho0 (Kd.R_lt (Kd.R_mv HO_1390001.out))) (below_size (bm HB))) (kb BK1364 hb) (kb BK1365 hb) (kb BK1384 hb) (kb BK1389 hb) (bs HB hb) ?_
        clear HO_1385002 HO_1390001 HO1396 BK1364 BK1365 BK1384 BK1389 HB
        intro HO_1385002 HO_1390001 HO1396 HO1401 BK1364 BK1365 BK1384 BK1389 HB
        (try clear hb)
        (try clear hb2)
        (try clear hk)
        (try clear hi)
        (try clear ho0)
        obtain ⟨Ao71, co71, eo71⟩ := Kd.R_slice HO1401.out
        (first | subst eo71 | (injection eo71 with f1_ f2_ f3_; have f4_ := f1_.symm; have f5_ := f3_.symm; clear f1_ f2_ f3_; subst f4_; subst f5_))
        refine hK.out _ _ ⟨(blk_cell BK1389.out 0).trans rfl, (blk_cell BK1389.out 1).trans rfl, (blk_cell BK1365.out 0).trans rfl, (blk_cell BK1365.out 1).trans rfl⟩ (fun hHeld => ?_)
        clear hK K
        refine norm_ (a' := ?_) ?_ ?_
        rotate_left
        ·show Act.put _ (some 59) _ = _
         simp only [Act.put, za_, zb_, zc_, i64_w, i32_w]
         rfl
        refine one_ (i := 3) (N := some 60) #[true, true, true, true, false] rfl rfl (by kernel_rfl) (by decide) (fun K hK => ?_)
        refine goes_ Try.func49 (by kernel_rfl) rfl #[.agg #[.int .i64 t1385, .slice Ao54 t1386.length co54], .agg #[.int .i64 t1398, .slice Ao71 t1399.length co71]] (by rfl) rfl rfl (by (try simp only [ma_, mb_, mc_]); first | done | rfl | (simp only [List.length_drop, List.length_take]; rfl)) ?_
        with_reducible refine (laws_eqTable.calls kj25 t1385 _ _ t1386 t1398 _ _ t1399 true _ ?side1 ?side2 ?side3 ?side4 A63.out).mono ?_
        (case side1 => exact Kd.C_mv (Kd.R_reads' HO_1390001.out).2.2)
        (case side2 => exact (Kd.R_reads' HO_1390001.out).2.1)
        (case side3 => exact Kd.C_mv (Kd.R_reads' HO1401.out).2.2)
        (case side4 => exact (Kd.R_reads' HO1401.out).2.1)
        rintro e w72 ⟨rfl, hb⟩
        refine ⟨_, rfl, ?_⟩
        refine ev9 (Kd.R_below (Kd.R_mv HO_1385002.out) hb) (Kd.R_below (Kd.R_mv HO_1390001.out) hb) (Kd.R_below (Kd.R_mv HO1396.out) hb) (Kd.R_below (Kd.R_mv HO1401.out) hb) (kb BK1364 hb) (kb BK1365 hb) (kb BK1384 hb) (kb BK1389 hb) (bs HB hb) ?_
        clear HO_1385002 HO_1390001 HO1396 HO1401 BK1364 BK1365 BK1384 BK1389 HB
        intro HO_1385002 HO_1390001 HO1396 HO1401 BK1364 BK1365 BK1384 BK1389 HB
        (try clear hb)
        (try clear hb2)
        (try clear hk)
        (try clear hi)
        refine hK.out _ _ ⟨(blk_cell BK1389.out 0).trans rfl, (blk_cell BK1389.out 1).trans rfl, (blk_cell BK1365.out 0).trans rfl, (blk_cell BK1365.out 1).trans rfl⟩ (fun hHeld => ?_)
        clear hK K
        refine norm_ (a' := ?_) ?_ ?_
        rotate_left
        ·show Act.put _ (some 60) _ = _
         simp only [Act.put, za_, zb_, zc_, i64_w, i32_w]
         rfl
        refine pure_ (i := 4) (N := some 61) (v := ?_) (a' := ?_) #[true, true, true, true, true] rfl rfl (by kernel_rfl) (fun _ _ _ h => h) (Or.inl ⟨by rfl, ?_⟩) ?_ ?_
        rotate_left
        ·intro w'
         go_simp
         with_reducible rfl
        rotate_left
        ·simp only [Act.put, za_, zb_, zc_, i64_w, i32_w]
         rfl
        refine done_ (by kernel_rfl) ?_
        try go_wp2
        go_ret
        exact ⟨by first | rfl | (simp [e0_, e1_] <;> rfl) | (simp [*, e0_, e1_] <;> rfl), bm HB⟩
       ·replace c64 := Bool.eq_false_iff.mpr c64
        subst c64
        have H1 : (some false) = some r := by rw [if_neg (show ¬ (false = true) by decide)] at H; exact H
        clear H
        have H := H1
        clear H1
        exact absurd (H.trans (congrArg some HRT.out)) (by simp)
      ·replace c61 := Bool.eq_false_iff.mpr c61
       subst c61
       have H1 : (some false) = some r := by rw [if_neg (show ¬ (false = true) by decide)] at H; exact H
       clear H
       have H := H1
       clear H1
       exact absurd (H.trans (congrArg some HRT.out)) (by simp)
end Go.Proofs.Ytjogiiobaakjkaa.F
