-- Written by a program of this session (a patched print) out of the translation; Lean checks it.
import Derived.Test.YtjogiiobaakjkaaF0
import Derived.Test.YtjogiiobaakjkaaF3
import Derived.Test.YtjogiiobaakjkaaF6
import Derived.Test.YtjogiiobaakjkaaF25
namespace Go.Proofs.Ytjogiiobaakjkaa.F
open Go.RowKit Go.Proofs.YtjogiiobaakjkaaV.PrintWords Go.Proofs.YtjogiiobaakjkaaV.PrintLast Go.Proofs.YtjogiiobaakjkaaV.PrintMore
attribute [local go_sem] max2_int min2_int max_two min_two max_three min_three max_four min_four
attribute [local go_sem] Try.underlying30 Try.underlying35 Try.underlying44 Try.underlying48 Try.underlying62 Try.underlying66 Try.underlying78 Try.underlying90 Try.underlying112
set_option linter.unusedVariables false
set_option linter.unusedSimpArgs false

/-! ### spec_paMirror: function 69 -/
def spec_paMirror.f (a0_0 : Int) (a0_1 : Int) : Option (Int × Int) := if a0_0 = 1 then (some (2, 0)) else (if a0_0 = 2 then (some (1, 0)) else (if a0_0 = 3 then ((spec_paTurn.f a0_0 a0_1).bind fun bt329 => (some (bt329.1, bt329.2))) else (if a0_0 = 6 then ((spec_paTurn.f a0_0 a0_1).bind fun bt331 => (some (bt331.1, bt331.2))) else (some (a0_0, a0_1)))))
set_option maxHeartbeats 8000000 in
set_option maxRecDepth 100000 in
theorem spec_paMirror.calls (a0_0 : Int) (a0_1 : Int) (r1 : Int) (r2 : Int) (w : World) (h : spec_paMirror.f a0_0 a0_1 = some (r1, r2)) :
  Calls Try.prog 69 #[.agg #[.int .i64 a0_0, .int .i64 a0_1]] w fun e w' => e = .returned (.agg #[.int .i64 r1, .int .i64 r2]) ∧ Below w.heap.size w w' := by
 have HB := Aside0.mk (Below.refl w.heap.size w)
 have H : (if a0_0 = 1 then (some (2, 0)) else (if a0_0 = 2 then (some (1, 0)) else (if a0_0 = 3 then ((spec_paTurn.f a0_0 a0_1).bind fun bt329 => (some (bt329.1, bt329.2))) else (if a0_0 = 6 then ((spec_paTurn.f a0_0 a0_1).bind fun bt331 => (some (bt331.1, bt331.2))) else (some (a0_0, a0_1)))))) = some (r1, r2) := h
 clear h
 by_cases c2 : a0_0 = 1
 ·rw [if_pos c2] at H
  have c2b0 : (a0_0 == 1) = true := beq_iff_eq.mpr c2
  have c2b1 : (a0_0 != 1) = false := bne_eq_false_iff_eq.mpr c2
  clear c2
  simp only [Option.some.injEq, Prod.mk.injEq] at H
  obtain ⟨rfl, rfl⟩ := H
  go_enter Try.func69, Try.ntmps69
  go_wp2_with (first | ((with_reducible refine gate_dst (N := 1) rfl ?_); refine box_event ?hg (N := 1) ?hd (cs := #[.int .i64 a0_0, .int .i64 a0_1]) (t := 78) ?hr ?_; (case hd => rfl); (case hg => rfl); (case hr => first | (go_simp; done) | (go_simp; rfl)); intro gb327 hg w3 hbox hb; refine ev4 (bs HB hb) (hbox) (gle hg HB) (gle hg HB) ?_; clear HB; intro HB BK327 GW327 GE327; clear hb hbox hg) | ((with_reducible refine gate_dst (N := 2) rfl ?_); refine box_event ?hg (N := 2) ?hd (cs := #[.int .i64 0, .int .i64 0]) (t := 78) ?hr ?_; (case hd => rfl); (case hg => rfl); (case hr => first | (go_simp; done) | (go_simp; rfl)); intro gb328 hg w4 hbox hb; refine ev7 (kb BK327 hb) (bs HB hb) (hbox) (gle hg HB) (gle hg HB) (gnf hg BK327) (gne hg BK327) ?_; clear BK327 HB; intro BK327 HB BK328 GW328 GE328 NB327_328 NB328_327; clear hb hbox hg; have hnb5 := NB327_328.out; have hnc5 := NB328_327.out; obtain ⟨hcz6_0, hcz6_1, hfz6_0, hfz6_1⟩ := bt2 BK327; obtain ⟨hcz7_0, hcz7_1, hfz7_0, hfz7_1⟩ := bt2 BK328))
  refine bodyPost_ret (results_cell_row rfl _ _ gb328 78 #[.int .i64 2, .int .i64 0] (0, 0) _ rfl (fp BK328 rfl) Try.underlying78 rfl (by kernel_rfl)) rfl ?_
  exact ⟨by first | rfl | (simp [e0_, e1_] <;> rfl) | (simp [*, e0_, e1_] <;> rfl), bm HB⟩
 ·rw [if_neg c2] at H
  have c2b0 : (a0_0 == 1) = false := beq_eq_false_iff_ne.mpr c2
  have c2b1 : (a0_0 != 1) = true := bne_iff_ne.mpr c2
  by_cases c8 : a0_0 = 2
  ·rw [if_pos c8] at H
   have c8b0 : (a0_0 == 2) = true := beq_iff_eq.mpr c8
   have c8b1 : (a0_0 != 2) = false := bne_eq_false_iff_eq.mpr c8
   clear c8
   simp only [Option.some.injEq, Prod.mk.injEq] at H
   obtain ⟨rfl, rfl⟩ := H
   go_enter Try.func69, Try.ntmps69
   go_wp2_with (first | ((with_reducible refine gate_dst (N := 1) rfl ?_); refine box_event ?hg (N := 1) ?hd (cs := #[.int .i64 a0_0, .int .i64 a0_1]) (t := 78) ?hr ?_; (case hd => rfl); (case hg => rfl); (case hr => first | (go_simp; done) | (go_simp; rfl)); intro gb327 hg w9 hbox hb; refine ev4 (bs HB hb) (hbox) (gle hg HB) (gle hg HB) ?_; clear HB; intro HB BK327 GW327 GE327; clear hb hbox hg) | ((with_reducible refine gate_dst (N := 2) rfl ?_); refine box_event ?hg (N := 2) ?hd (cs := #[.int .i64 0, .int .i64 0]) (t := 78) ?hr ?_; (case hd => rfl); (case hg => rfl); (case hr => first | (go_simp; done) | (go_simp; rfl)); intro gb328 hg w10 hbox hb; refine ev7 (kb BK327 hb) (bs HB hb) (hbox) (gle hg HB) (gle hg HB) (gnf hg BK327) (gne hg BK327) ?_; clear BK327 HB; intro BK327 HB BK328 GW328 GE328 NB327_328 NB328_327; clear hb hbox hg; have hnb11 := NB327_328.out; have hnc11 := NB328_327.out; obtain ⟨hcz12_0, hcz12_1, hfz12_0, hfz12_1⟩ := bt2 BK327; obtain ⟨hcz13_0, hcz13_1, hfz13_0, hfz13_1⟩ := bt2 BK328))
   refine bodyPost_ret (results_cell_row rfl _ _ gb328 78 #[.int .i64 1, .int .i64 0] (0, 0) _ rfl (fp BK328 rfl) Try.underlying78 rfl (by kernel_rfl)) rfl ?_
   exact ⟨by first | rfl | (simp [e0_, e1_] <;> rfl) | (simp [*, e0_, e1_] <;> rfl), bm HB⟩
  ·rw [if_neg c8] at H
   have c8b0 : (a0_0 == 2) = false := beq_eq_false_iff_ne.mpr c8
   have c8b1 : (a0_0 != 2) = true := bne_iff_ne.mpr c8
   by_cases c14 : a0_0 = 3
   ·rw [if_pos c14] at H
    have c14b0 : (a0_0 == 3) = true := beq_iff_eq.mpr c14
    have c14b1 : (a0_0 != 3) = false := bne_eq_false_iff_eq.mpr c14
    clear c14
    replace H := Option.bind_eq_some_iff.mp H
    obtain ⟨⟨t329, t330⟩, A150, H⟩ := H
    replace H : (some (t329, t330)) = some (r1, r2) := H
    have A15 := Aside0.mk A150
    clear A150
    simp only [Option.some.injEq, Prod.mk.injEq] at H
    obtain ⟨rfl, rfl⟩ := H
    go_enter Try.func69, Try.ntmps69
    go_wp2_with (first | ((with_reducible refine gate_dst (N := 1) rfl ?_); refine box_event ?hg (N := 1) ?hd (cs := #[.int .i64 a0_0, .int .i64 a0_1]) (t := 78) ?hr ?_; (case hd => rfl); (case hg => rfl); (case hr => first | (go_simp; done) | (go_simp; rfl)); intro gb327 hg w16 hbox hb; refine ev4 (bs HB hb) (hbox) (gle hg HB) (gle hg HB) ?_; clear HB; intro HB BK327 GW327 GE327; clear hb hbox hg) | ((with_reducible refine gate_dst (N := 2) rfl ?_); refine box_event ?hg (N := 2) ?hd (cs := #[.int .i64 0, .int .i64 0]) (t := 78) ?hr ?_; (case hd => rfl); (case hg => rfl); (case hr => first | (go_simp; done) | (go_simp; rfl)); intro gb328 hg w17 hbox hb; refine ev7 (kb BK327 hb) (bs HB hb) (hbox) (gle hg HB) (gle hg HB) (gnf hg BK327) (gne hg BK327) ?_; clear BK327 HB; intro BK327 HB BK328 GW328 GE328 NB327_328 NB328_327; clear hb hbox hg; have hnb18 := NB327_328.out; have hnc18 := NB328_327.out; obtain ⟨hcz19_0, hcz19_1, hfz19_0, hfz19_1⟩ := bt2 BK327) | ((with_reducible refine gate_callee (f := 111) rfl ?_); refine goesL_ (some 15) rfl rfl Try.func111 (by kernel_rfl) rfl #[.agg #[.int .i64 a0_0, .int .i64 a0_1]] rfl (by (try simp only [ma_, mb_, mc_]); first | done | rfl | (simp only [List.length_drop, List.length_take]; rfl)) ?_; (with_reducible refine (spec_paTurn.calls a0_0 a0_1 t329 t330 _ A15.out).mono ?_); rintro e w20 ⟨rfl, hb⟩; refine ⟨_, rfl, ?_⟩; refine ev3 (kb BK327 hb) (kb BK328 hb) (bs HB hb) ?_; clear BK327 BK328 HB; intro BK327 BK328 HB; (try clear hb); (try clear hb2); (try clear hk); (try clear hi); obtain ⟨hcz21_0, hcz21_1, hfz21_0, hfz21_1⟩ := bt2 BK328))
    refine bodyPost_ret (results_cell_row rfl _ _ gb328 78 #[.int .i64 t329, .int .i64 t330] (0, 0) _ rfl (fp BK328 rfl) Try.underlying78 rfl (by kernel_rfl)) rfl ?_
    exact ⟨by first | rfl | (simp [e0_, e1_] <;> rfl) | (simp [*, e0_, e1_] <;> rfl), bm HB⟩
   ·rw [if_neg c14] at H
    have c14b0 : (a0_0 == 3) = false := beq_eq_false_iff_ne.mpr c14
    have c14b1 : (a0_0 != 3) = true := bne_iff_ne.mpr c14
    by_cases c22 : a0_0 = 6
    ·rw [if_pos c22] at H
     have c22b0 : (a0_0 == 6) = true := beq_iff_eq.mpr c22
     have c22b1 : (a0_0 != 6) = false := bne_eq_false_iff_eq.mpr c22
     clear c22
     replace H := Option.bind_eq_some_iff.mp H
     obtain ⟨⟨t331, t332⟩, A230, H⟩ := H
     replace H : (some (t331, t332)) = some (r1, r2) := H
     have A23 := Aside0.mk A230
     clear A230
     simp only [Option.some.injEq, Prod.mk.injEq] at H
     obtain ⟨rfl, rfl⟩ := H
     go_enter Try.func69, Try.ntmps69
     go_wp2_with (first | ((with_reducible refine gate_dst (N := 1) rfl ?_); refine box_event ?hg (N := 1) ?hd (cs := #[.int .i64 a0_0, .int .i64 a0_1]) (t := 78) ?hr ?_; (case hd => rfl); (case hg => rfl); (case hr => first | (go_simp; done) | (go_simp; rfl)); intro gb327 hg w24 hbox hb; refine ev4 (bs HB hb) (hbox) (gle hg HB) (gle hg HB) ?_; clear HB; intro HB BK327 GW327 GE327; clear hb hbox hg) | ((with_reducible refine gate_dst (N := 2) rfl ?_); refine box_event ?hg (N := 2) ?hd (cs := #[.int .i64 0, .int .i64 0]) (t := 78) ?hr ?_; (case hd => rfl); (case hg => rfl); (case hr => first | (go_simp; done) | (go_simp; rfl)); intro gb328 hg w25 hbox hb; refine ev7 (kb BK327 hb) (bs HB hb) (hbox) (gle hg HB) (gle hg HB) (gnf hg BK327) (gne hg BK327) ?_; clear BK327 HB; intro BK327 HB BK328 GW328 GE328 NB327_328 NB328_327; clear hb hbox hg; have hnb26 := NB327_328.out; have hnc26 := NB328_327.out; obtain ⟨hcz27_0, hcz27_1, hfz27_0, hfz27_1⟩ := bt2 BK327) | ((with_reducible refine gate_callee (f := 111) rfl ?_); refine goesL_ (some 15) rfl rfl Try.func111 (by kernel_rfl) rfl #[.agg #[.int .i64 a0_0, .int .i64 a0_1]] rfl (by (try simp only [ma_, mb_, mc_]); first | done | rfl | (simp only [List.length_drop, List.length_take]; rfl)) ?_; (with_reducible refine (spec_paTurn.calls a0_0 a0_1 t331 t332 _ A23.out).mono ?_); rintro e w28 ⟨rfl, hb⟩; refine ⟨_, rfl, ?_⟩; refine ev3 (kb BK327 hb) (kb BK328 hb) (bs HB hb) ?_; clear BK327 BK328 HB; intro BK327 BK328 HB; (try clear hb); (try clear hb2); (try clear hk); (try clear hi); obtain ⟨hcz29_0, hcz29_1, hfz29_0, hfz29_1⟩ := bt2 BK328))
     refine bodyPost_ret (results_cell_row rfl _ _ gb328 78 #[.int .i64 t331, .int .i64 t332] (0, 0) _ rfl (fp BK328 rfl) Try.underlying78 rfl (by kernel_rfl)) rfl ?_
     exact ⟨by first | rfl | (simp [e0_, e1_] <;> rfl) | (simp [*, e0_, e1_] <;> rfl), bm HB⟩
    ·rw [if_neg c22] at H
     have c22b0 : (a0_0 == 6) = false := beq_eq_false_iff_ne.mpr c22
     have c22b1 : (a0_0 != 6) = true := bne_iff_ne.mpr c22
     simp only [Option.some.injEq, Prod.mk.injEq] at H
     obtain ⟨rfl, rfl⟩ := H
     go_enter Try.func69, Try.ntmps69
     go_wp2_with (first | ((with_reducible refine gate_dst (N := 1) rfl ?_); refine box_event ?hg (N := 1) ?hd (cs := #[.int .i64 a0_0, .int .i64 a0_1]) (t := 78) ?hr ?_; (case hd => rfl); (case hg => rfl); (case hr => first | (go_simp; done) | (go_simp; rfl)); intro gb327 hg w30 hbox hb; refine ev4 (bs HB hb) (hbox) (gle hg HB) (gle hg HB) ?_; clear HB; intro HB BK327 GW327 GE327; clear hb hbox hg) | ((with_reducible refine gate_dst (N := 2) rfl ?_); refine box_event ?hg (N := 2) ?hd (cs := #[.int .i64 0, .int .i64 0]) (t := 78) ?hr ?_; (case hd => rfl); (case hg => rfl); (case hr => first | (go_simp; done) | (go_simp; rfl)); intro gb328 hg w31 hbox hb; refine ev7 (kb BK327 hb) (bs HB hb) (hbox) (gle hg HB) (gle hg HB) (gnf hg BK327) (gne hg BK327) ?_; clear BK327 HB; intro BK327 HB BK328 GW328 GE328 NB327_328 NB328_327; clear hb hbox hg; have hnb32 := NB327_328.out; have hnc32 := NB328_327.out; obtain ⟨hcz33_0, hcz33_1, hfz33_0, hfz33_1⟩ := bt2 BK327; obtain ⟨hcz34_0, hcz34_1, hfz34_0, hfz34_1⟩ := bt2 BK328))
     refine bodyPost_ret (results_cell_row rfl _ _ gb328 78 #[.int .i64 a0_0, .int .i64 a0_1] (0, 0) _ rfl (fp BK328 rfl) Try.underlying78 rfl (by kernel_rfl)) rfl ?_
     exact ⟨by first | rfl | (simp [e0_, e1_] <;> rfl) | (simp [*, e0_, e1_] <;> rfl), bm HB⟩

/-! ### spec_MirrorChallenge: function 26 -/
mutual
def spec_MirrorChallenge.l0 : Nat → List (S78) → Int → Int → Int → Int → List (S78) → List Int → List Int → Int → Int → List (S78) → Option (Int × Int × (List (S78)) × List Int × List Int × Bool)
 | 0, _, _, _, _, _, _, _, _, _, _, _ => none
 | k + 1, x21, x22, x23, x334000, x334001, x334002, x334003, x334004, x337000, x337001, x337002 => if x23 < x22 then (if 0 ≤ x23 then (if x23 < (x21.length : Int) then ((spec_paMirror.f ((rd_T78 x21 x23).f0) ((rd_T78 x21 x23).f1)).bind fun bt339 => (if x337002.length < 8796093022208 then (spec_MirrorChallenge.l0 k x21 x22 (wrap64 (x23 + 1)) x334000 x334001 x334002 x334003 x334004 x337000 x337001 (x337002 ++ [(⟨bt339.1, bt339.2⟩ : S78)])) else (none))) else (none)) else (none)) else (spec_MirrorChallenge.l1 k x334003 (x334003.length : Int) 0 x334000 x334001 x334002 x334003 x334004 x337000 x337001 x337002 ([] : List Int))
def spec_MirrorChallenge.l1 : Nat → List Int → Int → Int → Int → Int → List (S78) → List Int → List Int → Int → Int → List (S78) → List Int → Option (Int × Int × (List (S78)) × List Int × List Int × Bool)
 | 0, _, _, _, _, _, _, _, _, _, _, _, _ => none
 | k + 1, x36, x37, x38, x334000, x334001, x334002, x334003, x334004, x337000, x337001, x337002, x337003 => if x38 < x37 then (if 0 ≤ x38 then (if x38 < (x36.length : Int) then (if x337003.length < 17592186044416 then (spec_MirrorChallenge.l1 k x36 x37 (wrap64 (x38 + 1)) x334000 x334001 x334002 x334003 x334004 x337000 x337001 x337002 (x337003 ++ [wrap64 ((wrap64 (x334001 - 1)) - (rd x36 x38))])) else (none)) else (none)) else (none)) else (spec_MirrorChallenge.l2 k x334004 (x334004.length : Int) 0 x334000 x334001 x334002 x334003 x334004 x337000 x337001 x337002 x337003 ([] : List Int))
def spec_MirrorChallenge.l2 : Nat → List Int → Int → Int → Int → Int → List (S78) → List Int → List Int → Int → Int → List (S78) → List Int → List Int → Option (Int × Int × (List (S78)) × List Int × List Int × Bool)
 | 0, _, _, _, _, _, _, _, _, _, _, _, _, _ => none
 | k + 1, x54, x55, x56, x334000, x334001, x334002, x334003, x334004, x337000, x337001, x337002, x337003, x337004 => if x56 < x55 then (if 0 ≤ x56 then (if x56 < (x54.length : Int) then (if (rd x54 x56) < x334001 then (if x337004.length < 17592186044416 then (spec_MirrorChallenge.l2 k x54 x55 (wrap64 (x56 + 1)) x334000 x334001 x334002 x334003 x334004 x337000 x337001 x337002 x337003 (x337004 ++ [wrap64 ((wrap64 (x334001 - 1)) - (rd x54 x56))])) else (none)) else (if x337004.length < 17592186044416 then (spec_MirrorChallenge.l2 k x54 x55 (wrap64 (x56 + 1)) x334000 x334001 x334002 x334003 x334004 x337000 x337001 x337002 x337003 (x337004 ++ [rd x54 x56])) else (none))) else (none)) else (none)) else (some (x337000, x337001, x337002, x337003, x337004, true))
end
def spec_MirrorChallenge.f (k : Nat) (a0_0 : Int) (a0_1 : Int) (l0_2 : List (S78)) (l0_3 : List Int) (l0_4 : List Int) : Option (Int × Int × (List (S78)) × List Int × List Int × Bool) := (spec_chGood.f k a0_0 a0_1 l0_2 l0_3 l0_4).bind fun t335 => (if t335 = true then (spec_MirrorChallenge.l0 k l0_2 (l0_2.length : Int) 0 a0_0 a0_1 l0_2 l0_3 l0_4 a0_0 a0_1 ([] : List (S78))) else (some (0, 0, ([] : List (S78)), ([] : List Int), ([] : List Int), false)))
def spec_MirrorChallenge.T7 : Bool × List (List Nat × List Nat) := (true, [([], []), ([0], [0]), ([], []), ([2], [2]), ([3], [3]), ([1, 4, 3], [1, 4]), ([0, 1, 2, 3, 4, 5], []), ([6, 5, 5, 0, 1, 2, 3, 4, 5], [5, 6])])
def spec_MirrorChallenge.B7 : List Nat := [0, 1, 0, 4, 12, 31, 63, 127]
theorem spec_MirrorChallenge.tab7 : rtab .any (opsOf Try.f26 7) = spec_MirrorChallenge.T7 := by kernel_rfl
theorem spec_MirrorChallenge.bits7 : waitsOk spec_MirrorChallenge.T7.2 spec_MirrorChallenge.B7 = true := by kernel_rfl
set_option maxHeartbeats 8000000 in
set_option maxRecDepth 100000 in
theorem spec_MirrorChallenge.calls (k : Nat) (a0_0 : Int) (a0_1 : Int) (A0_2 : Option Addr) (c0_2 : Nat) (l0_2 : List (S78)) (A0_3 : Option Addr) (c0_3 : Nat) (l0_3 : List Int) (A0_4 : Option Addr) (c0_4 : Nat) (l0_4 : List Int) (r1 : Int) (r2 : Int) (r3 : List (S78)) (r4 : List Int) (r5 : List Int) (r6 : Bool) (w : World) (hr0_2 : Kd.C k78 w A0_2 l0_2.length l0_2) (hc0_2 : l0_2.length ≤ c0_2) (hr0_3 : Kd.C (Kd.int .i64) w A0_3 l0_3.length l0_3) (hc0_3 : l0_3.length ≤ c0_3) (hr0_4 : Kd.C (Kd.int .i64) w A0_4 l0_4.length l0_4) (hc0_4 : l0_4.length ≤ c0_4) (h : spec_MirrorChallenge.f k a0_0 a0_1 l0_2 l0_3 l0_4 = some (r1, r2, r3, r4, r5, r6)) :
  Calls Try.prog 26 #[.agg #[.int .i64 a0_0, .int .i64 a0_1, .slice A0_2 l0_2.length c0_2, .slice A0_3 l0_3.length c0_3, .slice A0_4 l0_4.length c0_4]] w fun e w' => ∃ v2_ v3_ v4_ : Value, e = .returned (.tuple #[.agg #[.int .i64 r1, .int .i64 r2, v2_, v3_, v4_], .bool r6]) ∧ Kd.R k78 78 w' w.heap.size (fun _ => True) v2_ r3 ∧ Kd.R (Kd.int .i64) 3 w' w.heap.size (fun k_ => some k_ ≠ (v4_ : Value).ownBlock) v3_ r4 ∧ Kd.R (Kd.int .i64) 3 w' w.heap.size (fun k_ => some k_ ≠ (v3_ : Value).ownBlock) v4_ r5 ∧ Below w.heap.size w w' := by
 have HR0_2 := Aside0.mk hr0_2
 have HC0_2 := Aside0.mk hc0_2
 clear hr0_2 hc0_2
 have HR0_3 := Aside0.mk hr0_3
 have HC0_3 := Aside0.mk hc0_3
 clear hr0_3 hc0_3
 have HR0_4 := Aside0.mk hr0_4
 have HC0_4 := Aside0.mk hc0_4
 clear hr0_4 hc0_4
 have HB := Aside0.mk (Below.refl w.heap.size w)
 have H : ((spec_chGood.f k a0_0 a0_1 l0_2 l0_3 l0_4).bind fun t335 => (if t335 = true then (spec_MirrorChallenge.l0 k l0_2 (l0_2.length : Int) 0 a0_0 a0_1 l0_2 l0_3 l0_4 a0_0 a0_1 ([] : List (S78))) else (some (0, 0, ([] : List (S78)), ([] : List Int), ([] : List Int), false)))) = some (r1, r2, r3, r4, r5, r6) := h
 clear h
 replace H := Option.bind_eq_some_iff.mp H
 obtain ⟨t335, A20, H⟩ := H
 replace H : (if t335 = true then (spec_MirrorChallenge.l0 k l0_2 (l0_2.length : Int) 0 a0_0 a0_1 l0_2 l0_3 l0_4 a0_0 a0_1 ([] : List (S78))) else (some (0, 0, ([] : List (S78)), ([] : List Int), ([] : List Int), false))) = some (r1, r2, r3, r4, r5, r6) := H
 have A2 := Aside0.mk A20
 clear A20
 by_cases c3 : t335 = true
 ·subst c3
  have H1 : (spec_MirrorChallenge.l0 k l0_2 (l0_2.length : Int) 0 a0_0 a0_1 l0_2 l0_3 l0_4 a0_0 a0_1 ([] : List (S78))) = some (r1, r2, r3, r4, r5, r6) := by rw [if_pos rfl] at H; exact H
  clear H
  have H := H1
  clear H1
  have H' := Aside0.mk H
  clear H
  go_enter Try.func26, Try.ntmps26
  go_wp2_with (first | ((with_reducible refine gate_dst (N := 1) rfl ?_); refine box_event ?hg (N := 1) ?hd (cs := #[.int .i64 a0_0, .int .i64 a0_1, .slice A0_2 l0_2.length c0_2, .slice A0_3 l0_3.length c0_3, .slice A0_4 l0_4.length c0_4]) (t := 35) ?hr ?_; (case hd => rfl); (case hg => rfl); (case hr => first | (go_simp; done) | (go_simp; rfl)); intro gb333 hg w4 hbox hb; refine ev4 (bs HB hb) (hbox) (gle hg HB) (gle hg HB) ?_; clear HB; intro HB BK333 GW333 GE333; clear hb hbox hg) | ((with_reducible refine gate_dst (N := 2) rfl ?_); refine box_event ?hg (N := 2) ?hd (cs := #[.int .i64 0, .int .i64 0, .slice none 0 0, .slice none 0 0, .slice none 0 0]) (t := 35) ?hr ?_; (case hd => rfl); (case hg => rfl); (case hr => first | (go_simp; done) | (go_simp; rfl)); intro gb334 hg w5 hbox hb; refine ev7 (kb BK333 hb) (bs HB hb) (hbox) (gle hg HB) (gle hg HB) (gnf hg BK333) (gne hg BK333) ?_; clear BK333 HB; intro BK333 HB BK334 GW334 GE334 NB333_334 NB334_333; clear hb hbox hg; have hnb6 := NB333_334.out; have hnc6 := NB334_333.out; obtain ⟨hcz7_0, hcz7_1, hcz7_2, hcz7_3, hcz7_4, hfz7_0, hfz7_1, hfz7_2, hfz7_3, hfz7_4⟩ := bt5 BK333) | ((with_reducible refine gate_callee (f := 68) rfl ?_); refine goesL_ (some 12) rfl rfl Try.func68 (by kernel_rfl) rfl #[.agg #[.int .i64 a0_0, .int .i64 a0_1, .slice A0_2 l0_2.length c0_2, .slice A0_3 l0_3.length c0_3, .slice A0_4 l0_4.length c0_4]] rfl (by (try simp only [ma_, mb_, mc_]); first | done | rfl | (simp only [List.length_drop, List.length_take]; rfl)) ?_; (with_reducible refine (spec_chGood.calls k a0_0 a0_1 _ _ l0_2 _ _ l0_3 _ _ l0_4 true _ (Kd.C_mv (Kd.C_below HR0_2.out HB.out)) HC0_2.out (Kd.C_mv (Kd.C_below HR0_3.out HB.out)) HC0_3.out (Kd.C_mv (Kd.C_below HR0_4.out HB.out)) HC0_4.out A2.out).mono ?_); rintro e w8 ⟨rfl, hb⟩; refine ⟨_, rfl, ?_⟩; refine ev3 (kb BK333 hb) (kb BK334 hb) (bs HB hb) ?_; clear BK333 BK334 HB; intro BK333 BK334 HB; (try clear hb); (try clear hb2); (try clear hk); (try clear hi); obtain ⟨hcz9_0, hcz9_1, hcz9_2, hcz9_3, hcz9_4, hfz9_0, hfz9_1, hfz9_2, hfz9_3, hfz9_4⟩ := bt5 BK333) | ((with_reducible refine gate_dst (N := 4) rfl ?_); refine box_event ?hg (N := 4) ?hd (cs := #[.int .i64 0, .int .i64 0, .slice none 0 0, .slice none 0 0, .slice none 0 0]) (t := 35) ?hr ?_; (case hd => rfl); (case hg => rfl); (case hr => first | (go_simp; done) | (go_simp; rfl)); intro gb336 hg w10 hbox hb; refine ev10 (kb BK333 hb) (kb BK334 hb) (bs HB hb) (hbox) (gle hg HB) (gle hg HB) (gnf hg BK333) (gne hg BK333) (gnf hg BK334) (gne hg BK334) ?_; clear BK333 BK334 HB; intro BK333 BK334 HB BK336 GW336 GE336 NB333_336 NB336_333 NB334_336 NB336_334; clear hb hbox hg; have hnb11 := NB336_333.out; have hnc11 := NB333_336.out; have hnb12 := NB336_334.out; have hnc12 := NB334_336.out; obtain ⟨hcz13_0, hcz13_1, hcz13_2, hcz13_3, hcz13_4, hfz13_0, hfz13_1, hfz13_2, hfz13_3, hfz13_4⟩ := bt5 BK336; obtain ⟨hcz14_0, hcz14_1, hcz14_2, hcz14_3, hcz14_4, hfz14_0, hfz14_1, hfz14_2, hfz14_3, hfz14_4⟩ := bt5 BK333))
  go_loopg [23] k (fun kq v23 w' => ∃ (x23_1 : Int) (x337002_1 : List (S78)) (u337002 : Value), v23 = .int .i64 x23_1 ∧ Aside0 (spec_MirrorChallenge.l0 kq l0_2 (l0_2.length : Int) x23_1 a0_0 a0_1 l0_2 l0_3 l0_4 a0_0 a0_1 x337002_1 = some (r1, r2, r3, r4, r5, r6)) ∧ Aside0 (kq ≤ k) ∧ Aside0 (Kd.R k78 78 w' w.heap.size (fun _ => True) u337002 x337002_1) ∧ Aside0 (w'.heap[gb333]? = some (.cells #[.int .i64 a0_0, .int .i64 a0_1, (.slice A0_2 l0_2.length c0_2), (.slice A0_3 l0_3.length c0_3), (.slice A0_4 l0_4.length c0_4)] 35 (0, 0))) ∧ Aside0 (w'.heap[gb334]? = some (.cells #[.int .i64 0, .int .i64 0, (.slice none 0 0), (.slice none 0 0), (.slice none 0 0)] 35 (0, 0))) ∧ Aside0 (w'.heap[gb336]? = some (.cells #[.int .i64 a0_0, .int .i64 a0_1, u337002, (.slice none 0 0), (.slice none 0 0)] 35 (0, 0))) ∧ Aside0 (Below w.heap.size w w'))
  case atStart => exact ⟨(0), (([] : List (S78))), (.slice none 0 0), (by first | rfl | (simp; done) | (simp [*]; done)), H', ⟨Nat.le_refl _⟩, ⟨by first | exact Kd.R_nil _ _ _ _ _ | exact Kd.N_nil _ _ _ _ _ | exact Kd.V_nil _ _ _ _ _ | exact Kd.Q_nil _ _ _ _ _ | exact Kd.S_nil _ _ _ _ _⟩, ⟨fp BK333 rfl⟩, ⟨fp BK334 rfl⟩, ⟨fp BK336 rfl⟩, ⟨bm HB⟩⟩
  case round =>
   clear H'
   try clear c1
   try clear c2
   try clear p2
   try clear c3
   try clear c6
   try clear c11
   try clear c12
   try clear hcz13_0
   try clear hcz13_1
   try clear hcz13_2
   try clear hcz13_3
   try clear hcz13_4
   try clear hcz14_0
   try clear hcz14_1
   try clear hcz14_2
   try clear hcz14_3
   try clear hcz14_4
   try clear hcz7_0
   try clear hcz7_1
   try clear hcz7_2
   try clear hcz7_3
   try clear hcz7_4
   try clear hcz9_0
   try clear hcz9_1
   try clear hcz9_2
   try clear hcz9_3
   try clear hcz9_4
   try clear hfz13_0
   try clear hfz13_1
   try clear hfz13_2
   try clear hfz13_3
   try clear hfz13_4
   try clear hfz14_0
   try clear hfz14_1
   try clear hfz14_2
   try clear hfz14_3
   try clear hfz14_4
   try clear hfz7_0
   try clear hfz7_1
   try clear hfz7_2
   try clear hfz7_3
   try clear hfz7_4
   try clear hfz9_0
   try clear hfz9_1
   try clear hfz9_2
   try clear hfz9_3
   try clear hfz9_4
   obtain ⟨x23_1, x337002_1, u337002, rfl, HA, HK1, HO_337002, BK333, BK334, BK336, HB⟩ := hrel
   cases gk with
   | zero => exact absurd HA.out (by simp [spec_MirrorChallenge.l0])
   | succ k1 =>
    have H := HA.out
    clear HA
    simp only [spec_MirrorChallenge.l0] at H
    by_cases c15 : x23_1 < (l0_2.length : Int)
    ·rw [if_pos c15] at H
     have c15b0 : decide (x23_1 < (l0_2.length : Int)) = true := decide_eq_true c15
     clear c15
     by_cases c16 : 0 ≤ x23_1
     ·rw [if_pos c16] at H
      have c16b0 : decide (0 ≤ x23_1) = true := decide_eq_true c16
      clear c16
      by_cases c17 : x23_1 < (l0_2.length : Int)
      ·rw [if_pos c17] at H
       have c17b0 : decide (x23_1 < (l0_2.length : Int)) = true := decide_eq_true c17
       clear c17
       replace H := Option.bind_eq_some_iff.mp H
       obtain ⟨⟨t339, t340⟩, A180, H⟩ := H
       replace H : (if x337002_1.length < 8796093022208 then (spec_MirrorChallenge.l0 k1 l0_2 (l0_2.length : Int) (wrap64 (x23_1 + 1)) a0_0 a0_1 l0_2 l0_3 l0_4 a0_0 a0_1 (x337002_1 ++ [(⟨t339, t340⟩ : S78)])) else (none)) = some (r1, r2, r3, r4, r5, r6) := H
       have A18 := Aside0.mk A180
       clear A180
       by_cases c19 : x337002_1.length < 8796093022208
       ·rw [if_pos c19] at H
        have LMc19 := Aside0.mk c19
        clear c19
        obtain ⟨y341, hy341⟩ : ∃ y_ : List (S78), y_ = (x337002_1 ++ [(⟨t339, t340⟩ : S78)]) := ⟨_, rfl⟩
        replace H : (spec_MirrorChallenge.l0 k1 l0_2 (l0_2.length : Int) (wrap64 (x23_1 + 1)) a0_0 a0_1 l0_2 l0_3 l0_4 a0_0 a0_1 y341) = some (r1, r2, r3, r4, r5, r6) := by first | (rw [hy341]; with_reducible exact H) | (have H2_ := (Option.bind_some _ _).symm.trans H; rw [hy341]; with_reducible exact H2_) | (have H2_ := (Option.bind_some _ _).symm.trans H; with_reducible exact H2_) | with_reducible exact H | (rw [hy341]; exact H) | exact H
        have Ny341 := Aside0.mk hy341
        clear hy341
        have H' := Aside0.mk H
        clear H
        have p337 : 0 ≤ (x23_1 : Int) := of_decide_eq_true (by first | (with_reducible assumption) | assumption)
        have q337 : x23_1 < (l0_2.length : Int) := of_decide_eq_true (by first | (with_reducible assumption) | assumption)
        obtain ⟨ad337, e337, hx337_0, hx337_1⟩ := at_T78 HR0_2.out x23_1 p337 q337
        cases e337
        replace hx337_0 := (HB.out.cell (World.block_lt_of_cell? w _ hx337_0)).trans hx337_0
        replace hx337_1 := (HB.out.cell (World.block_lt_of_cell? w _ hx337_1)).trans hx337_1
        replace p337 := eq_true p337
        replace q337 := eq_true q337
        try go_wp2_with (first | ((with_reducible refine gate_dst (N := 6) rfl ?_); refine box_event ?hg (N := 6) ?hd (cs := #[.int .i64 0, .int .i64 0]) (t := 78) ?hr ?_; (case hd => rfl); (case hg => rfl); (case hr => first | (go_simp; done) | (go_simp; rfl)); intro gb338 hg w20 hbox hb; refine ev12 (Kd.R_below (Kd.R_elderB (Kd.R_mv HO_337002.out) gb338 (Nat.le_of_eq hg.symm)) hb) (kb BK333 hb) (kb BK334 hb) (kb BK336 hb) (bs HB hb) (hbox) (gle hg HB) (gle hg HB) (gnf hg BK333) (gne hg BK333) (gnf hg BK334) (gne hg BK334) ?_; intro n0_ n1_ n2_ n3_ n4_ n5_ n6_ n7_ n8_ n9_ n10_ n11_; refine ev2 (gnf hg BK336) (gne hg BK336) ?_; intro n12_ n13_; clear HO_337002 BK333 BK334 BK336 HB; revert n0_ n1_ n2_ n3_ n4_ n5_ n6_ n7_ n8_ n9_ n10_ n11_ n12_ n13_; intro HO_337002 BK333 BK334 BK336 HB BK338 GW338 GE338 NB333_338 NB338_333 NB334_338 NB338_334 NB336_338 NB338_336; clear hb hbox hg; have hnb21 := NB338_333.out; have hnc21 := NB333_338.out; have hnb22 := NB338_334.out; have hnc22 := NB334_338.out; have hnb23 := NB338_336.out; have hnc23 := NB336_338.out; obtain ⟨hcz24_0, hcz24_1, hfz24_0, hfz24_1⟩ := bt2 BK338))
        have n0_ : Aside0 (Kd.R k78 78 ((w20.setCell ⟨gb338, 0, none⟩ (.int .i64 ((rd_T78 l0_2 x23_1).f0))).setCell ⟨gb338, 1, none⟩ (.int .i64 ((rd_T78 l0_2 x23_1).f1))) w.heap.size (fun k_ => k_ ≠ gb338) u337002 x337002_1) := ⟨Kd.R_mv (Kd.R_mono (ok' := fun k_ => k_ ≠ gb338) (Kd.R_far (p := ⟨gb338, 1, none⟩) (Kd.R_far (p := ⟨gb338, 0, none⟩) (Kd.R_mono HO_337002.out (fun k_ hk => (⟨hk, hk.2⟩ : _ ∧ k_ ≠ gb338))) (fun _ hk => hk.2) (.int .i64 ((rd_T78 l0_2 x23_1).f0))) (fun _ hk => hk.2) (.int .i64 ((rd_T78 l0_2 x23_1).f1))) (fun _ hk => hk.1.2))⟩
        have n1_ : Aside0 (((w20.setCell ⟨gb338, 0, none⟩ (.int .i64 ((rd_T78 l0_2 x23_1).f0))).setCell ⟨gb338, 1, none⟩ (.int .i64 ((rd_T78 l0_2 x23_1).f1))).heap[gb333]? = some (.cells #[.int .i64 a0_0, .int .i64 a0_1, .slice (some ad337) l0_2.length c0_2, .slice A0_3 l0_3.length c0_3, .slice A0_4 l0_4.length c0_4] 35 (0, 0))) := ⟨fp BK333 rfl⟩
        have n2_ : Aside0 (((w20.setCell ⟨gb338, 0, none⟩ (.int .i64 ((rd_T78 l0_2 x23_1).f0))).setCell ⟨gb338, 1, none⟩ (.int .i64 ((rd_T78 l0_2 x23_1).f1))).heap[gb334]? = some (.cells #[.int .i64 0, .int .i64 0, .slice none 0 0, .slice none 0 0, .slice none 0 0] 35 (0, 0))) := ⟨fp BK334 rfl⟩
        have n3_ : Aside0 (((w20.setCell ⟨gb338, 0, none⟩ (.int .i64 ((rd_T78 l0_2 x23_1).f0))).setCell ⟨gb338, 1, none⟩ (.int .i64 ((rd_T78 l0_2 x23_1).f1))).heap[gb336]? = some (.cells #[.int .i64 a0_0, .int .i64 a0_1, u337002, .slice none 0 0, .slice none 0 0] 35 (0, 0))) := ⟨fp BK336 rfl⟩
        have n4_ : Aside0 (((w20.setCell ⟨gb338, 0, none⟩ (.int .i64 ((rd_T78 l0_2 x23_1).f0))).setCell ⟨gb338, 1, none⟩ (.int .i64 ((rd_T78 l0_2 x23_1).f1))).heap[gb338]? = some (.cells #[.int .i64 ((rd_T78 l0_2 x23_1).f0), .int .i64 ((rd_T78 l0_2 x23_1).f1)] 78 (0, 0))) := ⟨fp BK338 rfl⟩
        have n5_ : Aside0 (Below w.heap.size w ((w20.setCell ⟨gb338, 0, none⟩ (.int .i64 ((rd_T78 l0_2 x23_1).f0))).setCell ⟨gb338, 1, none⟩ (.int .i64 ((rd_T78 l0_2 x23_1).f1)))) := ⟨bm HB⟩
        (try clear HO_337002)
        (try clear BK333)
        (try clear BK334)
        (try clear BK336)
        (try clear BK338)
        (try clear HB)
        generalize ((w20.setCell ⟨gb338, 0, none⟩ (.int .i64 ((rd_T78 l0_2 x23_1).f0))).setCell ⟨gb338, 1, none⟩ (.int .i64 ((rd_T78 l0_2 x23_1).f1))) = w25 at n0_ n1_ n2_ n3_ n4_ n5_ ⊢
        have HO_337002 := n0_
        have BK333 := n1_
        have BK334 := n2_
        have BK336 := n3_
        have BK338 := n4_
        have HB := n5_
        clear n0_ n1_ n2_ n3_ n4_ n5_
        refine ev6 (Kd.R_drew HO_337002.out) (blk_drew BK333.out) (blk_drew BK334.out) (blk_drew BK336.out) (blk_drew BK338.out) (below_drew1 HB.out) ?_
        clear HO_337002 BK333 BK334 BK336 BK338 HB
        intro HO_337002 BK333 BK334 BK336 BK338 HB
        refine start_ (n := 8) (S := fun w' => w'.cell? ⟨gb336, 0, none⟩ = some (.int .i64 a0_0) ∧ w'.cell? ⟨gb336, 1, none⟩ = some (.int .i64 a0_1) ∧ w'.cell? ⟨gb336, 2, none⟩ = some (u337002) ∧ w'.cell? ⟨gb336, 3, none⟩ = some (.slice none 0 0) ∧ w'.cell? ⟨gb336, 4, none⟩ = some (.slice none 0 0) ∧ w'.cell? ⟨gb338, 0, none⟩ = some (.int .i64 ((rd_T78 l0_2 x23_1).f0)) ∧ w'.cell? ⟨gb338, 1, none⟩ = some (.int .i64 ((rd_T78 l0_2 x23_1).f1))) (ds := [7]) #[false, false, false, false, false, false, false, false] (by kernel_rfl) rfl rfl ⟨(blk_cell BK336.out 0).trans rfl, (blk_cell BK336.out 1).trans rfl, (blk_cell BK336.out 2).trans rfl, (blk_cell BK336.out 3).trans rfl, (blk_cell BK336.out 4).trans rfl, (blk_cell BK338.out 0).trans rfl, (blk_cell BK338.out 1).trans rfl⟩ (fun hHeld => ?_); refine with_tabW spec_MirrorChallenge.tab7 spec_MirrorChallenge.bits7 (fun HT_ HW_ => ?_)
        generalize w25.drew = w26 at HO_337002 BK333 BK334 BK336 BK338 HB hHeld ⊢
        refine pure_ (i := 0) (N := some 27) (v := ?_) (a' := ?_) #[true, false, false, false, false, false, false, false] rfl rfl (any_of HT_.out (by kernel_rfl)) (fun _ _ _ h => h) (Or.inl ⟨by rfl, ?_⟩) ?_ ?_
        rotate_left
        ·intro w'
         go_simp
         with_reducible rfl
        rotate_left
        ·simp only [Act.put, za_, zb_, zc_, i64_w, i32_w]
         rfl
        refine take_ (i := 1) (N := some 28) (v := ?_) (a' := ?_) #[true, true, false, false, false, false, false, false] rfl rfl (take_ofW HT_.out HW_.out (by kernel_rfl)) (fun _ _ _ h => h) (Or.inl ⟨by rfl, ?_⟩) hHeld ?_ ?_
        rotate_left
        ·rintro w' ⟨s0, s1, s2, s3, s4, s5, s6⟩
         go_simp
         with_reducible rfl
        rotate_left
        ·simp only [Act.put, za_, zb_, zc_, i64_w, i32_w]
         rfl
        refine take_ (i := 2) (N := some 29) (v := ?_) (a' := ?_) #[true, true, true, false, false, false, false, false] rfl rfl (take_ofW HT_.out HW_.out (by kernel_rfl)) (fun _ _ _ h => h) (Or.inl ⟨by rfl, ?_⟩) hHeld ?_ ?_
        rotate_left
        ·rintro w' ⟨s0, s1, s2, s3, s4, s5, s6⟩
         go_simp
         with_reducible rfl
        rotate_left
        ·simp only [Act.put, za_, zb_, zc_, i64_w, i32_w]
         rfl
        refine one_ (i := 3) (N := some 30) #[true, true, true, true, false, false, false, false] rfl rfl (one_of HT_.out (by kernel_rfl)) (by decide) (fun K hK => ?_)
        refine goes_ Try.func69 (by kernel_rfl) rfl #[.agg #[.int .i64 ((rd_T78 l0_2 x23_1).f0), .int .i64 ((rd_T78 l0_2 x23_1).f1)]] (by rfl) rfl rfl (by (try simp only [ma_, mb_, mc_]); first | done | rfl | (simp only [List.length_drop, List.length_take]; rfl)) ?_
        with_reducible refine (spec_paMirror.calls ((rd_T78 l0_2 x23_1).f0) ((rd_T78 l0_2 x23_1).f1) t339 t340 _ A18.out).mono ?_
        rintro e w27 ⟨rfl, hb⟩
        refine ⟨_, rfl, ?_⟩
        refine ev6 (Kd.R_below (Kd.R_mv HO_337002.out) hb) (kb BK333 hb) (kb BK334 hb) (kb BK336 hb) (kb BK338 hb) (bs HB hb) ?_
        clear HO_337002 BK333 BK334 BK336 BK338 HB
        intro HO_337002 BK333 BK334 BK336 BK338 HB
        (try clear hb)
        (try clear hb2)
        (try clear hk)
        (try clear hi)
        refine hK.out _ _ ⟨(blk_cell BK336.out 0).trans rfl, (blk_cell BK336.out 1).trans rfl, (blk_cell BK336.out 2).trans rfl, (blk_cell BK336.out 3).trans rfl, (blk_cell BK336.out 4).trans rfl, (blk_cell BK338.out 0).trans rfl, (blk_cell BK338.out 1).trans rfl⟩ (fun hHeld => ?_)
        clear hK K
        refine norm_ (a' := ?_) ?_ ?_
        rotate_left
        ·show Act.put _ (some 30) _ = _
         simp only [Act.put, za_, zb_, zc_, i64_w, i32_w]
         rfl
        refine one_ (i := 4) (N := some 31) #[true, true, true, true, true, false, false, false] rfl rfl (one_of HT_.out (by kernel_rfl)) (by decide) (fun K hK => ?_)
        refine value_ (w1 := ?_) (v := ?_) (by rfl) rfl ?_ ?_
        rotate_left 2
        ·go_simp
         constructor
         ·rfl
         ·rfl
        refine hK.out _ _ ⟨(blk_cell (blk_alloc BK336.out _) 0).trans rfl, (blk_cell (blk_alloc BK336.out _) 1).trans rfl, (blk_cell (blk_alloc BK336.out _) 2).trans rfl, (blk_cell (blk_alloc BK336.out _) 3).trans rfl, (blk_cell (blk_alloc BK336.out _) 4).trans rfl, (blk_cell (blk_alloc BK338.out _) 0).trans rfl, (blk_cell (blk_alloc BK338.out _) 1).trans rfl⟩ (fun hHeld => ?_)
        clear hK K
        refine norm_ (a' := ?_) ?_ ?_
        rotate_left
        ·show Act.put _ (some 31) _ = _
         simp only [Act.put, za_, zb_, zc_, i64_w, i32_w]
         rfl
        refine one_ (i := 5) (N := some 32) #[true, true, true, true, true, true, false, false] rfl rfl (one_of HT_.out (by kernel_rfl)) (by decide) (fun K hK => ?_)
        refine Kd.R_append_step k78 (w0 := w) w.heap.size (by rfl) (.tmp 28) (.tmp 31) 33 78 (.agg #[(.int .i64 0), (.int .i64 0)]) 16 rfl Try.underlying33 info78 rfl (by decide) (by omega) u337002 x337002_1 (⟨t339, t340⟩ : S78) [.int .i64 t339, .int .i64 t340] (fun k_ => k_ ≠ gb338) (fun _ => False) rfl rfl ?aP (fun _ hk => hk.elim) ?aF ?aO ?aB ?aS ?aL ?_
        (case aP => exact k78_mkM _ _ _ (⟨t339, t340⟩ : S78))
        (case aB => exact (bm HB))
        (case aF => exact (fun k_ hk => Kd.freshB (km_ BK338) k_ hk))
        (case aO => exact (Kd.R_mv HO_337002.out))
        (case aS => exact (below_size (bm HB)))
        (case aL => have := LMc19.out; omega)
        intro v342 w28 ho hb hg hat
        rw [← Ny341.out] at ho
        refine ev6 (blk_grown (km_ BK333) hg (Kd.R_ne HO_337002.out BK333.out (by decide))) (blk_grown (km_ BK334) hg (Kd.R_ne HO_337002.out BK334.out (by decide))) (blk_grown (km_ BK336) hg (Kd.R_ne HO_337002.out BK336.out (by decide))) (blk_grown (km_ BK338) hg (Kd.R_away HO_337002.out (fun _ hk => hk))) (hb) (ho) ?_
        clear BK333 BK334 BK336 BK338 HB HO_337002
        intro BK333 BK334 BK336 BK338 HB HO343
        clear ho hb hg hat
        obtain ⟨Ao29, co29, eo29⟩ := Kd.R_slice HO343.out
        (first | subst eo29 | (injection eo29 with f1_ f2_ f3_; have f4_ := f1_.symm; have f5_ := f3_.symm; clear f1_ f2_ f3_; subst f4_; subst f5_))
        refine hK.out _ _ ⟨(blk_cell BK336.out 0).trans rfl, (blk_cell BK336.out 1).trans rfl, (blk_cell BK336.out 2).trans rfl, (blk_cell BK336.out 3).trans rfl, (blk_cell BK336.out 4).trans rfl, (blk_cell BK338.out 0).trans rfl, (blk_cell BK338.out 1).trans rfl⟩ (fun hHeld => ?_)
        clear hK K
        refine norm_ (a' := ?_) ?_ ?_
        rotate_left
        ·show Act.put _ (some 32) _ = _
         simp only [Act.put, za_, zb_, zc_, i64_w, i32_w]
         rfl
        refine pure_ (i := 6) (N := some 33) (v := ?_) (a' := ?_) #[true, true, true, true, true, true, true, false] rfl rfl (any_of HT_.out (by kernel_rfl)) (fun _ _ _ h => h) (Or.inl ⟨by rfl, ?_⟩) ?_ ?_
        rotate_left
        ·intro w'
         go_simp
         with_reducible rfl
        rotate_left
        ·simp only [Act.put, za_, zb_, zc_, i64_w, i32_w]
         rfl
        refine last_ (i := 7) (N := none) #[true, true, true, true, true, true, true, true] rfl rfl (one_of HT_.out (by kernel_rfl)) (by decide) (fun K hK => ?_)
        have hs30 : w28.cell? ⟨gb336, 2, none⟩ = some (u337002) := (blk_cell BK336.out 2).trans rfl
        have hfs30 := blk_frozen BK336.out 2
        have hns30_0 := NB333_336.out
        have hns30_1 := NB334_336.out
        have hns30_3 := NB338_336.out
        have hms30_0 := NB336_333.out
        have hms30_1 := NB336_334.out
        have hms30_3 := NB336_338.out
        refine skip_ (w1 := ?_) (by rfl) rfl ?_ ?_
        rotate_left
        ·go_simp
         rfl
        refine hK.out _ _ ?_
        clear hK K
        refine done_ (done_of HT_.out (by kernel_rfl)) ?_
        try go_wp2
        go_roundg k1
        case measure => have := HK1.out; omega
        case rel => exact ⟨(wrap64 (x23_1 + 1)), (y341), (.slice Ao29 y341.length co29), (by first | rfl | (simp; done) | (simp [*]; done)), H', ⟨by have := HK1.out; omega⟩, ⟨Kd.R_mv (Kd.R_mono (ok' := fun k_ => True) (Kd.R_far (p := ⟨gb336, 2, none⟩) (Kd.R_types HO343.out BK336.out (by decide)) (fun _ hk => hk.2) (.slice Ao29 y341.length co29)) (fun _ hk => trivial))⟩, ⟨fp BK333 rfl⟩, ⟨fp BK334 rfl⟩, ⟨fp BK336 rfl⟩, ⟨bm HB⟩⟩
       ·rw [if_neg c19] at H
        exact absurd H (by simp)
      ·rw [if_neg c17] at H
       exact absurd H (by simp)
     ·rw [if_neg c16] at H
      exact absurd H (by simp)
    ·rw [if_neg c15] at H
     have c15b0 : decide (x23_1 < (l0_2.length : Int)) = false := decide_eq_false c15
     clear c15
     have H' := Aside0.mk H
     clear H
     have hnb31 := NB333_334.out
     have hnc31 := NB334_333.out
     have hnb32 := NB333_336.out
     have hnc32 := NB336_333.out
     obtain ⟨hcz33_0, hcz33_1, hcz33_2, hcz33_3, hcz33_4, hfz33_0, hfz33_1, hfz33_2, hfz33_3, hfz33_4⟩ := bt5 BK333
     go_wp2
     go_loopg [38] k1 (fun kq v38 w' => ∃ (x38_2 : Int) (x337003_2 : List Int) (u337003 : Value), v38 = .int .i64 x38_2 ∧ Aside0 (spec_MirrorChallenge.l1 kq l0_3 (l0_3.length : Int) x38_2 a0_0 a0_1 l0_2 l0_3 l0_4 a0_0 a0_1 x337002_1 x337003_2 = some (r1, r2, r3, r4, r5, r6)) ∧ Aside0 (kq ≤ k1) ∧ Aside0 (Kd.R k78 78 w' w.heap.size (fun _ => True) u337002 x337002_1) ∧ Aside0 (Kd.R (Kd.int .i64) 3 w' w.heap.size (fun _ => True) u337003 x337003_2) ∧ Aside0 (w'.heap[gb333]? = some (.cells #[.int .i64 a0_0, .int .i64 a0_1, (.slice A0_2 l0_2.length c0_2), (.slice A0_3 l0_3.length c0_3), (.slice A0_4 l0_4.length c0_4)] 35 (0, 0))) ∧ Aside0 (w'.heap[gb334]? = some (.cells #[.int .i64 0, .int .i64 0, (.slice none 0 0), (.slice none 0 0), (.slice none 0 0)] 35 (0, 0))) ∧ Aside0 (w'.heap[gb336]? = some (.cells #[.int .i64 a0_0, .int .i64 a0_1, u337002, u337003, (.slice none 0 0)] 35 (0, 0))) ∧ Aside0 (Below w.heap.size w w'))
     case atStart => exact ⟨(0), (([] : List Int)), (.slice none 0 0), (by first | rfl | (simp; done) | (simp [*]; done)), H', ⟨Nat.le_refl _⟩, ⟨Kd.R_mv HO_337002.out⟩, ⟨by first | exact Kd.R_nil _ _ _ _ _ | exact Kd.N_nil _ _ _ _ _ | exact Kd.V_nil _ _ _ _ _ | exact Kd.Q_nil _ _ _ _ _ | exact Kd.S_nil _ _ _ _ _⟩, ⟨km_ BK333⟩, ⟨km_ BK334⟩, ⟨km_ BK336⟩, ⟨bm HB⟩⟩
     case round =>
      clear H'
      try clear c1
      try clear c2
      try clear p2
      try clear c3
      try clear c6
      try clear c11
      try clear c12
      try clear c15
      try clear c15b0
      try clear c26
      try clear c31
      try clear c32
      try clear hcz13_0
      try clear hcz13_1
      try clear hcz13_2
      try clear hcz13_3
      try clear hcz13_4
      try clear hcz14_0
      try clear hcz14_1
      try clear hcz14_2
      try clear hcz14_3
      try clear hcz14_4
      try clear hcz33_0
      try clear hcz33_1
      try clear hcz33_2
      try clear hcz33_3
      try clear hcz33_4
      try clear hcz7_0
      try clear hcz7_1
      try clear hcz7_2
      try clear hcz7_3
      try clear hcz7_4
      try clear hcz9_0
      try clear hcz9_1
      try clear hcz9_2
      try clear hcz9_3
      try clear hcz9_4
      try clear hfz13_0
      try clear hfz13_1
      try clear hfz13_2
      try clear hfz13_3
      try clear hfz13_4
      try clear hfz14_0
      try clear hfz14_1
      try clear hfz14_2
      try clear hfz14_3
      try clear hfz14_4
      try clear hfz33_0
      try clear hfz33_1
      try clear hfz33_2
      try clear hfz33_3
      try clear hfz33_4
      try clear hfz7_0
      try clear hfz7_1
      try clear hfz7_2
      try clear hfz7_3
      try clear hfz7_4
      try clear hfz9_0
      try clear hfz9_1
      try clear hfz9_2
      try clear hfz9_3
      try clear hfz9_4
      try clear p2
      obtain ⟨x38_2, x337003_2, u337003, rfl, HA, HK2, HO_337002, HO_337003, BK333, BK334, BK336, HB⟩ := hrel
      cases gk with
      | zero => exact absurd HA.out (by simp [spec_MirrorChallenge.l1])
      | succ k2 =>
       have H := HA.out
       clear HA
       simp only [spec_MirrorChallenge.l1] at H
       by_cases c34 : x38_2 < (l0_3.length : Int)
       ·rw [if_pos c34] at H
        have c34b0 : decide (x38_2 < (l0_3.length : Int)) = true := decide_eq_true c34
        clear c34
        by_cases c35 : 0 ≤ x38_2
        ·rw [if_pos c35] at H
         have c35b0 : decide (0 ≤ x38_2) = true := decide_eq_true c35
         clear c35
         by_cases c36 : x38_2 < (l0_3.length : Int)
         ·rw [if_pos c36] at H
          have c36b0 : decide (x38_2 < (l0_3.length : Int)) = true := decide_eq_true c36
          clear c36
          by_cases c37 : x337003_2.length < 17592186044416
          ·rw [if_pos c37] at H
           have LMc37 := Aside0.mk c37
           clear c37
           obtain ⟨y345, hy345⟩ : ∃ y_ : List Int, y_ = (x337003_2 ++ [wrap64 ((wrap64 (a0_1 - 1)) - (rd l0_3 x38_2))]) := ⟨_, rfl⟩
           replace H : (spec_MirrorChallenge.l1 k2 l0_3 (l0_3.length : Int) (wrap64 (x38_2 + 1)) a0_0 a0_1 l0_2 l0_3 l0_4 a0_0 a0_1 x337002_1 y345) = some (r1, r2, r3, r4, r5, r6) := by first | (rw [hy345]; with_reducible exact H) | (have H2_ := (Option.bind_some _ _).symm.trans H; rw [hy345]; with_reducible exact H2_) | (have H2_ := (Option.bind_some _ _).symm.trans H; with_reducible exact H2_) | with_reducible exact H | (rw [hy345]; exact H) | exact H
           have Ny345 := Aside0.mk hy345
           clear hy345
           have H' := Aside0.mk H
           clear H
           have p344 : 0 ≤ (x38_2 : Int) := of_decide_eq_true (by first | (with_reducible assumption) | assumption)
           have q344 : x38_2 < (l0_3.length : Int) := of_decide_eq_true (by first | (with_reducible assumption) | assumption)
           obtain ⟨ad344, e344, hx344_0⟩ := Kd.at_int HR0_3.out x38_2 p344 q344
           cases e344
           replace hx344_0 := (HB.out.cell (World.block_lt_of_cell? w _ hx344_0)).trans hx344_0
           replace p344 := eq_true p344
           replace q344 := eq_true q344
           have hnb38 := NB336_333.out
           have hnc38 := NB333_336.out
           have hnb39 := NB336_334.out
           have hnc39 := NB334_336.out
           obtain ⟨hcz40_0, hcz40_1, hcz40_2, hcz40_3, hcz40_4, hfz40_0, hfz40_1, hfz40_2, hfz40_3, hfz40_4⟩ := bt5 BK336
           have hnb41 := NB333_334.out
           have hnc41 := NB334_333.out
           obtain ⟨hcz42_0, hcz42_1, hcz42_2, hcz42_3, hcz42_4, hfz42_0, hfz42_1, hfz42_2, hfz42_3, hfz42_4⟩ := bt5 BK333
           go_wp2_with (first | ((with_reducible refine gate_builtin (b := .append) (xs := #[.tmp 43, .tmp 49]) rfl ?_); at_builtin; refine Kd.R_append (Kd.int .i64) (w0 := w) w.heap.size rfl (.tmp 43) (.tmp 49) 22 3 (.int .i64 0) 8 rfl Try.underlying22 info3 rfl (by decide) (by omega) u337003 x337003_2 (wrap64 ((wrap64 (a0_1 - 1)) - (rd l0_3 x38_2))) [.int .i64 (wrap64 ((wrap64 (a0_1 - 1)) - (rd l0_3 x38_2)))] (fun _ => True) (fun _ => False) rfl rfl ?aP (fun _ hk => hk.elim) ?aF ?aO ?aB ?aS ?aL ?_; (case aP => exact rfl); (case aB => exact (bm HB)); (case aF => exact (fun _ _ => trivial)); (case aO => exact (Kd.R_mv HO_337003.out)); (case aS => exact (below_size (bm HB))); (case aL => have := LMc37.out; omega); intro v346 w43 ho hb hg hat; rw [← Ny345.out] at ho; refine ev6 (Kd.R_over' (Kd.R_mv HO_337002.out) (Kd.R_typed (Kd.R_mv HO_337003.out)) (by decide) hg) (blk_grown (km_ BK333) hg (Kd.R_ne HO_337003.out BK333.out (by decide))) (blk_grown (km_ BK334) hg (Kd.R_ne HO_337003.out BK334.out (by decide))) (blk_grown (km_ BK336) hg (Kd.R_ne HO_337003.out BK336.out (by decide))) (hb) (ho) ?_; clear HO_337002 BK333 BK334 BK336 HB HO_337003; intro HO_337002 BK333 BK334 BK336 HB HO347; clear ho hb hg hat; obtain ⟨Ao44, co44, eo44⟩ := Kd.R_slice HO347.out; subst eo44; obtain ⟨hcz45_0, hcz45_1, hcz45_2, hcz45_3, hcz45_4, hfz45_0, hfz45_1, hfz45_2, hfz45_3, hfz45_4⟩ := bt5 BK336))
           go_roundg k2
           case measure => have := HK1.out; have := HK2.out; omega
           case rel => exact ⟨(wrap64 (x38_2 + 1)), (y345), (.slice Ao44 y345.length co44), (by first | rfl | (simp; done) | (simp [*]; done)), H', ⟨by have := HK1.out; have := HK2.out; omega⟩, ⟨Kd.R_mv (Kd.R_mono (ok' := fun k_ => True) (Kd.R_far (p := ⟨gb336, 3, none⟩) (Kd.R_types HO_337002.out BK336.out (by decide)) (fun _ hk => hk.2) (.slice Ao44 y345.length co44)) (fun _ hk => trivial))⟩, ⟨Kd.R_mv (Kd.R_mono (ok' := fun k_ => True) (Kd.R_far (p := ⟨gb336, 3, none⟩) (Kd.R_types HO347.out BK336.out (by decide)) (fun _ hk => hk.2) (.slice Ao44 y345.length co44)) (fun _ hk => trivial))⟩, ⟨fp BK333 rfl⟩, ⟨fp BK334 rfl⟩, ⟨fp BK336 rfl⟩, ⟨bm HB⟩⟩
          ·rw [if_neg c37] at H
           exact absurd H (by simp)
         ·rw [if_neg c36] at H
          exact absurd H (by simp)
        ·rw [if_neg c35] at H
         exact absurd H (by simp)
       ·rw [if_neg c34] at H
        have c34b0 : decide (x38_2 < (l0_3.length : Int)) = false := decide_eq_false c34
        clear c34
        have H' := Aside0.mk H
        clear H
        have hnb46 := NB333_334.out
        have hnc46 := NB334_333.out
        have hnb47 := NB333_336.out
        have hnc47 := NB336_333.out
        obtain ⟨hcz48_0, hcz48_1, hcz48_2, hcz48_3, hcz48_4, hfz48_0, hfz48_1, hfz48_2, hfz48_3, hfz48_4⟩ := bt5 BK333
        go_wp2
        go_loopg [56] k2 (fun kq v56 w' => ∃ (x56_3 : Int) (x337004_3 : List Int) (u337004 : Value), v56 = .int .i64 x56_3 ∧ Aside0 (spec_MirrorChallenge.l2 kq l0_4 (l0_4.length : Int) x56_3 a0_0 a0_1 l0_2 l0_3 l0_4 a0_0 a0_1 x337002_1 x337003_2 x337004_3 = some (r1, r2, r3, r4, r5, r6)) ∧ Aside0 (kq ≤ k2) ∧ Aside0 (Kd.R k78 78 w' w.heap.size (fun _ => True) u337002 x337002_1) ∧ Aside0 (Kd.R (Kd.int .i64) 3 w' w.heap.size (fun k_ => some k_ ≠ (u337004 : Value).ownBlock) u337003 x337003_2) ∧ Aside0 (Kd.R (Kd.int .i64) 3 w' w.heap.size (fun k_ => some k_ ≠ (u337003 : Value).ownBlock) u337004 x337004_3) ∧ Aside0 (w'.heap[gb333]? = some (.cells #[.int .i64 a0_0, .int .i64 a0_1, (.slice A0_2 l0_2.length c0_2), (.slice A0_3 l0_3.length c0_3), (.slice A0_4 l0_4.length c0_4)] 35 (0, 0))) ∧ Aside0 (w'.heap[gb334]? = some (.cells #[.int .i64 0, .int .i64 0, (.slice none 0 0), (.slice none 0 0), (.slice none 0 0)] 35 (0, 0))) ∧ Aside0 (w'.heap[gb336]? = some (.cells #[.int .i64 a0_0, .int .i64 a0_1, u337002, u337003, u337004] 35 (0, 0))) ∧ Aside0 (Below w.heap.size w w'))
        case atStart => exact ⟨(0), (([] : List Int)), (.slice none 0 0), (by first | rfl | (simp; done) | (simp [*]; done)), H', ⟨Nat.le_refl _⟩, ⟨Kd.R_mv HO_337002.out⟩, ⟨Kd.R_mv (Kd.R_mono HO_337003.out (fun _ hk => (by simp [Value.ownBlock])))⟩, ⟨by first | exact Kd.R_nil _ _ _ _ _ | exact Kd.N_nil _ _ _ _ _ | exact Kd.V_nil _ _ _ _ _ | exact Kd.Q_nil _ _ _ _ _ | exact Kd.S_nil _ _ _ _ _⟩, ⟨km_ BK333⟩, ⟨km_ BK334⟩, ⟨km_ BK336⟩, ⟨bm HB⟩⟩
        case round =>
         clear H'
         try clear c1
         try clear c2
         try clear p2
         try clear c3
         try clear c4
         try clear c6
         try clear c11
         try clear c12
         try clear c15
         try clear c15b0
         try clear c26
         try clear c31
         try clear c32
         try clear c34
         try clear c34b0
         try clear c46
         try clear c47
         try clear hcz13_0
         try clear hcz13_1
         try clear hcz13_2
         try clear hcz13_3
         try clear hcz13_4
         try clear hcz14_0
         try clear hcz14_1
         try clear hcz14_2
         try clear hcz14_3
         try clear hcz14_4
         try clear hcz33_0
         try clear hcz33_1
         try clear hcz33_2
         try clear hcz33_3
         try clear hcz33_4
         try clear hcz48_0
         try clear hcz48_1
         try clear hcz48_2
         try clear hcz48_3
         try clear hcz48_4
         try clear hcz7_0
         try clear hcz7_1
         try clear hcz7_2
         try clear hcz7_3
         try clear hcz7_4
         try clear hcz9_0
         try clear hcz9_1
         try clear hcz9_2
         try clear hcz9_3
         try clear hcz9_4
         try clear hfz13_0
         try clear hfz13_1
         try clear hfz13_2
         try clear hfz13_3
         try clear hfz13_4
         try clear hfz14_0
         try clear hfz14_1
         try clear hfz14_2
         try clear hfz14_3
         try clear hfz14_4
         try clear hfz33_0
         try clear hfz33_1
         try clear hfz33_2
         try clear hfz33_3
         try clear hfz33_4
         try clear hfz48_0
         try clear hfz48_1
         try clear hfz48_2
         try clear hfz48_3
         try clear hfz48_4
         try clear hfz7_0
         try clear hfz7_1
         try clear hfz7_2
         try clear hfz7_3
         try clear hfz7_4
         try clear hfz9_0
         try clear hfz9_1
         try clear hfz9_2
         try clear hfz9_3
         try clear hfz9_4
         try clear p2
         obtain ⟨x56_3, x337004_3, u337004, rfl, HA, HK3, HO_337002, HO_337003, HO_337004, BK333, BK334, BK336, HB⟩ := hrel
         cases gk with
         | zero => exact absurd HA.out (by simp [spec_MirrorChallenge.l2])
         | succ k3 =>
          have H := HA.out
          clear HA
          simp only [spec_MirrorChallenge.l2] at H
          by_cases c49 : x56_3 < (l0_4.length : Int)
          ·rw [if_pos c49] at H
           have c49b0 : decide (x56_3 < (l0_4.length : Int)) = true := decide_eq_true c49
           clear c49
           by_cases c50 : 0 ≤ x56_3
           ·rw [if_pos c50] at H
            have c50b0 : decide (0 ≤ x56_3) = true := decide_eq_true c50
            clear c50
            by_cases c51 : x56_3 < (l0_4.length : Int)
            ·rw [if_pos c51] at H
             have c51b0 : decide (x56_3 < (l0_4.length : Int)) = true := decide_eq_true c51
             clear c51
             by_cases c52 : (rd l0_4 x56_3) < a0_1
             ·rw [if_pos c52] at H
              have c52b0 : decide ((rd l0_4 x56_3) < a0_1) = true := decide_eq_true c52
              clear c52
              by_cases c53 : x337004_3.length < 17592186044416
              ·rw [if_pos c53] at H
               have LMc53 := Aside0.mk c53
               clear c53
               obtain ⟨y349, hy349⟩ : ∃ y_ : List Int, y_ = (x337004_3 ++ [wrap64 ((wrap64 (a0_1 - 1)) - (rd l0_4 x56_3))]) := ⟨_, rfl⟩
               replace H : (spec_MirrorChallenge.l2 k3 l0_4 (l0_4.length : Int) (wrap64 (x56_3 + 1)) a0_0 a0_1 l0_2 l0_3 l0_4 a0_0 a0_1 x337002_1 x337003_2 y349) = some (r1, r2, r3, r4, r5, r6) := by first | (rw [hy349]; with_reducible exact H) | (have H2_ := (Option.bind_some _ _).symm.trans H; rw [hy349]; with_reducible exact H2_) | (have H2_ := (Option.bind_some _ _).symm.trans H; with_reducible exact H2_) | with_reducible exact H | (rw [hy349]; exact H) | exact H
               have Ny349 := Aside0.mk hy349
               clear hy349
               have H' := Aside0.mk H
               clear H
               have p348 : 0 ≤ (x56_3 : Int) := of_decide_eq_true (by first | (with_reducible assumption) | assumption)
               have q348 : x56_3 < (l0_4.length : Int) := of_decide_eq_true (by first | (with_reducible assumption) | assumption)
               obtain ⟨ad348, e348, hx348_0⟩ := Kd.at_int HR0_4.out x56_3 p348 q348
               cases e348
               replace hx348_0 := (HB.out.cell (World.block_lt_of_cell? w _ hx348_0)).trans hx348_0
               replace p348 := eq_true p348
               replace q348 := eq_true q348
               have hnb54 := NB333_334.out
               have hnc54 := NB334_333.out
               have hnb55 := NB333_336.out
               have hnc55 := NB336_333.out
               obtain ⟨hcz56_0, hcz56_1, hcz56_2, hcz56_3, hcz56_4, hfz56_0, hfz56_1, hfz56_2, hfz56_3, hfz56_4⟩ := bt5 BK333
               have hnb57 := NB336_334.out
               have hnc57 := NB334_336.out
               obtain ⟨hcz58_0, hcz58_1, hcz58_2, hcz58_3, hcz58_4, hfz58_0, hfz58_1, hfz58_2, hfz58_3, hfz58_4⟩ := bt5 BK336
               go_wp2_with (first | ((with_reducible refine gate_builtin (b := .append) (xs := #[.tmp 70, .tmp 72]) rfl ?_); at_builtin; refine Kd.R_append (Kd.int .i64) (w0 := w) w.heap.size rfl (.tmp 70) (.tmp 72) 22 3 (.int .i64 0) 8 rfl Try.underlying22 info3 rfl (by decide) (by omega) u337004 x337004_3 (wrap64 ((wrap64 (a0_1 - 1)) - (rd l0_4 x56_3))) [.int .i64 (wrap64 ((wrap64 (a0_1 - 1)) - (rd l0_4 x56_3)))] (fun k_ => some k_ ≠ (u337003 : Value).ownBlock) (fun _ => False) rfl rfl ?aP (fun _ hk => hk.elim) ?aF ?aO ?aB ?aS ?aL ?_; (case aP => exact rfl); (case aB => exact (bm HB)); (case aF => exact (fun k_ hk => Kd.fresh' (Kd.R_lt (Kd.R_mv HO_337003.out)) k_ hk)); (case aO => exact (Kd.R_mv HO_337004.out)); (case aS => exact (below_size (bm HB))); (case aL => have := LMc53.out; omega); intro v350 w59 ho hb hg hat; rw [← Ny349.out] at ho; refine ev7 (Kd.R_over' (Kd.R_mv HO_337002.out) (Kd.R_typed (Kd.R_mv HO_337004.out)) (by decide) hg) (Kd.R_after (ok := (fun _ => True)) (Kd.R_mv (Kd.R_mono HO_337003.out (fun _ hk => ⟨trivial, hk⟩))) hg hat) (blk_grown (km_ BK333) hg (Kd.R_ne HO_337004.out BK333.out (by decide))) (blk_grown (km_ BK334) hg (Kd.R_ne HO_337004.out BK334.out (by decide))) (blk_grown (km_ BK336) hg (Kd.R_ne HO_337004.out BK336.out (by decide))) (hb) (ho) ?_; clear HO_337002 HO_337003 BK333 BK334 BK336 HB HO_337004; intro HO_337002 HO_337003 BK333 BK334 BK336 HB HO351; clear ho hb hg hat; obtain ⟨Ao60, co60, eo60⟩ := Kd.R_slice HO351.out; subst eo60; obtain ⟨hcz61_0, hcz61_1, hcz61_2, hcz61_3, hcz61_4, hfz61_0, hfz61_1, hfz61_2, hfz61_3, hfz61_4⟩ := bt5 BK336))
               go_roundg k3
               case measure => have := HK1.out; have := HK2.out; have := HK3.out; omega
               case rel => exact ⟨(wrap64 (x56_3 + 1)), (y349), (.slice Ao60 y349.length co60), (by first | rfl | (simp; done) | (simp [*]; done)), H', ⟨by have := HK1.out; have := HK2.out; have := HK3.out; omega⟩, ⟨Kd.R_mv (Kd.R_mono (ok' := fun k_ => True) (Kd.R_far (p := ⟨gb336, 4, none⟩) (Kd.R_types HO_337002.out BK336.out (by decide)) (fun _ hk => hk.2) (.slice Ao60 y349.length co60)) (fun _ hk => trivial))⟩, ⟨Kd.R_mv (Kd.R_mono (Kd.R_far (p := ⟨gb336, 4, none⟩) (Kd.R_types HO_337003.out BK336.out (by decide)) (fun _ hk => hk.2) (.slice Ao60 y349.length co60)) (fun _ hk => hk.1.2))⟩, ⟨Kd.R_mv (Kd.R_mono (Kd.R_far (p := ⟨gb336, 4, none⟩) (Kd.R_types HO351.out BK336.out (by decide)) (fun _ hk => hk.2) (.slice Ao60 y349.length co60)) (fun _ hk => hk.1))⟩, ⟨fp BK333 rfl⟩, ⟨fp BK334 rfl⟩, ⟨fp BK336 rfl⟩, ⟨bm HB⟩⟩
              ·rw [if_neg c53] at H
               exact absurd H (by simp)
             ·rw [if_neg c52] at H
              have c52b0 : decide ((rd l0_4 x56_3) < a0_1) = false := decide_eq_false c52
              clear c52
              by_cases c62 : x337004_3.length < 17592186044416
              ·rw [if_pos c62] at H
               have LMc62 := Aside0.mk c62
               clear c62
               obtain ⟨y352, hy352⟩ : ∃ y_ : List Int, y_ = (x337004_3 ++ [rd l0_4 x56_3]) := ⟨_, rfl⟩
               replace H : (spec_MirrorChallenge.l2 k3 l0_4 (l0_4.length : Int) (wrap64 (x56_3 + 1)) a0_0 a0_1 l0_2 l0_3 l0_4 a0_0 a0_1 x337002_1 x337003_2 y352) = some (r1, r2, r3, r4, r5, r6) := by first | (rw [hy352]; with_reducible exact H) | (have H2_ := (Option.bind_some _ _).symm.trans H; rw [hy352]; with_reducible exact H2_) | (have H2_ := (Option.bind_some _ _).symm.trans H; with_reducible exact H2_) | with_reducible exact H | (rw [hy352]; exact H) | exact H
               have Ny352 := Aside0.mk hy352
               clear hy352
               have H' := Aside0.mk H
               clear H
               have p348 : 0 ≤ (x56_3 : Int) := of_decide_eq_true (by first | (with_reducible assumption) | assumption)
               have q348 : x56_3 < (l0_4.length : Int) := of_decide_eq_true (by first | (with_reducible assumption) | assumption)
               obtain ⟨ad348, e348, hx348_0⟩ := Kd.at_int HR0_4.out x56_3 p348 q348
               cases e348
               replace hx348_0 := (HB.out.cell (World.block_lt_of_cell? w _ hx348_0)).trans hx348_0
               replace p348 := eq_true p348
               replace q348 := eq_true q348
               have hnb63 := NB333_334.out
               have hnc63 := NB334_333.out
               have hnb64 := NB333_336.out
               have hnc64 := NB336_333.out
               obtain ⟨hcz65_0, hcz65_1, hcz65_2, hcz65_3, hcz65_4, hfz65_0, hfz65_1, hfz65_2, hfz65_3, hfz65_4⟩ := bt5 BK333
               have hnb66 := NB336_334.out
               have hnc66 := NB334_336.out
               obtain ⟨hcz67_0, hcz67_1, hcz67_2, hcz67_3, hcz67_4, hfz67_0, hfz67_1, hfz67_2, hfz67_3, hfz67_4⟩ := bt5 BK336
               go_wp2_with (first | ((with_reducible refine gate_builtin (b := .append) (xs := #[.tmp 70, .tmp 72]) rfl ?_); at_builtin; refine Kd.R_append (Kd.int .i64) (w0 := w) w.heap.size rfl (.tmp 70) (.tmp 72) 22 3 (.int .i64 0) 8 rfl Try.underlying22 info3 rfl (by decide) (by omega) u337004 x337004_3 (rd l0_4 x56_3) [.int .i64 (rd l0_4 x56_3)] (fun k_ => some k_ ≠ (u337003 : Value).ownBlock) (fun _ => False) rfl rfl ?aP (fun _ hk => hk.elim) ?aF ?aO ?aB ?aS ?aL ?_; (case aP => exact rfl); (case aB => exact (bm HB)); (case aF => exact (fun k_ hk => Kd.fresh' (Kd.R_lt (Kd.R_mv HO_337003.out)) k_ hk)); (case aO => exact (Kd.R_mv HO_337004.out)); (case aS => exact (below_size (bm HB))); (case aL => have := LMc62.out; omega); intro v353 w68 ho hb hg hat; rw [← Ny352.out] at ho; refine ev7 (Kd.R_over' (Kd.R_mv HO_337002.out) (Kd.R_typed (Kd.R_mv HO_337004.out)) (by decide) hg) (Kd.R_after (ok := (fun _ => True)) (Kd.R_mv (Kd.R_mono HO_337003.out (fun _ hk => ⟨trivial, hk⟩))) hg hat) (blk_grown (km_ BK333) hg (Kd.R_ne HO_337004.out BK333.out (by decide))) (blk_grown (km_ BK334) hg (Kd.R_ne HO_337004.out BK334.out (by decide))) (blk_grown (km_ BK336) hg (Kd.R_ne HO_337004.out BK336.out (by decide))) (hb) (ho) ?_; clear HO_337002 HO_337003 BK333 BK334 BK336 HB HO_337004; intro HO_337002 HO_337003 BK333 BK334 BK336 HB HO354; clear ho hb hg hat; obtain ⟨Ao69, co69, eo69⟩ := Kd.R_slice HO354.out; subst eo69; obtain ⟨hcz70_0, hcz70_1, hcz70_2, hcz70_3, hcz70_4, hfz70_0, hfz70_1, hfz70_2, hfz70_3, hfz70_4⟩ := bt5 BK336))
               go_roundg k3
               case measure => have := HK1.out; have := HK2.out; have := HK3.out; omega
               case rel => exact ⟨(wrap64 (x56_3 + 1)), (y352), (.slice Ao69 y352.length co69), (by first | rfl | (simp; done) | (simp [*]; done)), H', ⟨by have := HK1.out; have := HK2.out; have := HK3.out; omega⟩, ⟨Kd.R_mv (Kd.R_mono (ok' := fun k_ => True) (Kd.R_far (p := ⟨gb336, 4, none⟩) (Kd.R_types HO_337002.out BK336.out (by decide)) (fun _ hk => hk.2) (.slice Ao69 y352.length co69)) (fun _ hk => trivial))⟩, ⟨Kd.R_mv (Kd.R_mono (Kd.R_far (p := ⟨gb336, 4, none⟩) (Kd.R_types HO_337003.out BK336.out (by decide)) (fun _ hk => hk.2) (.slice Ao69 y352.length co69)) (fun _ hk => hk.1.2))⟩, ⟨Kd.R_mv (Kd.R_mono (Kd.R_far (p := ⟨gb336, 4, none⟩) (Kd.R_types HO354.out BK336.out (by decide)) (fun _ hk => hk.2) (.slice Ao69 y352.length co69)) (fun _ hk => hk.1))⟩, ⟨fp BK333 rfl⟩, ⟨fp BK334 rfl⟩, ⟨fp BK336 rfl⟩, ⟨bm HB⟩⟩
              ·rw [if_neg c62] at H
               exact absurd H (by simp)
            ·rw [if_neg c51] at H
             exact absurd H (by simp)
           ·rw [if_neg c50] at H
            exact absurd H (by simp)
          ·rw [if_neg c49] at H
           have c49b0 : decide (x56_3 < (l0_4.length : Int)) = false := decide_eq_false c49
           clear c49
           simp only [Option.some.injEq, Prod.mk.injEq] at H
           obtain ⟨rfl, rfl, rfl, rfl, rfl, rfl⟩ := H
           have hnb71 := NB336_333.out
           have hnc71 := NB333_336.out
           have hnb72 := NB336_334.out
           have hnc72 := NB334_336.out
           obtain ⟨hcz73_0, hcz73_1, hcz73_2, hcz73_3, hcz73_4, hfz73_0, hfz73_1, hfz73_2, hfz73_3, hfz73_4⟩ := bt5 BK336
           have hnb74 := NB334_333.out
           have hnc74 := NB333_334.out
           obtain ⟨hcz75_0, hcz75_1, hcz75_2, hcz75_3, hcz75_4, hfz75_0, hfz75_1, hfz75_2, hfz75_3, hfz75_4⟩ := bt5 BK334
           obtain ⟨Ao76, co76, eo76⟩ := Kd.R_slice HO_337002.out
           subst eo76
           obtain ⟨Ao77, co77, eo77⟩ := Kd.R_slice HO_337003.out
           subst eo77
           obtain ⟨Ao78, co78, eo78⟩ := Kd.R_slice HO_337004.out
           subst eo78
           go_wp2
           refine bodyPost_ret (results_ct rfl _ _ gb334 35 #[.int .i64 a0_0, .int .i64 a0_1, .slice Ao76 x337002_1.length co76, .slice Ao77 x337003_2.length co77, .slice Ao78 x337004_3.length co78] (0, 0) _ rfl (fp BK334 rfl) Try.underlying35 rfl (by kernel_rfl)) rfl ?_
           exact ⟨_, _, _, by first | rfl | (simp [e0_, e1_] <;> rfl) | (simp [*, e0_, e1_] <;> rfl), Kd.R_mv (Kd.R_mono (ok' := fun k_ => True) (Kd.R_far (p := ⟨gb334, 4, none⟩) (Kd.R_far (p := ⟨gb334, 3, none⟩) (Kd.R_far (p := ⟨gb334, 2, none⟩) (Kd.R_far (p := ⟨gb334, 1, none⟩) (Kd.R_far (p := ⟨gb334, 0, none⟩) (Kd.R_types HO_337002.out BK334.out (by decide)) (fun _ hk => hk.2) (.int .i64 a0_0)) (fun _ hk => hk.2) (.int .i64 a0_1)) (fun _ hk => hk.2) (.slice Ao76 x337002_1.length co76)) (fun _ hk => hk.2) (.slice Ao77 x337003_2.length co77)) (fun _ hk => hk.2) (.slice Ao78 x337004_3.length co78)) (fun _ hk => trivial)), Kd.R_mv (Kd.R_mono (Kd.R_far (p := ⟨gb334, 4, none⟩) (Kd.R_far (p := ⟨gb334, 3, none⟩) (Kd.R_far (p := ⟨gb334, 2, none⟩) (Kd.R_far (p := ⟨gb334, 1, none⟩) (Kd.R_far (p := ⟨gb334, 0, none⟩) (Kd.R_types HO_337003.out BK334.out (by decide)) (fun _ hk => hk.2) (.int .i64 a0_0)) (fun _ hk => hk.2) (.int .i64 a0_1)) (fun _ hk => hk.2) (.slice Ao76 x337002_1.length co76)) (fun _ hk => hk.2) (.slice Ao77 x337003_2.length co77)) (fun _ hk => hk.2) (.slice Ao78 x337004_3.length co78)) (fun _ hk => hk.1)), Kd.R_mv (Kd.R_mono (Kd.R_far (p := ⟨gb334, 4, none⟩) (Kd.R_far (p := ⟨gb334, 3, none⟩) (Kd.R_far (p := ⟨gb334, 2, none⟩) (Kd.R_far (p := ⟨gb334, 1, none⟩) (Kd.R_far (p := ⟨gb334, 0, none⟩) (Kd.R_types HO_337004.out BK334.out (by decide)) (fun _ hk => hk.2) (.int .i64 a0_0)) (fun _ hk => hk.2) (.int .i64 a0_1)) (fun _ hk => hk.2) (.slice Ao76 x337002_1.length co76)) (fun _ hk => hk.2) (.slice Ao77 x337003_2.length co77)) (fun _ hk => hk.2) (.slice Ao78 x337004_3.length co78)) (fun _ hk => hk.1)), bm HB⟩
 ·replace c3 := Bool.eq_false_iff.mpr c3
  subst c3
  have H1 : (some (0, 0, ([] : List (S78)), ([] : List Int), ([] : List Int), false)) = some (r1, r2, r3, r4, r5, r6) := by rw [if_neg (show ¬ (false = true) by decide)] at H; exact H
  clear H
  have H := H1
  clear H1
  simp only [Option.some.injEq, Prod.mk.injEq] at H
  obtain ⟨rfl, rfl, rfl, rfl, rfl, rfl⟩ := H
  go_enter Try.func26, Try.ntmps26
  go_wp2_with (first | ((with_reducible refine gate_dst (N := 1) rfl ?_); refine box_event ?hg (N := 1) ?hd (cs := #[.int .i64 a0_0, .int .i64 a0_1, .slice A0_2 l0_2.length c0_2, .slice A0_3 l0_3.length c0_3, .slice A0_4 l0_4.length c0_4]) (t := 35) ?hr ?_; (case hd => rfl); (case hg => rfl); (case hr => first | (go_simp; done) | (go_simp; rfl)); intro gb333 hg w79 hbox hb; refine ev4 (bs HB hb) (hbox) (gle hg HB) (gle hg HB) ?_; clear HB; intro HB BK333 GW333 GE333; clear hb hbox hg) | ((with_reducible refine gate_dst (N := 2) rfl ?_); refine box_event ?hg (N := 2) ?hd (cs := #[.int .i64 0, .int .i64 0, .slice none 0 0, .slice none 0 0, .slice none 0 0]) (t := 35) ?hr ?_; (case hd => rfl); (case hg => rfl); (case hr => first | (go_simp; done) | (go_simp; rfl)); intro gb334 hg w80 hbox hb; refine ev7 (kb BK333 hb) (bs HB hb) (hbox) (gle hg HB) (gle hg HB) (gnf hg BK333) (gne hg BK333) ?_; clear BK333 HB; intro BK333 HB BK334 GW334 GE334 NB333_334 NB334_333; clear hb hbox hg; have hnb81 := NB333_334.out; have hnc81 := NB334_333.out; obtain ⟨hcz82_0, hcz82_1, hcz82_2, hcz82_3, hcz82_4, hfz82_0, hfz82_1, hfz82_2, hfz82_3, hfz82_4⟩ := bt5 BK333) | ((with_reducible refine gate_callee (f := 68) rfl ?_); refine goesL_ (some 12) rfl rfl Try.func68 (by kernel_rfl) rfl #[.agg #[.int .i64 a0_0, .int .i64 a0_1, .slice A0_2 l0_2.length c0_2, .slice A0_3 l0_3.length c0_3, .slice A0_4 l0_4.length c0_4]] rfl (by (try simp only [ma_, mb_, mc_]); first | done | rfl | (simp only [List.length_drop, List.length_take]; rfl)) ?_; (with_reducible refine (spec_chGood.calls k a0_0 a0_1 _ _ l0_2 _ _ l0_3 _ _ l0_4 false _ (Kd.C_mv (Kd.C_below HR0_2.out HB.out)) HC0_2.out (Kd.C_mv (Kd.C_below HR0_3.out HB.out)) HC0_3.out (Kd.C_mv (Kd.C_below HR0_4.out HB.out)) HC0_4.out A2.out).mono ?_); rintro e w83 ⟨rfl, hb⟩; refine ⟨_, rfl, ?_⟩; refine ev3 (kb BK333 hb) (kb BK334 hb) (bs HB hb) ?_; clear BK333 BK334 HB; intro BK333 BK334 HB; (try clear hb); (try clear hb2); (try clear hk); (try clear hi); obtain ⟨hcz84_0, hcz84_1, hcz84_2, hcz84_3, hcz84_4, hfz84_0, hfz84_1, hfz84_2, hfz84_3, hfz84_4⟩ := bt5 BK334))
  refine bodyPost_ret (results_ct rfl _ _ gb334 35 #[.int .i64 0, .int .i64 0, .slice none 0 0, .slice none 0 0, .slice none 0 0] (0, 0) _ rfl (fp BK334 rfl) Try.underlying35 rfl (by kernel_rfl)) rfl ?_
  exact ⟨_, _, _, by first | rfl | (simp [e0_, e1_] <;> rfl) | (simp [*, e0_, e1_] <;> rfl), by first | exact Kd.R_nil _ _ _ _ _ | exact Kd.N_nil _ _ _ _ _ | exact Kd.V_nil _ _ _ _ _ | exact Kd.Q_nil _ _ _ _ _ | exact Kd.S_nil _ _ _ _ _, by first | exact Kd.R_nil _ _ _ _ _ | exact Kd.N_nil _ _ _ _ _ | exact Kd.V_nil _ _ _ _ _ | exact Kd.Q_nil _ _ _ _ _ | exact Kd.S_nil _ _ _ _ _, by first | exact Kd.R_nil _ _ _ _ _ | exact Kd.N_nil _ _ _ _ _ | exact Kd.V_nil _ _ _ _ _ | exact Kd.Q_nil _ _ _ _ _ | exact Kd.S_nil _ _ _ _ _, bm HB⟩

/-! ### impl_copyChallenge: function 71 -/
def impl_copyChallenge.f (a0_0 : Int) (a0_1 : Int) (l0_2 : List (S78)) (l0_3 : List Int) (l0_4 : List Int) : Option (Int × Int × (List (S78)) × List Int × List Int) := (some (([] : List (S78)) : List (S78))).bind fun y360 => (if y360.length + l0_2.length < 8796093022208 then ((some (([] : List Int) : List Int)).bind fun y366 => (if y366.length + l0_3.length < 17592186044416 then ((some (([] : List Int) : List Int)).bind fun y372 => (if y372.length + l0_4.length < 17592186044416 then (some (a0_0, a0_1, (y360 ++ l0_2), (y366 ++ l0_3), (y372 ++ l0_4))) else (none))) else (none))) else (none))
set_option maxHeartbeats 8000000 in
set_option maxRecDepth 100000 in
theorem impl_copyChallenge.calls (a0_0 : Int) (a0_1 : Int) (A0_2 : Option Addr) (c0_2 : Nat) (l0_2 : List (S78)) (A0_3 : Option Addr) (c0_3 : Nat) (l0_3 : List Int) (A0_4 : Option Addr) (c0_4 : Nat) (l0_4 : List Int) (r1 : Int) (r2 : Int) (r3 : List (S78)) (r4 : List Int) (r5 : List Int) (w : World) (hr0_2 : Kd.C k78 w A0_2 l0_2.length l0_2) (hc0_2 : l0_2.length ≤ c0_2) (hr0_3 : Kd.C (Kd.int .i64) w A0_3 l0_3.length l0_3) (hc0_3 : l0_3.length ≤ c0_3) (hr0_4 : Kd.C (Kd.int .i64) w A0_4 l0_4.length l0_4) (hc0_4 : l0_4.length ≤ c0_4) (h : impl_copyChallenge.f a0_0 a0_1 l0_2 l0_3 l0_4 = some (r1, r2, r3, r4, r5)) :
  Calls Try.prog 71 #[.agg #[.int .i64 a0_0, .int .i64 a0_1, .slice A0_2 l0_2.length c0_2, .slice A0_3 l0_3.length c0_3, .slice A0_4 l0_4.length c0_4]] w fun e w' => ∃ v2_ v3_ v4_ : Value, e = .returned (.agg #[.int .i64 r1, .int .i64 r2, v2_, v3_, v4_]) ∧ Kd.R k78 78 w' w.heap.size (fun _ => True) v2_ r3 ∧ Kd.R (Kd.int .i64) 3 w' w.heap.size (fun k_ => some k_ ≠ (v4_ : Value).ownBlock) v3_ r4 ∧ Kd.R (Kd.int .i64) 3 w' w.heap.size (fun k_ => some k_ ≠ (v3_ : Value).ownBlock) v4_ r5 ∧ Below w.heap.size w w' := by
 have HR0_2 := Aside0.mk hr0_2
 have HC0_2 := Aside0.mk hc0_2
 clear hr0_2 hc0_2
 have HR0_3 := Aside0.mk hr0_3
 have HC0_3 := Aside0.mk hc0_3
 clear hr0_3 hc0_3
 have HR0_4 := Aside0.mk hr0_4
 have HC0_4 := Aside0.mk hc0_4
 clear hr0_4 hc0_4
 have HB := Aside0.mk (Below.refl w.heap.size w)
 have H : ((some (([] : List (S78)) : List (S78))).bind fun y360 => (if y360.length + l0_2.length < 8796093022208 then ((some (([] : List Int) : List Int)).bind fun y366 => (if y366.length + l0_3.length < 17592186044416 then ((some (([] : List Int) : List Int)).bind fun y372 => (if y372.length + l0_4.length < 17592186044416 then (some (a0_0, a0_1, (y360 ++ l0_2), (y366 ++ l0_3), (y372 ++ l0_4))) else (none))) else (none))) else (none))) = some (r1, r2, r3, r4, r5) := h
 clear h
 obtain ⟨y360, hy360⟩ : ∃ y_ : List (S78), y_ = (([] : List (S78))) := ⟨_, rfl⟩
 replace H : (if y360.length + l0_2.length < 8796093022208 then ((some (([] : List Int) : List Int)).bind fun y366 => (if y366.length + l0_3.length < 17592186044416 then ((some (([] : List Int) : List Int)).bind fun y372 => (if y372.length + l0_4.length < 17592186044416 then (some (a0_0, a0_1, (y360 ++ l0_2), (y366 ++ l0_3), (y372 ++ l0_4))) else (none))) else (none))) else (none)) = some (r1, r2, r3, r4, r5) := by first | (rw [hy360]; with_reducible exact H) | (have H2_ := (Option.bind_some _ _).symm.trans H; rw [hy360]; with_reducible exact H2_) | (have H2_ := (Option.bind_some _ _).symm.trans H; with_reducible exact H2_) | with_reducible exact H | (rw [hy360]; exact H) | exact H
 have Ny360 := Aside0.mk hy360
 clear hy360
 by_cases c2 : y360.length + l0_2.length < 8796093022208
 ·rw [if_pos c2] at H
  have LMc2 := Aside0.mk c2
  clear c2
  obtain ⟨y363, hy363⟩ : ∃ y_ : List (S78), y_ = (y360 ++ l0_2) := ⟨_, rfl⟩
  replace H : ((some (([] : List Int) : List Int)).bind fun y366 => (if y366.length + l0_3.length < 17592186044416 then ((some (([] : List Int) : List Int)).bind fun y372 => (if y372.length + l0_4.length < 17592186044416 then (some (a0_0, a0_1, y363, (y366 ++ l0_3), (y372 ++ l0_4))) else (none))) else (none))) = some (r1, r2, r3, r4, r5) := by first | (rw [hy363]; with_reducible exact H) | (have H2_ := (Option.bind_some _ _).symm.trans H; rw [hy363]; with_reducible exact H2_) | (have H2_ := (Option.bind_some _ _).symm.trans H; with_reducible exact H2_) | with_reducible exact H | (rw [hy363]; exact H) | exact H
  have Ny363 := Aside0.mk hy363
  clear hy363
  obtain ⟨y366, hy366⟩ : ∃ y_ : List Int, y_ = (([] : List Int)) := ⟨_, rfl⟩
  replace H : (if y366.length + l0_3.length < 17592186044416 then ((some (([] : List Int) : List Int)).bind fun y372 => (if y372.length + l0_4.length < 17592186044416 then (some (a0_0, a0_1, y363, (y366 ++ l0_3), (y372 ++ l0_4))) else (none))) else (none)) = some (r1, r2, r3, r4, r5) := by first | (rw [hy366]; with_reducible exact H) | (have H2_ := (Option.bind_some _ _).symm.trans H; rw [hy366]; with_reducible exact H2_) | (have H2_ := (Option.bind_some _ _).symm.trans H; with_reducible exact H2_) | with_reducible exact H | (rw [hy366]; exact H) | exact H
  have Ny366 := Aside0.mk hy366
  clear hy366
  by_cases c3 : y366.length + l0_3.length < 17592186044416
  ·rw [if_pos c3] at H
   have LMc3 := Aside0.mk c3
   clear c3
   obtain ⟨y369, hy369⟩ : ∃ y_ : List Int, y_ = (y366 ++ l0_3) := ⟨_, rfl⟩
   replace H : ((some (([] : List Int) : List Int)).bind fun y372 => (if y372.length + l0_4.length < 17592186044416 then (some (a0_0, a0_1, y363, y369, (y372 ++ l0_4))) else (none))) = some (r1, r2, r3, r4, r5) := by first | (rw [hy369]; with_reducible exact H) | (have H2_ := (Option.bind_some _ _).symm.trans H; rw [hy369]; with_reducible exact H2_) | (have H2_ := (Option.bind_some _ _).symm.trans H; with_reducible exact H2_) | with_reducible exact H | (rw [hy369]; exact H) | exact H
   have Ny369 := Aside0.mk hy369
   clear hy369
   obtain ⟨y372, hy372⟩ : ∃ y_ : List Int, y_ = (([] : List Int)) := ⟨_, rfl⟩
   replace H : (if y372.length + l0_4.length < 17592186044416 then (some (a0_0, a0_1, y363, y369, (y372 ++ l0_4))) else (none)) = some (r1, r2, r3, r4, r5) := by first | (rw [hy372]; with_reducible exact H) | (have H2_ := (Option.bind_some _ _).symm.trans H; rw [hy372]; with_reducible exact H2_) | (have H2_ := (Option.bind_some _ _).symm.trans H; with_reducible exact H2_) | with_reducible exact H | (rw [hy372]; exact H) | exact H
   have Ny372 := Aside0.mk hy372
   clear hy372
   by_cases c4 : y372.length + l0_4.length < 17592186044416
   ·rw [if_pos c4] at H
    have LMc4 := Aside0.mk c4
    clear c4
    obtain ⟨y375, hy375⟩ : ∃ y_ : List Int, y_ = (y372 ++ l0_4) := ⟨_, rfl⟩
    replace H : (some (a0_0, a0_1, y363, y369, y375)) = some (r1, r2, r3, r4, r5) := by first | (rw [hy375]; with_reducible exact H) | (have H2_ := (Option.bind_some _ _).symm.trans H; rw [hy375]; with_reducible exact H2_) | (have H2_ := (Option.bind_some _ _).symm.trans H; with_reducible exact H2_) | with_reducible exact H | (rw [hy375]; exact H) | exact H
    have Ny375 := Aside0.mk hy375
    clear hy375
    simp only [Option.some.injEq, Prod.mk.injEq] at H
    obtain ⟨rfl, rfl, rfl, rfl, rfl⟩ := H
    go_enter Try.func71, Try.ntmps71
    go_wp2_with (first | ((with_reducible refine gate_dst (N := 1) rfl ?_); refine box_event ?hg (N := 1) ?hd (cs := #[.int .i64 a0_0, .int .i64 a0_1, .slice A0_2 l0_2.length c0_2, .slice A0_3 l0_3.length c0_3, .slice A0_4 l0_4.length c0_4]) (t := 35) ?hr ?_; (case hd => rfl); (case hg => rfl); (case hr => first | (go_simp; done) | (go_simp; rfl)); intro gb358 hg w5 hbox hb; refine ev4 (bs HB hb) (hbox) (gle hg HB) (gle hg HB) ?_; clear HB; intro HB BK358 GW358 GE358; clear hb hbox hg) | ((with_reducible refine gate_dst (N := 2) rfl ?_); refine box_event ?hg (N := 2) ?hd (cs := #[.int .i64 0, .int .i64 0, .slice none 0 0, .slice none 0 0, .slice none 0 0]) (t := 35) ?hr ?_; (case hd => rfl); (case hg => rfl); (case hr => first | (go_simp; done) | (go_simp; rfl)); intro gb359 hg w6 hbox hb; refine ev7 (kb BK358 hb) (bs HB hb) (hbox) (gle hg HB) (gle hg HB) (gnf hg BK358) (gne hg BK358) ?_; clear BK358 HB; intro BK358 HB BK359 GW359 GE359 NB358_359 NB359_358; clear hb hbox hg) | ((with_reducible refine gate_dst (N := 3) rfl ?_); refine Kd.R_lit k78 _ 78 ?hg (N := 3) ?hd (xs := ([] : List (S78))) (inner := []) (ok := fun _ => True) (okp := fun _ => True) ?hr ?hp (fun _ hk => hk) trivial (Below.refl _ _) (Nat.le_refl _) (by simp) ?_; (case hd => rfl); (case hg => rfl); (case hr => first | (go_simp; done) | (go_simp; rfl)); (case hp => exact (Reps.none _ _)); intro v361 w7 ho8 hb hg_ hnew_; clear hg_ hnew_; (first | rw [← Ny360.out] at ho8 | (simp only [Int.reduceToNat] at ho8; rw [← Ny360.out] at ho8)); refine ev4 (Kd.R_lower ho8 (below_size (bm HB))) (kb BK358 hb) (kb BK359 hb) (bs HB hb) ?_; clear BK358 BK359 HB; intro HO362 BK358 BK359 HB; clear hb ho8; have hnb9 := NB358_359.out; have hnc9 := NB359_358.out; obtain ⟨hcz10_0, hcz10_1, hcz10_2, hcz10_3, hcz10_4, hfz10_0, hfz10_1, hfz10_2, hfz10_3, hfz10_4⟩ := bt5 BK358) | ((with_reducible refine gate_builtin (b := .append) (xs := #[.tmp 3, .tmp 5]) rfl ?_); at_builtin; refine Kd.R_append_rows k78 (w0 := w) w.heap.size rfl (.tmp 3) (.tmp 5) 33 78 (.agg #[(.int .i64 0), (.int .i64 0)]) 16 rfl Try.underlying33 info78 rfl (by decide) (by omega) v361 y360 l0_2 _ _ _ (fun _ => True) (fun _ => False) rfl rfl ?aO ?aR (fun _ _ h => h) (fun _ h => h.elim) ?aF ?aB ?aS ?aL ?_; (case aR => exact Kd.C_mv (Kd.C_below HR0_2.out HB.out)); (case aB => exact (bm HB)); (case aF => exact (fun _ _ => trivial)); (case aO => exact (Kd.R_mv HO362.out)); (case aS => exact (below_size (bm HB))); (case aL => have := LMc2.out; omega); intro v364 w11 ho hb hg hat; rw [← Ny363.out] at ho; refine ev4 (blk_grown (km_ BK358) hg (Kd.R_ne HO362.out BK358.out (by decide))) (blk_grown (km_ BK359) hg (Kd.R_ne HO362.out BK359.out (by decide))) (hb) (ho) ?_; clear BK358 BK359 HB HO362; intro BK358 BK359 HB HO365; clear ho hb hg hat; obtain ⟨Ao12, co12, eo12⟩ := Kd.R_slice HO365.out; subst eo12; obtain ⟨hcz13_0, hcz13_1, hcz13_2, hcz13_3, hcz13_4, hfz13_0, hfz13_1, hfz13_2, hfz13_3, hfz13_4⟩ := bt5 BK358) | ((with_reducible refine gate_dst (N := 8) rfl ?_); refine Kd.R_lit (Kd.int .i64) _ 3 ?hg (N := 8) ?hd (xs := ([] : List Int)) (inner := []) (ok := fun _ => True) (okp := fun _ => True) ?hr ?hp (fun _ hk => hk) trivial (Below.refl _ _) (Nat.le_refl _) (by simp) ?_; (case hd => rfl); (case hg => rfl); (case hr => first | (go_simp; done) | (go_simp; rfl)); (case hp => exact (Reps.none _ _)); intro v367 w14 ho15 hb hg_ hnew_; clear hg_ hnew_; (first | rw [← Ny366.out] at ho15 | (simp only [Int.reduceToNat] at ho15; rw [← Ny366.out] at ho15)); refine ev5 (Kd.R_below (Kd.R_mv (Kd.R_mono (Kd.R_far (p := ⟨gb358, 2, none⟩) (Kd.R_types HO365.out BK358.out (by decide)) (fun _ hk => hk.2) (.slice Ao12 y363.length co12)) (fun _ h_ => h_.1))) hb) (Kd.R_lower ho15 (below_size (bm HB))) (blk_below (g := gb358) (o := .cells #[.int .i64 a0_0, .int .i64 a0_1, .slice Ao12 y363.length co12, .slice A0_3 l0_3.length c0_3, .slice A0_4 l0_4.length c0_4] 35 (0, 0)) (fp BK358 rfl) hb) (blk_below (g := gb359) (o := .cells #[.int .i64 0, .int .i64 0, .slice none 0 0, .slice none 0 0, .slice none 0 0] 35 (0, 0)) (fp BK359 rfl) hb) (bs HB hb) ?_; clear HO365 BK358 BK359 HB; intro HO365 HO368 BK358 BK359 HB; clear hb ho15; obtain ⟨hcz16_0, hcz16_1, hcz16_2, hcz16_3, hcz16_4, hfz16_0, hfz16_1, hfz16_2, hfz16_3, hfz16_4⟩ := bt5 BK358) | ((with_reducible refine gate_builtin (b := .append) (xs := #[.tmp 8, .tmp 10]) rfl ?_); at_builtin; refine Kd.R_append_rows (Kd.int .i64) (w0 := w) w.heap.size rfl (.tmp 8) (.tmp 10) 22 3 (.int .i64 0) 8 rfl Try.underlying22 info3 rfl (by decide) (by omega) v367 y366 l0_3 _ _ _ (fun _ => True) (fun _ => False) rfl rfl ?aO ?aR (fun _ _ h => h) (fun _ h => h.elim) ?aF ?aB ?aS ?aL ?_; (case aR => exact Kd.C_mv (Kd.C_below HR0_3.out HB.out)); (case aB => exact (bm HB)); (case aF => exact (fun _ _ => trivial)); (case aO => exact (Kd.R_mv HO368.out)); (case aS => exact (below_size (bm HB))); (case aL => have := LMc3.out; omega); intro v370 w17 ho hb hg hat; rw [← Ny369.out] at ho; refine ev5 (blk_grown (km_ BK358) hg (Kd.R_ne HO368.out BK358.out (by decide))) (blk_grown (km_ BK359) hg (Kd.R_ne HO368.out BK359.out (by decide))) (Kd.R_over' (Kd.R_mv HO365.out) (Kd.R_typed (Kd.R_mv HO368.out)) (by decide) hg) (hb) (ho) ?_; clear BK358 BK359 HO365 HB HO368; intro BK358 BK359 HO365 HB HO371; clear ho hb hg hat; obtain ⟨Ao18, co18, eo18⟩ := Kd.R_slice HO371.out; subst eo18; obtain ⟨hcz19_0, hcz19_1, hcz19_2, hcz19_3, hcz19_4, hfz19_0, hfz19_1, hfz19_2, hfz19_3, hfz19_4⟩ := bt5 BK358) | ((with_reducible refine gate_dst (N := 13) rfl ?_); refine Kd.R_lit (Kd.int .i64) _ 3 ?hg (N := 13) ?hd (xs := ([] : List Int)) (inner := []) (ok := fun _ => True) (okp := fun _ => True) ?hr ?hp (fun _ hk => hk) trivial (Below.refl _ _) (Nat.le_refl _) (by simp) ?_; (case hd => rfl); (case hg => rfl); (case hr => first | (go_simp; done) | (go_simp; rfl)); (case hp => exact (Reps.none _ _)); intro v373 w20 ho21 hb hg_ hnew_; clear hg_ hnew_; (first | rw [← Ny372.out] at ho21 | (simp only [Int.reduceToNat] at ho21; rw [← Ny372.out] at ho21)); refine ev6 (Kd.R_below (Kd.R_mv (Kd.R_mono (Kd.R_far (p := ⟨gb358, 3, none⟩) (Kd.R_types HO365.out BK358.out (by decide)) (fun _ hk => hk.2) (.slice Ao18 y369.length co18)) (fun _ h_ => h_.1))) hb) (Kd.R_elder' (Kd.R_mv (Kd.R_mono (Kd.R_far (p := ⟨gb358, 3, none⟩) (Kd.R_types HO371.out BK358.out (by decide)) (fun _ hk => hk.2) (.slice Ao18 y369.length co18)) (fun _ h_ => h_.1))) (Kd.R_base ho21) hb) (Kd.R_lower (Kd.R_new' ho21 (Kd.R_lt (Kd.R_mv (Kd.R_mono (Kd.R_far (p := ⟨gb358, 3, none⟩) (Kd.R_types HO371.out BK358.out (by decide)) (fun _ hk => hk.2) (.slice Ao18 y369.length co18)) (fun _ h_ => h_.1))))) (below_size (bm HB))) (blk_below (g := gb358) (o := .cells #[.int .i64 a0_0, .int .i64 a0_1, .slice Ao12 y363.length co12, .slice Ao18 y369.length co18, .slice A0_4 l0_4.length c0_4] 35 (0, 0)) (fp BK358 rfl) hb) (blk_below (g := gb359) (o := .cells #[.int .i64 0, .int .i64 0, .slice none 0 0, .slice none 0 0, .slice none 0 0] 35 (0, 0)) (fp BK359 rfl) hb) (bs HB hb) ?_; clear HO365 HO371 BK358 BK359 HB; intro HO365 HO371 HO374 BK358 BK359 HB; clear hb ho21; obtain ⟨hcz22_0, hcz22_1, hcz22_2, hcz22_3, hcz22_4, hfz22_0, hfz22_1, hfz22_2, hfz22_3, hfz22_4⟩ := bt5 BK358) | ((with_reducible refine gate_builtin (b := .append) (xs := #[.tmp 13, .tmp 15]) rfl ?_); at_builtin; refine Kd.R_append_rows (Kd.int .i64) (w0 := w) w.heap.size rfl (.tmp 13) (.tmp 15) 22 3 (.int .i64 0) 8 rfl Try.underlying22 info3 rfl (by decide) (by omega) v373 y372 l0_4 _ _ _ (fun k_ => some k_ ≠ (.slice Ao18 y369.length co18 : Value).ownBlock) (fun _ => False) rfl rfl ?aO ?aR (fun _ _ h => h) (fun _ h => h.elim) ?aF ?aB ?aS ?aL ?_; (case aR => exact Kd.C_mv (Kd.C_below HR0_4.out HB.out)); (case aB => exact (bm HB)); (case aF => exact (fun k_ hk => Kd.fresh' (Kd.R_lt (Kd.R_mv HO371.out)) k_ hk)); (case aO => exact (Kd.R_mv (Kd.R_mono HO374.out (fun _ hk => hk.2)))); (case aS => exact (below_size (bm HB))); (case aL => have := LMc4.out; omega); intro v376 w23 ho hb hg hat; rw [← Ny375.out] at ho; refine ev6 (blk_grown (km_ BK358) hg (Kd.R_ne HO374.out BK358.out (by decide))) (blk_grown (km_ BK359) hg (Kd.R_ne HO374.out BK359.out (by decide))) (Kd.R_over' (Kd.R_mv HO365.out) (Kd.R_typed (Kd.R_mv HO374.out)) (by decide) hg) (Kd.R_after (ok := (fun _ => True)) (Kd.R_mv HO371.out) hg hat) (hb) (ho) ?_; clear BK358 BK359 HO365 HO371 HB HO374; intro BK358 BK359 HO365 HO371 HB HO377; clear ho hb hg hat; obtain ⟨Ao24, co24, eo24⟩ := Kd.R_slice HO377.out; subst eo24; obtain ⟨hcz25_0, hcz25_1, hcz25_2, hcz25_3, hcz25_4, hfz25_0, hfz25_1, hfz25_2, hfz25_3, hfz25_4⟩ := bt5 BK358; obtain ⟨hcz26_0, hcz26_1, hcz26_2, hcz26_3, hcz26_4, hfz26_0, hfz26_1, hfz26_2, hfz26_3, hfz26_4⟩ := bt5 BK359))
    refine bodyPost_ret (results_cell_row rfl _ _ gb359 35 #[.int .i64 a0_0, .int .i64 a0_1, .slice Ao12 y363.length co12, .slice Ao18 y369.length co18, .slice Ao24 y375.length co24] (0, 0) _ rfl (fp BK359 rfl) Try.underlying35 rfl (by kernel_rfl)) rfl ?_
    exact ⟨_, _, _, by first | rfl | (simp [e0_, e1_] <;> rfl) | (simp [*, e0_, e1_] <;> rfl), Kd.R_mv (Kd.R_mono (ok' := fun k_ => True) (Kd.R_far (p := ⟨gb359, 4, none⟩) (Kd.R_far (p := ⟨gb359, 3, none⟩) (Kd.R_far (p := ⟨gb359, 2, none⟩) (Kd.R_far (p := ⟨gb359, 1, none⟩) (Kd.R_far (p := ⟨gb359, 0, none⟩) (Kd.R_far (p := ⟨gb358, 4, none⟩) (Kd.R_types (Kd.R_types HO365.out BK358.out (by decide)) BK359.out (by decide)) (fun _ hk => hk.1.2) (.slice Ao24 y375.length co24)) (fun _ hk => hk.2) (.int .i64 a0_0)) (fun _ hk => hk.2) (.int .i64 a0_1)) (fun _ hk => hk.2) (.slice Ao12 y363.length co12)) (fun _ hk => hk.2) (.slice Ao18 y369.length co18)) (fun _ hk => hk.2) (.slice Ao24 y375.length co24)) (fun _ hk => trivial)), Kd.R_mv (Kd.R_mono (Kd.R_far (p := ⟨gb359, 4, none⟩) (Kd.R_far (p := ⟨gb359, 3, none⟩) (Kd.R_far (p := ⟨gb359, 2, none⟩) (Kd.R_far (p := ⟨gb359, 1, none⟩) (Kd.R_far (p := ⟨gb359, 0, none⟩) (Kd.R_far (p := ⟨gb358, 4, none⟩) (Kd.R_types (Kd.R_types HO371.out BK358.out (by decide)) BK359.out (by decide)) (fun _ hk => hk.1.2) (.slice Ao24 y375.length co24)) (fun _ hk => hk.2) (.int .i64 a0_0)) (fun _ hk => hk.2) (.int .i64 a0_1)) (fun _ hk => hk.2) (.slice Ao12 y363.length co12)) (fun _ hk => hk.2) (.slice Ao18 y369.length co18)) (fun _ hk => hk.2) (.slice Ao24 y375.length co24)) (fun _ hk => hk.1.1.2)), Kd.R_mv (Kd.R_mono (Kd.R_far (p := ⟨gb359, 4, none⟩) (Kd.R_far (p := ⟨gb359, 3, none⟩) (Kd.R_far (p := ⟨gb359, 2, none⟩) (Kd.R_far (p := ⟨gb359, 1, none⟩) (Kd.R_far (p := ⟨gb359, 0, none⟩) (Kd.R_far (p := ⟨gb358, 4, none⟩) (Kd.R_types (Kd.R_types HO377.out BK358.out (by decide)) BK359.out (by decide)) (fun _ hk => hk.1.2) (.slice Ao24 y375.length co24)) (fun _ hk => hk.2) (.int .i64 a0_0)) (fun _ hk => hk.2) (.int .i64 a0_1)) (fun _ hk => hk.2) (.slice Ao12 y363.length co12)) (fun _ hk => hk.2) (.slice Ao18 y369.length co18)) (fun _ hk => hk.2) (.slice Ao24 y375.length co24)) (fun _ hk => hk.1.1)), bm HB⟩
   ·rw [if_neg c4] at H
    exact absurd H (by simp)
  ·rw [if_neg c3] at H
   exact absurd H (by simp)
 ·rw [if_neg c2] at H
  exact absurd H (by simp)

/-! ### impl_MirrorCell: function 72 -/
def impl_MirrorCell.f (a0_0 : Int) (a0_1 : Int) : Option (Int × Int × Bool) := (impl_IsCell.f a0_0 a0_1).bind fun t380 => (if t380 = true then (if a0_0 = 1 then (some (2, a0_1, true)) else (if a0_0 = 2 then (some (1, a0_1, true)) else (if a0_0 = 3 then (some (a0_0, wrap64 (1 - a0_1), true)) else (if a0_0 = 6 then (some (a0_0, wrap64 (1 - a0_1), true)) else (some (a0_0, a0_1, true)))))) else (some (0, 0, false)))
set_option maxHeartbeats 8000000 in
set_option maxRecDepth 100000 in
theorem impl_MirrorCell.calls (a0_0 : Int) (a0_1 : Int) (r1 : Int) (r2 : Int) (r3 : Bool) (w : World) (h : impl_MirrorCell.f a0_0 a0_1 = some (r1, r2, r3)) :
  Calls Try.prog 72 #[.agg #[.int .i64 a0_0, .int .i64 a0_1]] w fun e w' => e = .returned (.tuple #[.agg #[.int .i64 r1, .int .i64 r2], .bool r3]) ∧ Below w.heap.size w w' := by
 have HB := Aside0.mk (Below.refl w.heap.size w)
 have H : ((impl_IsCell.f a0_0 a0_1).bind fun t380 => (if t380 = true then (if a0_0 = 1 then (some (2, a0_1, true)) else (if a0_0 = 2 then (some (1, a0_1, true)) else (if a0_0 = 3 then (some (a0_0, wrap64 (1 - a0_1), true)) else (if a0_0 = 6 then (some (a0_0, wrap64 (1 - a0_1), true)) else (some (a0_0, a0_1, true)))))) else (some (0, 0, false)))) = some (r1, r2, r3) := h
 clear h
 replace H := Option.bind_eq_some_iff.mp H
 obtain ⟨t380, A20, H⟩ := H
 replace H : (if t380 = true then (if a0_0 = 1 then (some (2, a0_1, true)) else (if a0_0 = 2 then (some (1, a0_1, true)) else (if a0_0 = 3 then (some (a0_0, wrap64 (1 - a0_1), true)) else (if a0_0 = 6 then (some (a0_0, wrap64 (1 - a0_1), true)) else (some (a0_0, a0_1, true)))))) else (some (0, 0, false))) = some (r1, r2, r3) := H
 have A2 := Aside0.mk A20
 clear A20
 by_cases c3 : t380 = true
 ·subst c3
  have H1 : (if a0_0 = 1 then (some (2, a0_1, true)) else (if a0_0 = 2 then (some (1, a0_1, true)) else (if a0_0 = 3 then (some (a0_0, wrap64 (1 - a0_1), true)) else (if a0_0 = 6 then (some (a0_0, wrap64 (1 - a0_1), true)) else (some (a0_0, a0_1, true)))))) = some (r1, r2, r3) := by rw [if_pos rfl] at H; exact H
  clear H
  have H := H1
  clear H1
  by_cases c4 : a0_0 = 1
  ·rw [if_pos c4] at H
   have c4b0 : (a0_0 == 1) = true := beq_iff_eq.mpr c4
   have c4b1 : (a0_0 != 1) = false := bne_eq_false_iff_eq.mpr c4
   clear c4
   simp only [Option.some.injEq, Prod.mk.injEq] at H
   obtain ⟨rfl, rfl, rfl⟩ := H
   go_enter Try.func72, Try.ntmps72
   go_wp2_with (first | ((with_reducible refine gate_dst (N := 1) rfl ?_); refine box_event ?hg (N := 1) ?hd (cs := #[.int .i64 a0_0, .int .i64 a0_1]) (t := 78) ?hr ?_; (case hd => rfl); (case hg => rfl); (case hr => first | (go_simp; done) | (go_simp; rfl)); intro gb378 hg w5 hbox hb; refine ev4 (bs HB hb) (hbox) (gle hg HB) (gle hg HB) ?_; clear HB; intro HB BK378 GW378 GE378; clear hb hbox hg) | ((with_reducible refine gate_dst (N := 2) rfl ?_); refine box_event ?hg (N := 2) ?hd (cs := #[.int .i64 0, .int .i64 0]) (t := 78) ?hr ?_; (case hd => rfl); (case hg => rfl); (case hr => first | (go_simp; done) | (go_simp; rfl)); intro gb379 hg w6 hbox hb; refine ev7 (kb BK378 hb) (bs HB hb) (hbox) (gle hg HB) (gle hg HB) (gnf hg BK378) (gne hg BK378) ?_; clear BK378 HB; intro BK378 HB BK379 GW379 GE379 NB378_379 NB379_378; clear hb hbox hg; have hnb7 := NB378_379.out; have hnc7 := NB379_378.out; obtain ⟨hcz8_0, hcz8_1, hfz8_0, hfz8_1⟩ := bt2 BK378) | ((with_reducible refine gate_callee (f := 63) rfl ?_); refine goesL_ (some 5) rfl rfl Try.func63 (by kernel_rfl) rfl #[.agg #[.int .i64 a0_0, .int .i64 a0_1]] rfl (by (try simp only [ma_, mb_, mc_]); first | done | rfl | (simp only [List.length_drop, List.length_take]; rfl)) ?_; (with_reducible refine (impl_IsCell.calls a0_0 a0_1 true _ A2.out).mono ?_); rintro e w9 ⟨rfl, hb⟩; refine ⟨_, rfl, ?_⟩; refine ev3 (kb BK378 hb) (kb BK379 hb) (bs HB hb) ?_; clear BK378 BK379 HB; intro BK378 BK379 HB; (try clear hb); (try clear hb2); (try clear hk); (try clear hi); obtain ⟨hcz10_0, hcz10_1, hfz10_0, hfz10_1⟩ := bt2 BK378; obtain ⟨hcz11_0, hcz11_1, hfz11_0, hfz11_1⟩ := bt2 BK379))
   refine bodyPost_ret (results_ct rfl _ _ gb379 78 #[.int .i64 2, .int .i64 a0_1] (0, 0) _ rfl (fp BK379 rfl) Try.underlying78 rfl (by kernel_rfl)) rfl ?_
   exact ⟨by first | rfl | (simp [e0_, e1_] <;> rfl) | (simp [*, e0_, e1_] <;> rfl), bm HB⟩
  ·rw [if_neg c4] at H
   have c4b0 : (a0_0 == 1) = false := beq_eq_false_iff_ne.mpr c4
   have c4b1 : (a0_0 != 1) = true := bne_iff_ne.mpr c4
   by_cases c12 : a0_0 = 2
   ·rw [if_pos c12] at H
    have c12b0 : (a0_0 == 2) = true := beq_iff_eq.mpr c12
    have c12b1 : (a0_0 != 2) = false := bne_eq_false_iff_eq.mpr c12
    clear c12
    simp only [Option.some.injEq, Prod.mk.injEq] at H
    obtain ⟨rfl, rfl, rfl⟩ := H
    go_enter Try.func72, Try.ntmps72
    go_wp2_with (first | ((with_reducible refine gate_dst (N := 1) rfl ?_); refine box_event ?hg (N := 1) ?hd (cs := #[.int .i64 a0_0, .int .i64 a0_1]) (t := 78) ?hr ?_; (case hd => rfl); (case hg => rfl); (case hr => first | (go_simp; done) | (go_simp; rfl)); intro gb378 hg w13 hbox hb; refine ev4 (bs HB hb) (hbox) (gle hg HB) (gle hg HB) ?_; clear HB; intro HB BK378 GW378 GE378; clear hb hbox hg) | ((with_reducible refine gate_dst (N := 2) rfl ?_); refine box_event ?hg (N := 2) ?hd (cs := #[.int .i64 0, .int .i64 0]) (t := 78) ?hr ?_; (case hd => rfl); (case hg => rfl); (case hr => first | (go_simp; done) | (go_simp; rfl)); intro gb379 hg w14 hbox hb; refine ev7 (kb BK378 hb) (bs HB hb) (hbox) (gle hg HB) (gle hg HB) (gnf hg BK378) (gne hg BK378) ?_; clear BK378 HB; intro BK378 HB BK379 GW379 GE379 NB378_379 NB379_378; clear hb hbox hg; have hnb15 := NB378_379.out; have hnc15 := NB379_378.out; obtain ⟨hcz16_0, hcz16_1, hfz16_0, hfz16_1⟩ := bt2 BK378) | ((with_reducible refine gate_callee (f := 63) rfl ?_); refine goesL_ (some 5) rfl rfl Try.func63 (by kernel_rfl) rfl #[.agg #[.int .i64 a0_0, .int .i64 a0_1]] rfl (by (try simp only [ma_, mb_, mc_]); first | done | rfl | (simp only [List.length_drop, List.length_take]; rfl)) ?_; (with_reducible refine (impl_IsCell.calls a0_0 a0_1 true _ A2.out).mono ?_); rintro e w17 ⟨rfl, hb⟩; refine ⟨_, rfl, ?_⟩; refine ev3 (kb BK378 hb) (kb BK379 hb) (bs HB hb) ?_; clear BK378 BK379 HB; intro BK378 BK379 HB; (try clear hb); (try clear hb2); (try clear hk); (try clear hi); obtain ⟨hcz18_0, hcz18_1, hfz18_0, hfz18_1⟩ := bt2 BK378; obtain ⟨hcz19_0, hcz19_1, hfz19_0, hfz19_1⟩ := bt2 BK379))
    refine bodyPost_ret (results_ct rfl _ _ gb379 78 #[.int .i64 1, .int .i64 a0_1] (0, 0) _ rfl (fp BK379 rfl) Try.underlying78 rfl (by kernel_rfl)) rfl ?_
    exact ⟨by first | rfl | (simp [e0_, e1_] <;> rfl) | (simp [*, e0_, e1_] <;> rfl), bm HB⟩
   ·rw [if_neg c12] at H
    have c12b0 : (a0_0 == 2) = false := beq_eq_false_iff_ne.mpr c12
    have c12b1 : (a0_0 != 2) = true := bne_iff_ne.mpr c12
    by_cases c20 : a0_0 = 3
    ·rw [if_pos c20] at H
     have c20b0 : (a0_0 == 3) = true := beq_iff_eq.mpr c20
     have c20b1 : (a0_0 != 3) = false := bne_eq_false_iff_eq.mpr c20
     clear c20
     simp only [Option.some.injEq, Prod.mk.injEq] at H
     obtain ⟨rfl, rfl, rfl⟩ := H
     go_enter Try.func72, Try.ntmps72
     go_wp2_with (first | ((with_reducible refine gate_dst (N := 1) rfl ?_); refine box_event ?hg (N := 1) ?hd (cs := #[.int .i64 a0_0, .int .i64 a0_1]) (t := 78) ?hr ?_; (case hd => rfl); (case hg => rfl); (case hr => first | (go_simp; done) | (go_simp; rfl)); intro gb378 hg w21 hbox hb; refine ev4 (bs HB hb) (hbox) (gle hg HB) (gle hg HB) ?_; clear HB; intro HB BK378 GW378 GE378; clear hb hbox hg) | ((with_reducible refine gate_dst (N := 2) rfl ?_); refine box_event ?hg (N := 2) ?hd (cs := #[.int .i64 0, .int .i64 0]) (t := 78) ?hr ?_; (case hd => rfl); (case hg => rfl); (case hr => first | (go_simp; done) | (go_simp; rfl)); intro gb379 hg w22 hbox hb; refine ev7 (kb BK378 hb) (bs HB hb) (hbox) (gle hg HB) (gle hg HB) (gnf hg BK378) (gne hg BK378) ?_; clear BK378 HB; intro BK378 HB BK379 GW379 GE379 NB378_379 NB379_378; clear hb hbox hg; have hnb23 := NB378_379.out; have hnc23 := NB379_378.out; obtain ⟨hcz24_0, hcz24_1, hfz24_0, hfz24_1⟩ := bt2 BK378) | ((with_reducible refine gate_callee (f := 63) rfl ?_); refine goesL_ (some 5) rfl rfl Try.func63 (by kernel_rfl) rfl #[.agg #[.int .i64 a0_0, .int .i64 a0_1]] rfl (by (try simp only [ma_, mb_, mc_]); first | done | rfl | (simp only [List.length_drop, List.length_take]; rfl)) ?_; (with_reducible refine (impl_IsCell.calls a0_0 a0_1 true _ A2.out).mono ?_); rintro e w25 ⟨rfl, hb⟩; refine ⟨_, rfl, ?_⟩; refine ev3 (kb BK378 hb) (kb BK379 hb) (bs HB hb) ?_; clear BK378 BK379 HB; intro BK378 BK379 HB; (try clear hb); (try clear hb2); (try clear hk); (try clear hi); obtain ⟨hcz26_0, hcz26_1, hfz26_0, hfz26_1⟩ := bt2 BK378; obtain ⟨hcz27_0, hcz27_1, hfz27_0, hfz27_1⟩ := bt2 BK379))
     refine bodyPost_ret (results_ct rfl _ _ gb379 78 #[.int .i64 a0_0, .int .i64 (wrap64 (1 - a0_1))] (0, 0) _ rfl (fp BK379 rfl) Try.underlying78 rfl (by kernel_rfl)) rfl ?_
     exact ⟨by first | rfl | (simp [e0_, e1_] <;> rfl) | (simp [*, e0_, e1_] <;> rfl), bm HB⟩
    ·rw [if_neg c20] at H
     have c20b0 : (a0_0 == 3) = false := beq_eq_false_iff_ne.mpr c20
     have c20b1 : (a0_0 != 3) = true := bne_iff_ne.mpr c20
     by_cases c28 : a0_0 = 6
     ·rw [if_pos c28] at H
      have c28b0 : (a0_0 == 6) = true := beq_iff_eq.mpr c28
      have c28b1 : (a0_0 != 6) = false := bne_eq_false_iff_eq.mpr c28
      clear c28
      simp only [Option.some.injEq, Prod.mk.injEq] at H
      obtain ⟨rfl, rfl, rfl⟩ := H
      go_enter Try.func72, Try.ntmps72
      go_wp2_with (first | ((with_reducible refine gate_dst (N := 1) rfl ?_); refine box_event ?hg (N := 1) ?hd (cs := #[.int .i64 a0_0, .int .i64 a0_1]) (t := 78) ?hr ?_; (case hd => rfl); (case hg => rfl); (case hr => first | (go_simp; done) | (go_simp; rfl)); intro gb378 hg w29 hbox hb; refine ev4 (bs HB hb) (hbox) (gle hg HB) (gle hg HB) ?_; clear HB; intro HB BK378 GW378 GE378; clear hb hbox hg) | ((with_reducible refine gate_dst (N := 2) rfl ?_); refine box_event ?hg (N := 2) ?hd (cs := #[.int .i64 0, .int .i64 0]) (t := 78) ?hr ?_; (case hd => rfl); (case hg => rfl); (case hr => first | (go_simp; done) | (go_simp; rfl)); intro gb379 hg w30 hbox hb; refine ev7 (kb BK378 hb) (bs HB hb) (hbox) (gle hg HB) (gle hg HB) (gnf hg BK378) (gne hg BK378) ?_; clear BK378 HB; intro BK378 HB BK379 GW379 GE379 NB378_379 NB379_378; clear hb hbox hg; have hnb31 := NB378_379.out; have hnc31 := NB379_378.out; obtain ⟨hcz32_0, hcz32_1, hfz32_0, hfz32_1⟩ := bt2 BK378) | ((with_reducible refine gate_callee (f := 63) rfl ?_); refine goesL_ (some 5) rfl rfl Try.func63 (by kernel_rfl) rfl #[.agg #[.int .i64 a0_0, .int .i64 a0_1]] rfl (by (try simp only [ma_, mb_, mc_]); first | done | rfl | (simp only [List.length_drop, List.length_take]; rfl)) ?_; (with_reducible refine (impl_IsCell.calls a0_0 a0_1 true _ A2.out).mono ?_); rintro e w33 ⟨rfl, hb⟩; refine ⟨_, rfl, ?_⟩; refine ev3 (kb BK378 hb) (kb BK379 hb) (bs HB hb) ?_; clear BK378 BK379 HB; intro BK378 BK379 HB; (try clear hb); (try clear hb2); (try clear hk); (try clear hi); obtain ⟨hcz34_0, hcz34_1, hfz34_0, hfz34_1⟩ := bt2 BK378; obtain ⟨hcz35_0, hcz35_1, hfz35_0, hfz35_1⟩ := bt2 BK379))
      refine bodyPost_ret (results_ct rfl _ _ gb379 78 #[.int .i64 a0_0, .int .i64 (wrap64 (1 - a0_1))] (0, 0) _ rfl (fp BK379 rfl) Try.underlying78 rfl (by kernel_rfl)) rfl ?_
      exact ⟨by first | rfl | (simp [e0_, e1_] <;> rfl) | (simp [*, e0_, e1_] <;> rfl), bm HB⟩
     ·rw [if_neg c28] at H
      have c28b0 : (a0_0 == 6) = false := beq_eq_false_iff_ne.mpr c28
      have c28b1 : (a0_0 != 6) = true := bne_iff_ne.mpr c28
      simp only [Option.some.injEq, Prod.mk.injEq] at H
      obtain ⟨rfl, rfl, rfl⟩ := H
      go_enter Try.func72, Try.ntmps72
      go_wp2_with (first | ((with_reducible refine gate_dst (N := 1) rfl ?_); refine box_event ?hg (N := 1) ?hd (cs := #[.int .i64 a0_0, .int .i64 a0_1]) (t := 78) ?hr ?_; (case hd => rfl); (case hg => rfl); (case hr => first | (go_simp; done) | (go_simp; rfl)); intro gb378 hg w36 hbox hb; refine ev4 (bs HB hb) (hbox) (gle hg HB) (gle hg HB) ?_; clear HB; intro HB BK378 GW378 GE378; clear hb hbox hg) | ((with_reducible refine gate_dst (N := 2) rfl ?_); refine box_event ?hg (N := 2) ?hd (cs := #[.int .i64 0, .int .i64 0]) (t := 78) ?hr ?_; (case hd => rfl); (case hg => rfl); (case hr => first | (go_simp; done) | (go_simp; rfl)); intro gb379 hg w37 hbox hb; refine ev7 (kb BK378 hb) (bs HB hb) (hbox) (gle hg HB) (gle hg HB) (gnf hg BK378) (gne hg BK378) ?_; clear BK378 HB; intro BK378 HB BK379 GW379 GE379 NB378_379 NB379_378; clear hb hbox hg; have hnb38 := NB378_379.out; have hnc38 := NB379_378.out; obtain ⟨hcz39_0, hcz39_1, hfz39_0, hfz39_1⟩ := bt2 BK378) | ((with_reducible refine gate_callee (f := 63) rfl ?_); refine goesL_ (some 5) rfl rfl Try.func63 (by kernel_rfl) rfl #[.agg #[.int .i64 a0_0, .int .i64 a0_1]] rfl (by (try simp only [ma_, mb_, mc_]); first | done | rfl | (simp only [List.length_drop, List.length_take]; rfl)) ?_; (with_reducible refine (impl_IsCell.calls a0_0 a0_1 true _ A2.out).mono ?_); rintro e w40 ⟨rfl, hb⟩; refine ⟨_, rfl, ?_⟩; refine ev3 (kb BK378 hb) (kb BK379 hb) (bs HB hb) ?_; clear BK378 BK379 HB; intro BK378 BK379 HB; (try clear hb); (try clear hb2); (try clear hk); (try clear hi); obtain ⟨hcz41_0, hcz41_1, hfz41_0, hfz41_1⟩ := bt2 BK378; obtain ⟨hcz42_0, hcz42_1, hfz42_0, hfz42_1⟩ := bt2 BK379))
      refine bodyPost_ret (results_ct rfl _ _ gb379 78 #[.int .i64 a0_0, .int .i64 a0_1] (0, 0) _ rfl (fp BK379 rfl) Try.underlying78 rfl (by kernel_rfl)) rfl ?_
      exact ⟨by first | rfl | (simp [e0_, e1_] <;> rfl) | (simp [*, e0_, e1_] <;> rfl), bm HB⟩
 ·replace c3 := Bool.eq_false_iff.mpr c3
  subst c3
  have H1 : (some (0, 0, false)) = some (r1, r2, r3) := by rw [if_neg (show ¬ (false = true) by decide)] at H; exact H
  clear H
  have H := H1
  clear H1
  simp only [Option.some.injEq, Prod.mk.injEq] at H
  obtain ⟨rfl, rfl, rfl⟩ := H
  go_enter Try.func72, Try.ntmps72
  go_wp2_with (first | ((with_reducible refine gate_dst (N := 1) rfl ?_); refine box_event ?hg (N := 1) ?hd (cs := #[.int .i64 a0_0, .int .i64 a0_1]) (t := 78) ?hr ?_; (case hd => rfl); (case hg => rfl); (case hr => first | (go_simp; done) | (go_simp; rfl)); intro gb378 hg w43 hbox hb; refine ev4 (bs HB hb) (hbox) (gle hg HB) (gle hg HB) ?_; clear HB; intro HB BK378 GW378 GE378; clear hb hbox hg) | ((with_reducible refine gate_dst (N := 2) rfl ?_); refine box_event ?hg (N := 2) ?hd (cs := #[.int .i64 0, .int .i64 0]) (t := 78) ?hr ?_; (case hd => rfl); (case hg => rfl); (case hr => first | (go_simp; done) | (go_simp; rfl)); intro gb379 hg w44 hbox hb; refine ev7 (kb BK378 hb) (bs HB hb) (hbox) (gle hg HB) (gle hg HB) (gnf hg BK378) (gne hg BK378) ?_; clear BK378 HB; intro BK378 HB BK379 GW379 GE379 NB378_379 NB379_378; clear hb hbox hg; have hnb45 := NB378_379.out; have hnc45 := NB379_378.out; obtain ⟨hcz46_0, hcz46_1, hfz46_0, hfz46_1⟩ := bt2 BK378) | ((with_reducible refine gate_callee (f := 63) rfl ?_); refine goesL_ (some 5) rfl rfl Try.func63 (by kernel_rfl) rfl #[.agg #[.int .i64 a0_0, .int .i64 a0_1]] rfl (by (try simp only [ma_, mb_, mc_]); first | done | rfl | (simp only [List.length_drop, List.length_take]; rfl)) ?_; (with_reducible refine (impl_IsCell.calls a0_0 a0_1 false _ A2.out).mono ?_); rintro e w47 ⟨rfl, hb⟩; refine ⟨_, rfl, ?_⟩; refine ev3 (kb BK378 hb) (kb BK379 hb) (bs HB hb) ?_; clear BK378 BK379 HB; intro BK378 BK379 HB; (try clear hb); (try clear hb2); (try clear hk); (try clear hi); obtain ⟨hcz48_0, hcz48_1, hfz48_0, hfz48_1⟩ := bt2 BK379))
  refine bodyPost_ret (results_ct rfl _ _ gb379 78 #[.int .i64 0, .int .i64 0] (0, 0) _ rfl (fp BK379 rfl) Try.underlying78 rfl (by kernel_rfl)) rfl ?_
  exact ⟨by first | rfl | (simp [e0_, e1_] <;> rfl) | (simp [*, e0_, e1_] <;> rfl), bm HB⟩

/-! ### impl_MirrorChallenge: function 27 -/
mutual
def impl_MirrorChallenge.l0 : Nat → List (S78) → Int → Int → Int → Int → List (S78) → List Int → List Int → Int → Int → List (S78) → List Int → List Int → Option (Int × Int × (List (S78)) × List Int × List Int × Bool)
 | 0, _, _, _, _, _, _, _, _, _, _, _, _, _ => none
 | k + 1, x15, x16, x17, x382000, x382001, x382002, x382003, x382004, x396000, x396001, x396002, x396003, x396004 => if x17 < x16 then (if 0 ≤ x17 then (if x17 < (x15.length : Int) then ((impl_MirrorCell.f ((rd_T78 x15 x17).f0) ((rd_T78 x15 x17).f1)).bind fun bt398 => (if x17 < (x396002.length : Int) then (impl_MirrorChallenge.l0 k x15 x16 (wrap64 (x17 + 1)) x382000 x382001 x382002 x382003 x382004 x396000 x396001 (x396002.set (x17 : Int).toNat (⟨bt398.1, bt398.2.1⟩ : S78)) x396003 x396004) else (none))) else (none)) else (none)) else (impl_MirrorChallenge.l1 k (x382003.length : Int) 0 x382000 x382001 x382002 x382003 x382004 x396000 x396001 x396002 x396003 x396004)
def impl_MirrorChallenge.l1 : Nat → Int → Int → Int → Int → List (S78) → List Int → List Int → Int → Int → List (S78) → List Int → List Int → Option (Int × Int × (List (S78)) × List Int × List Int × Bool)
 | 0, _, _, _, _, _, _, _, _, _, _, _, _ => none
 | k + 1, x34, x35, x382000, x382001, x382002, x382003, x382004, x396000, x396001, x396002, x396003, x396004 => if x35 < x34 then (if 0 ≤ x35 then (if x35 < (x382003.length : Int) then (if x35 < (x396003.length : Int) then ((some (x396003.set (x35 : Int).toNat (wrap64 ((wrap64 (x382001 - 1)) - (rd x382003 x35))) : List Int)).bind fun y403 => (if x35 < (x382004.length : Int) then (if (rd x382004 x35) < x382001 then (if x35 < (x396004.length : Int) then (impl_MirrorChallenge.l1 k x34 (wrap64 (x35 + 1)) x382000 x382001 x382002 x382003 x382004 x396000 x396001 x396002 y403 (x396004.set (x35 : Int).toNat (wrap64 ((wrap64 (x382001 - 1)) - (rd x382004 x35))))) else (none)) else (impl_MirrorChallenge.l1 k x34 (wrap64 (x35 + 1)) x382000 x382001 x382002 x382003 x382004 x396000 x396001 x396002 y403 x396004)) else (none))) else (none)) else (none)) else (none)) else (some (x396000, x396001, x396002, x396003, x396004, true))
end
def impl_MirrorChallenge.f (k : Nat) (a0_0 : Int) (a0_1 : Int) (l0_2 : List (S78)) (l0_3 : List Int) (l0_4 : List Int) : Option (Int × Int × (List (S78)) × List Int × List Int × Bool) := (impl_isPlayed.f k a0_0 a0_1 l0_2 l0_3 l0_4).bind fun t383 => (if t383 = true then ((impl_copyChallenge.f a0_0 a0_1 l0_2 l0_3 l0_4).bind fun bt384 => (impl_MirrorChallenge.l0 k l0_2 (l0_2.length : Int) 0 a0_0 a0_1 l0_2 l0_3 l0_4 bt384.1 bt384.2.1 bt384.2.2.1 bt384.2.2.2.1 bt384.2.2.2.2)) else (some (0, 0, ([] : List (S78)), ([] : List Int), ([] : List Int), false)))
def impl_MirrorChallenge.T7 : Bool × List (List Nat × List Nat) := (true, [([], []), ([0], [0]), ([], []), ([], []), ([3], [3]), ([4], [4]), ([5], [5]), ([5], [5]), ([1, 2, 0, 1, 2, 3, 4, 5, 6], [1, 2]), ([8, 6, 4, 0, 1, 2, 3, 4, 5, 6], [6, 8])])
def impl_MirrorChallenge.B7 : List Nat := [0, 1, 0, 0, 8, 24, 56, 56, 127, 383]
theorem impl_MirrorChallenge.tab7 : rtab .any (opsOf Try.f27 7) = impl_MirrorChallenge.T7 := by kernel_rfl
theorem impl_MirrorChallenge.bits7 : waitsOk impl_MirrorChallenge.T7.2 impl_MirrorChallenge.B7 = true := by kernel_rfl
def impl_MirrorChallenge.T12 : Bool × List (List Nat × List Nat) := (true, [([], []), ([0], [0]), ([], []), ([], []), ([3], [3]), ([4], [4]), ([], []), ([6], [6]), ([], []), ([7, 8], [7, 8]), ([9], [9]), ([5, 10], [5, 10]), ([1, 2, 0, 1, 2, 3, 4, 5, 6, 7, 8, 9, 10, 11], [1, 2]), ([12, 11, 0, 1, 2, 3, 4, 5, 6, 7, 8, 9, 10, 11], [11, 12])])
def impl_MirrorChallenge.B12 : List Nat := [0, 1, 0, 0, 8, 24, 0, 64, 0, 448, 960, 2040, 4095, 8191]
theorem impl_MirrorChallenge.tab12 : rtab .any (opsOf Try.f27 12) = impl_MirrorChallenge.T12 := by kernel_rfl
theorem impl_MirrorChallenge.bits12 : waitsOk impl_MirrorChallenge.T12.2 impl_MirrorChallenge.B12 = true := by kernel_rfl
def impl_MirrorChallenge.T13 : Bool × List (List Nat × List Nat) := (true, [([], []), ([0], [0]), ([], []), ([1, 2], [1, 2]), ([3], [3]), ([], []), ([5], [5]), ([4, 6], [4, 6])])
def impl_MirrorChallenge.B13 : List Nat := [0, 1, 0, 7, 15, 0, 32, 127]
theorem impl_MirrorChallenge.tab13 : rtab .any (opsOf Try.f27 13) = impl_MirrorChallenge.T13 := by kernel_rfl
theorem impl_MirrorChallenge.bits13 : waitsOk impl_MirrorChallenge.T13.2 impl_MirrorChallenge.B13 = true := by kernel_rfl
def impl_MirrorChallenge.T14 : Bool × List (List Nat × List Nat) := (true, [([], []), ([0], [0]), ([], []), ([], []), ([3], [3]), ([4], [4]), ([], []), ([6], [6]), ([], []), ([7, 8], [7, 8]), ([9], [9]), ([5, 10], [5, 10]), ([1, 2, 0, 1, 2, 3, 4, 5, 6, 7, 8, 9, 10, 11], [1, 2]), ([12, 11, 0, 1, 2, 3, 4, 5, 6, 7, 8, 9, 10, 11], [11, 12])])
def impl_MirrorChallenge.B14 : List Nat := [0, 1, 0, 0, 8, 24, 0, 64, 0, 448, 960, 2040, 4095, 8191]
theorem impl_MirrorChallenge.tab14 : rtab .any (opsOf Try.f27 14) = impl_MirrorChallenge.T14 := by kernel_rfl
theorem impl_MirrorChallenge.bits14 : waitsOk impl_MirrorChallenge.T14.2 impl_MirrorChallenge.B14 = true := by kernel_rfl
set_option maxHeartbeats 8000000 in
set_option maxRecDepth 100000 in
theorem impl_MirrorChallenge.calls (k : Nat) (a0_0 : Int) (a0_1 : Int) (A0_2 : Option Addr) (c0_2 : Nat) (l0_2 : List (S78)) (A0_3 : Option Addr) (c0_3 : Nat) (l0_3 : List Int) (A0_4 : Option Addr) (c0_4 : Nat) (l0_4 : List Int) (r1 : Int) (r2 : Int) (r3 : List (S78)) (r4 : List Int) (r5 : List Int) (r6 : Bool) (w : World) (hr0_2 : Kd.C k78 w A0_2 l0_2.length l0_2) (hc0_2 : l0_2.length ≤ c0_2) (hr0_3 : Kd.C (Kd.int .i64) w A0_3 l0_3.length l0_3) (hc0_3 : l0_3.length ≤ c0_3) (hr0_4 : Kd.C (Kd.int .i64) w A0_4 l0_4.length l0_4) (hc0_4 : l0_4.length ≤ c0_4) (h : impl_MirrorChallenge.f k a0_0 a0_1 l0_2 l0_3 l0_4 = some (r1, r2, r3, r4, r5, r6)) :
  Calls Try.prog 27 #[.agg #[.int .i64 a0_0, .int .i64 a0_1, .slice A0_2 l0_2.length c0_2, .slice A0_3 l0_3.length c0_3, .slice A0_4 l0_4.length c0_4]] w fun e w' => ∃ v2_ v3_ v4_ : Value, e = .returned (.tuple #[.agg #[.int .i64 r1, .int .i64 r2, v2_, v3_, v4_], .bool r6]) ∧ Kd.R k78 78 w' w.heap.size (fun _ => True) v2_ r3 ∧ Kd.R (Kd.int .i64) 3 w' w.heap.size (fun k_ => some k_ ≠ (v4_ : Value).ownBlock) v3_ r4 ∧ Kd.R (Kd.int .i64) 3 w' w.heap.size (fun k_ => some k_ ≠ (v3_ : Value).ownBlock) v4_ r5 ∧ Below w.heap.size w w' := by
 have HR0_2 := Aside0.mk hr0_2
 have HC0_2 := Aside0.mk hc0_2
 clear hr0_2 hc0_2
 have HR0_3 := Aside0.mk hr0_3
 have HC0_3 := Aside0.mk hc0_3
 clear hr0_3 hc0_3
 have HR0_4 := Aside0.mk hr0_4
 have HC0_4 := Aside0.mk hc0_4
 clear hr0_4 hc0_4
 have HB := Aside0.mk (Below.refl w.heap.size w)
 have H : ((impl_isPlayed.f k a0_0 a0_1 l0_2 l0_3 l0_4).bind fun t383 => (if t383 = true then ((impl_copyChallenge.f a0_0 a0_1 l0_2 l0_3 l0_4).bind fun bt384 => (impl_MirrorChallenge.l0 k l0_2 (l0_2.length : Int) 0 a0_0 a0_1 l0_2 l0_3 l0_4 bt384.1 bt384.2.1 bt384.2.2.1 bt384.2.2.2.1 bt384.2.2.2.2)) else (some (0, 0, ([] : List (S78)), ([] : List Int), ([] : List Int), false)))) = some (r1, r2, r3, r4, r5, r6) := h
 clear h
 replace H := Option.bind_eq_some_iff.mp H
 obtain ⟨t383, A20, H⟩ := H
 replace H : (if t383 = true then ((impl_copyChallenge.f a0_0 a0_1 l0_2 l0_3 l0_4).bind fun bt384 => (impl_MirrorChallenge.l0 k l0_2 (l0_2.length : Int) 0 a0_0 a0_1 l0_2 l0_3 l0_4 bt384.1 bt384.2.1 bt384.2.2.1 bt384.2.2.2.1 bt384.2.2.2.2)) else (some (0, 0, ([] : List (S78)), ([] : List Int), ([] : List Int), false))) = some (r1, r2, r3, r4, r5, r6) := H
 have A2 := Aside0.mk A20
 clear A20
 by_cases c3 : t383 = true
 ·subst c3
  have H1 : ((impl_copyChallenge.f a0_0 a0_1 l0_2 l0_3 l0_4).bind fun bt384 => (impl_MirrorChallenge.l0 k l0_2 (l0_2.length : Int) 0 a0_0 a0_1 l0_2 l0_3 l0_4 bt384.1 bt384.2.1 bt384.2.2.1 bt384.2.2.2.1 bt384.2.2.2.2)) = some (r1, r2, r3, r4, r5, r6) := by rw [if_pos rfl] at H; exact H
  clear H
  have H := H1
  clear H1
  replace H := Option.bind_eq_some_iff.mp H
  obtain ⟨⟨t384, t385, t386, t389, t392⟩, A40, H⟩ := H
  replace H : (impl_MirrorChallenge.l0 k l0_2 (l0_2.length : Int) 0 a0_0 a0_1 l0_2 l0_3 l0_4 t384 t385 t386 t389 t392) = some (r1, r2, r3, r4, r5, r6) := H
  have A4 := Aside0.mk A40
  clear A40
  have H' := Aside0.mk H
  clear H
  go_enter Try.func27, Try.ntmps27
  go_wp2_with (first | ((with_reducible refine gate_dst (N := 1) rfl ?_); refine box_event ?hg (N := 1) ?hd (cs := #[.int .i64 a0_0, .int .i64 a0_1, .slice A0_2 l0_2.length c0_2, .slice A0_3 l0_3.length c0_3, .slice A0_4 l0_4.length c0_4]) (t := 35) ?hr ?_; (case hd => rfl); (case hg => rfl); (case hr => first | (go_simp; done) | (go_simp; rfl)); intro gb381 hg w5 hbox hb; refine ev4 (bs HB hb) (hbox) (gle hg HB) (gle hg HB) ?_; clear HB; intro HB BK381 GW381 GE381; clear hb hbox hg) | ((with_reducible refine gate_dst (N := 2) rfl ?_); refine box_event ?hg (N := 2) ?hd (cs := #[.int .i64 0, .int .i64 0, .slice none 0 0, .slice none 0 0, .slice none 0 0]) (t := 35) ?hr ?_; (case hd => rfl); (case hg => rfl); (case hr => first | (go_simp; done) | (go_simp; rfl)); intro gb382 hg w6 hbox hb; refine ev7 (kb BK381 hb) (bs HB hb) (hbox) (gle hg HB) (gle hg HB) (gnf hg BK381) (gne hg BK381) ?_; clear BK381 HB; intro BK381 HB BK382 GW382 GE382 NB381_382 NB382_381; clear hb hbox hg; have hnb7 := NB381_382.out; have hnc7 := NB382_381.out; obtain ⟨hcz8_0, hcz8_1, hcz8_2, hcz8_3, hcz8_4, hfz8_0, hfz8_1, hfz8_2, hfz8_3, hfz8_4⟩ := bt5 BK381) | ((with_reducible refine gate_callee (f := 70) rfl ?_); refine goesL_ (some 9) rfl rfl Try.func70 (by kernel_rfl) rfl #[.agg #[.int .i64 a0_0, .int .i64 a0_1, .slice A0_2 l0_2.length c0_2, .slice A0_3 l0_3.length c0_3, .slice A0_4 l0_4.length c0_4]] rfl (by (try simp only [ma_, mb_, mc_]); first | done | rfl | (simp only [List.length_drop, List.length_take]; rfl)) ?_; (with_reducible refine (impl_isPlayed.calls k a0_0 a0_1 _ _ l0_2 _ _ l0_3 _ _ l0_4 true _ (Kd.C_mv (Kd.C_below HR0_2.out HB.out)) HC0_2.out (Kd.C_mv (Kd.C_below HR0_3.out HB.out)) HC0_3.out (Kd.C_mv (Kd.C_below HR0_4.out HB.out)) HC0_4.out A2.out).mono ?_); rintro e w9 ⟨rfl, hb⟩; refine ⟨_, rfl, ?_⟩; refine ev3 (kb BK381 hb) (kb BK382 hb) (bs HB hb) ?_; clear BK381 BK382 HB; intro BK381 BK382 HB; (try clear hb); (try clear hb2); (try clear hk); (try clear hi); obtain ⟨hcz10_0, hcz10_1, hcz10_2, hcz10_3, hcz10_4, hfz10_0, hfz10_1, hfz10_2, hfz10_3, hfz10_4⟩ := bt5 BK381) | ((with_reducible refine gate_callee (f := 71) rfl ?_); refine goesL_ (some 13) rfl rfl Try.func71 (by kernel_rfl) rfl #[.agg #[.int .i64 a0_0, .int .i64 a0_1, .slice A0_2 l0_2.length c0_2, .slice A0_3 l0_3.length c0_3, .slice A0_4 l0_4.length c0_4]] rfl (by (try simp only [ma_, mb_, mc_]); first | done | rfl | (simp only [List.length_drop, List.length_take]; rfl)) ?_; (with_reducible refine (impl_copyChallenge.calls a0_0 a0_1 _ _ l0_2 _ _ l0_3 _ _ l0_4 t384 t385 t386 t389 t392 _ (Kd.C_mv (Kd.C_below HR0_2.out HB.out)) HC0_2.out (Kd.C_mv (Kd.C_below HR0_3.out HB.out)) HC0_3.out (Kd.C_mv (Kd.C_below HR0_4.out HB.out)) HC0_4.out A4.out).mono ?_); rintro e w11 ⟨v387, v390, v393, rfl, ho0, ho1, ho2, hb⟩; refine ⟨_, rfl, ?_⟩; refine ev6 (Kd.R_lower ho0 (below_size (bm HB))) (Kd.R_lower ho1 (below_size (bm HB))) (Kd.R_lower ho2 (below_size (bm HB))) (kb BK381 hb) (kb BK382 hb) (bs HB hb) ?_; clear BK381 BK382 HB; intro HO388 HO391 HO394 BK381 BK382 HB; (try clear hb); (try clear hb2); (try clear hk); (try clear hi); (try clear ho0); (try clear ho1); (try clear ho2)) | ((with_reducible refine gate_dst (N := 4) rfl ?_); refine box_event ?hg (N := 4) ?hd (cs := #[.int .i64 0, .int .i64 0, .slice none 0 0, .slice none 0 0, .slice none 0 0]) (t := 35) ?hr ?_; (case hd => rfl); (case hg => rfl); (case hr => first | (go_simp; done) | (go_simp; rfl)); intro gb395 hg w12 hbox hb; refine ev12 (Kd.R_below (Kd.R_mv HO388.out) hb) (Kd.R_below (Kd.R_mv HO391.out) hb) (Kd.R_below (Kd.R_mv HO394.out) hb) (kb BK381 hb) (kb BK382 hb) (bs HB hb) (hbox) (gle hg HB) (gle hg HB) (gnf hg BK381) (gne hg BK381) (gnf hg BK382) ?_; intro n0_ n1_ n2_ n3_ n4_ n5_ n6_ n7_ n8_ n9_ n10_ n11_; refine ev1 (gne hg BK382) ?_; intro n12_; clear HO388 HO391 HO394 BK381 BK382 HB; revert n0_ n1_ n2_ n3_ n4_ n5_ n6_ n7_ n8_ n9_ n10_ n11_ n12_; intro HO388 HO391 HO394 BK381 BK382 HB BK395 GW395 GE395 NB381_395 NB395_381 NB382_395 NB395_382; clear hb hbox hg; have hnb13 := NB395_381.out; have hnc13 := NB381_395.out; have hnb14 := NB395_382.out; have hnc14 := NB382_395.out; obtain ⟨hcz15_0, hcz15_1, hcz15_2, hcz15_3, hcz15_4, hfz15_0, hfz15_1, hfz15_2, hfz15_3, hfz15_4⟩ := bt5 BK395; obtain ⟨Ao16, co16, eo16⟩ := Kd.R_slice HO388.out; subst eo16; obtain ⟨Ao17, co17, eo17⟩ := Kd.R_slice HO391.out; subst eo17; obtain ⟨Ao18, co18, eo18⟩ := Kd.R_slice HO394.out; subst eo18; obtain ⟨hcz19_0, hcz19_1, hcz19_2, hcz19_3, hcz19_4, hfz19_0, hfz19_1, hfz19_2, hfz19_3, hfz19_4⟩ := bt5 BK381))
  go_loopg [17] k (fun kq v17 w' => ∃ (x17_1 : Int) (x396002_1 : List (S78)) (u396002 : Value), v17 = .int .i64 x17_1 ∧ Aside0 (impl_MirrorChallenge.l0 kq l0_2 (l0_2.length : Int) x17_1 a0_0 a0_1 l0_2 l0_3 l0_4 t384 t385 x396002_1 t389 t392 = some (r1, r2, r3, r4, r5, r6)) ∧ Aside0 (kq ≤ k) ∧ Aside0 (Kd.R k78 78 w' w.heap.size (fun _ => True) u396002 x396002_1) ∧ Aside0 (Kd.R (Kd.int .i64) 3 w' w.heap.size (fun k_ => some k_ ≠ ((.slice Ao18 t392.length co18) : Value).ownBlock) (.slice Ao17 t389.length co17) t389) ∧ Aside0 (Kd.R (Kd.int .i64) 3 w' w.heap.size (fun k_ => some k_ ≠ ((.slice Ao17 t389.length co17) : Value).ownBlock) (.slice Ao18 t392.length co18) t392) ∧ Aside0 (w'.heap[gb381]? = some (.cells #[.int .i64 a0_0, .int .i64 a0_1, (.slice A0_2 l0_2.length c0_2), (.slice A0_3 l0_3.length c0_3), (.slice A0_4 l0_4.length c0_4)] 35 (0, 0))) ∧ Aside0 (w'.heap[gb382]? = some (.cells #[.int .i64 0, .int .i64 0, (.slice none 0 0), (.slice none 0 0), (.slice none 0 0)] 35 (0, 0))) ∧ Aside0 (w'.heap[gb395]? = some (.cells #[.int .i64 t384, .int .i64 t385, u396002, (.slice Ao17 t389.length co17), (.slice Ao18 t392.length co18)] 35 (0, 0))) ∧ Aside0 (Below w.heap.size w w'))
  case atStart => exact ⟨(0), (t386), (.slice Ao16 t386.length co16), (by first | rfl | (simp; done) | (simp [*]; done)), H', ⟨Nat.le_refl _⟩, ⟨Kd.R_mv (Kd.R_mono (ok' := fun k_ => True) (Kd.R_far (p := ⟨gb395, 4, none⟩) (Kd.R_far (p := ⟨gb395, 3, none⟩) (Kd.R_far (p := ⟨gb395, 2, none⟩) (Kd.R_far (p := ⟨gb395, 1, none⟩) (Kd.R_far (p := ⟨gb395, 0, none⟩) (Kd.R_types HO388.out BK395.out (by decide)) (fun _ hk => hk.2) (.int .i64 t384)) (fun _ hk => hk.2) (.int .i64 t385)) (fun _ hk => hk.2) (.slice Ao16 t386.length co16)) (fun _ hk => hk.2) (.slice Ao17 t389.length co17)) (fun _ hk => hk.2) (.slice Ao18 t392.length co18)) (fun _ hk => trivial))⟩, ⟨Kd.R_mv (Kd.R_mono (Kd.R_far (p := ⟨gb395, 4, none⟩) (Kd.R_far (p := ⟨gb395, 3, none⟩) (Kd.R_far (p := ⟨gb395, 2, none⟩) (Kd.R_far (p := ⟨gb395, 1, none⟩) (Kd.R_far (p := ⟨gb395, 0, none⟩) (Kd.R_types HO391.out BK395.out (by decide)) (fun _ hk => hk.2) (.int .i64 t384)) (fun _ hk => hk.2) (.int .i64 t385)) (fun _ hk => hk.2) (.slice Ao16 t386.length co16)) (fun _ hk => hk.2) (.slice Ao17 t389.length co17)) (fun _ hk => hk.2) (.slice Ao18 t392.length co18)) (fun _ hk => hk.1))⟩, ⟨Kd.R_mv (Kd.R_mono (Kd.R_far (p := ⟨gb395, 4, none⟩) (Kd.R_far (p := ⟨gb395, 3, none⟩) (Kd.R_far (p := ⟨gb395, 2, none⟩) (Kd.R_far (p := ⟨gb395, 1, none⟩) (Kd.R_far (p := ⟨gb395, 0, none⟩) (Kd.R_types HO394.out BK395.out (by decide)) (fun _ hk => hk.2) (.int .i64 t384)) (fun _ hk => hk.2) (.int .i64 t385)) (fun _ hk => hk.2) (.slice Ao16 t386.length co16)) (fun _ hk => hk.2) (.slice Ao17 t389.length co17)) (fun _ hk => hk.2) (.slice Ao18 t392.length co18)) (fun _ hk => hk.1))⟩, ⟨fp BK381 rfl⟩, ⟨fp BK382 rfl⟩, ⟨fp BK395 rfl⟩, ⟨bm HB⟩⟩
  case round =>
   clear H'
   try clear c1
   try clear c2
   try clear p2
   try clear c3
   try clear c7
   try clear c13
   try clear c14
   try clear hcz10_0
   try clear hcz10_1
   try clear hcz10_2
   try clear hcz10_3
   try clear hcz10_4
   try clear hcz15_0
   try clear hcz15_1
   try clear hcz15_2
   try clear hcz15_3
   try clear hcz15_4
   try clear hcz19_0
   try clear hcz19_1
   try clear hcz19_2
   try clear hcz19_3
   try clear hcz19_4
   try clear hcz8_0
   try clear hcz8_1
   try clear hcz8_2
   try clear hcz8_3
   try clear hcz8_4
   try clear hfz10_0
   try clear hfz10_1
   try clear hfz10_2
   try clear hfz10_3
   try clear hfz10_4
   try clear hfz15_0
   try clear hfz15_1
   try clear hfz15_2
   try clear hfz15_3
   try clear hfz15_4
   try clear hfz19_0
   try clear hfz19_1
   try clear hfz19_2
   try clear hfz19_3
   try clear hfz19_4
   try clear hfz8_0
   try clear hfz8_1
   try clear hfz8_2
   try clear hfz8_3
   try clear hfz8_4
   obtain ⟨x17_1, x396002_1, u396002, rfl, HA, HK1, HO_396002, HO_396003, HO_396004, BK381, BK382, BK395, HB⟩ := hrel
   cases gk with
   | zero => exact absurd HA.out (by simp [impl_MirrorChallenge.l0])
   | succ k1 =>
    have H := HA.out
    clear HA
    simp only [impl_MirrorChallenge.l0] at H
    by_cases c20 : x17_1 < (l0_2.length : Int)
    ·rw [if_pos c20] at H
     have c20b0 : decide (x17_1 < (l0_2.length : Int)) = true := decide_eq_true c20
     clear c20
     by_cases c21 : 0 ≤ x17_1
     ·rw [if_pos c21] at H
      have c21b0 : decide (0 ≤ x17_1) = true := decide_eq_true c21
      clear c21
      by_cases c22 : x17_1 < (l0_2.length : Int)
      ·rw [if_pos c22] at H
       have c22b0 : decide (x17_1 < (l0_2.length : Int)) = true := decide_eq_true c22
       clear c22
       replace H := Option.bind_eq_some_iff.mp H
       obtain ⟨⟨t398, t399, t400⟩, A230, H⟩ := H
       replace H : (if x17_1 < (x396002_1.length : Int) then (impl_MirrorChallenge.l0 k1 l0_2 (l0_2.length : Int) (wrap64 (x17_1 + 1)) a0_0 a0_1 l0_2 l0_3 l0_4 t384 t385 (x396002_1.set (x17_1 : Int).toNat (⟨t398, t399⟩ : S78)) t389 t392) else (none)) = some (r1, r2, r3, r4, r5, r6) := H
       have A23 := Aside0.mk A230
       clear A230
       by_cases c24 : x17_1 < (x396002_1.length : Int)
       ·rw [if_pos c24] at H
        have c24b0 : decide (x17_1 < (x396002_1.length : Int)) = true := decide_eq_true c24
        clear c24
        obtain ⟨y401, hy401⟩ : ∃ y_ : List (S78), y_ = (x396002_1.set (x17_1 : Int).toNat (⟨t398, t399⟩ : S78)) := ⟨_, rfl⟩
        replace H : (impl_MirrorChallenge.l0 k1 l0_2 (l0_2.length : Int) (wrap64 (x17_1 + 1)) a0_0 a0_1 l0_2 l0_3 l0_4 t384 t385 y401 t389 t392) = some (r1, r2, r3, r4, r5, r6) := by first | (rw [hy401]; with_reducible exact H) | (have H2_ := (Option.bind_some _ _).symm.trans H; rw [hy401]; with_reducible exact H2_) | (have H2_ := (Option.bind_some _ _).symm.trans H; with_reducible exact H2_) | with_reducible exact H | (rw [hy401]; exact H) | exact H
        have Ny401 := Aside0.mk hy401
        clear hy401
        have H' := Aside0.mk H
        clear H
        have p396 : 0 ≤ (x17_1 : Int) := of_decide_eq_true (by first | (with_reducible assumption) | assumption)
        have q396 : x17_1 < (l0_2.length : Int) := of_decide_eq_true (by first | (with_reducible assumption) | assumption)
        obtain ⟨ad396, e396, hx396_0, hx396_1⟩ := at_T78 HR0_2.out x17_1 p396 q396
        cases e396
        replace hx396_0 := (HB.out.cell (World.block_lt_of_cell? w _ hx396_0)).trans hx396_0
        replace hx396_1 := (HB.out.cell (World.block_lt_of_cell? w _ hx396_1)).trans hx396_1
        replace p396 := eq_true p396
        replace q396 := eq_true q396
        try go_wp2_with (first | ((with_reducible refine gate_dst (N := 6) rfl ?_); refine box_event ?hg (N := 6) ?hd (cs := #[.int .i64 0, .int .i64 0]) (t := 78) ?hr ?_; (case hd => rfl); (case hg => rfl); (case hr => first | (go_simp; done) | (go_simp; rfl)); intro gb397 hg w26 hbox hb; refine ev12 (Kd.R_below (Kd.R_elderB (Kd.R_mv HO_396002.out) gb397 (Nat.le_of_eq hg.symm)) hb) (Kd.R_below (Kd.R_mv HO_396003.out) hb) (Kd.R_below (Kd.R_mv HO_396004.out) hb) (kb BK381 hb) (kb BK382 hb) (kb BK395 hb) (bs HB hb) (hbox) (gle hg HB) (gle hg HB) (gnf hg BK381) (gne hg BK381) ?_; intro n0_ n1_ n2_ n3_ n4_ n5_ n6_ n7_ n8_ n9_ n10_ n11_; refine ev4 (gnf hg BK382) (gne hg BK382) (gnf hg BK395) (gne hg BK395) ?_; intro n12_ n13_ n14_ n15_; clear HO_396002 HO_396003 HO_396004 BK381 BK382 BK395 HB; revert n0_ n1_ n2_ n3_ n4_ n5_ n6_ n7_ n8_ n9_ n10_ n11_ n12_ n13_ n14_ n15_; intro HO_396002 HO_396003 HO_396004 BK381 BK382 BK395 HB BK397 GW397 GE397 NB381_397 NB397_381 NB382_397 NB397_382 NB395_397 NB397_395; clear hb hbox hg; have hnb27 := NB397_381.out; have hnc27 := NB381_397.out; have hnb28 := NB397_382.out; have hnc28 := NB382_397.out; have hnb29 := NB397_395.out; have hnc29 := NB395_397.out; obtain ⟨hcz30_0, hcz30_1, hfz30_0, hfz30_1⟩ := bt2 BK397))
        have n0_ : Aside0 (Kd.R k78 78 ((w26.setCell ⟨gb397, 0, none⟩ (.int .i64 ((rd_T78 l0_2 x17_1).f0))).setCell ⟨gb397, 1, none⟩ (.int .i64 ((rd_T78 l0_2 x17_1).f1))) w.heap.size (fun k_ => k_ ≠ gb397) u396002 x396002_1) := ⟨Kd.R_mv (Kd.R_mono (ok' := fun k_ => k_ ≠ gb397) (Kd.R_far (p := ⟨gb397, 1, none⟩) (Kd.R_far (p := ⟨gb397, 0, none⟩) (Kd.R_mono HO_396002.out (fun k_ hk => (⟨hk, hk.2⟩ : _ ∧ k_ ≠ gb397))) (fun _ hk => hk.2) (.int .i64 ((rd_T78 l0_2 x17_1).f0))) (fun _ hk => hk.2) (.int .i64 ((rd_T78 l0_2 x17_1).f1))) (fun _ hk => hk.1.2))⟩
        have n1_ : Aside0 (Kd.R (Kd.int .i64) 3 ((w26.setCell ⟨gb397, 0, none⟩ (.int .i64 ((rd_T78 l0_2 x17_1).f0))).setCell ⟨gb397, 1, none⟩ (.int .i64 ((rd_T78 l0_2 x17_1).f1))) w.heap.size (fun k_ => some k_ ≠ (.slice Ao18 t392.length co18 : Value).ownBlock) (.slice Ao17 t389.length co17) t389) := ⟨Kd.R_mv (Kd.R_mono (Kd.R_far (p := ⟨gb397, 1, none⟩) (Kd.R_far (p := ⟨gb397, 0, none⟩) (Kd.R_types HO_396003.out BK397.out (by decide)) (fun _ hk => hk.2) (.int .i64 ((rd_T78 l0_2 x17_1).f0))) (fun _ hk => hk.2) (.int .i64 ((rd_T78 l0_2 x17_1).f1))) (fun _ hk => hk.1))⟩
        have n2_ : Aside0 (Kd.R (Kd.int .i64) 3 ((w26.setCell ⟨gb397, 0, none⟩ (.int .i64 ((rd_T78 l0_2 x17_1).f0))).setCell ⟨gb397, 1, none⟩ (.int .i64 ((rd_T78 l0_2 x17_1).f1))) w.heap.size (fun k_ => some k_ ≠ (.slice Ao17 t389.length co17 : Value).ownBlock) (.slice Ao18 t392.length co18) t392) := ⟨Kd.R_mv (Kd.R_mono (Kd.R_far (p := ⟨gb397, 1, none⟩) (Kd.R_far (p := ⟨gb397, 0, none⟩) (Kd.R_types HO_396004.out BK397.out (by decide)) (fun _ hk => hk.2) (.int .i64 ((rd_T78 l0_2 x17_1).f0))) (fun _ hk => hk.2) (.int .i64 ((rd_T78 l0_2 x17_1).f1))) (fun _ hk => hk.1))⟩
        have n3_ : Aside0 (((w26.setCell ⟨gb397, 0, none⟩ (.int .i64 ((rd_T78 l0_2 x17_1).f0))).setCell ⟨gb397, 1, none⟩ (.int .i64 ((rd_T78 l0_2 x17_1).f1))).heap[gb381]? = some (.cells #[.int .i64 a0_0, .int .i64 a0_1, .slice (some ad396) l0_2.length c0_2, .slice A0_3 l0_3.length c0_3, .slice A0_4 l0_4.length c0_4] 35 (0, 0))) := ⟨fp BK381 rfl⟩
        have n4_ : Aside0 (((w26.setCell ⟨gb397, 0, none⟩ (.int .i64 ((rd_T78 l0_2 x17_1).f0))).setCell ⟨gb397, 1, none⟩ (.int .i64 ((rd_T78 l0_2 x17_1).f1))).heap[gb382]? = some (.cells #[.int .i64 0, .int .i64 0, .slice none 0 0, .slice none 0 0, .slice none 0 0] 35 (0, 0))) := ⟨fp BK382 rfl⟩
        have n5_ : Aside0 (((w26.setCell ⟨gb397, 0, none⟩ (.int .i64 ((rd_T78 l0_2 x17_1).f0))).setCell ⟨gb397, 1, none⟩ (.int .i64 ((rd_T78 l0_2 x17_1).f1))).heap[gb395]? = some (.cells #[.int .i64 t384, .int .i64 t385, u396002, .slice Ao17 t389.length co17, .slice Ao18 t392.length co18] 35 (0, 0))) := ⟨fp BK395 rfl⟩
        have n6_ : Aside0 (((w26.setCell ⟨gb397, 0, none⟩ (.int .i64 ((rd_T78 l0_2 x17_1).f0))).setCell ⟨gb397, 1, none⟩ (.int .i64 ((rd_T78 l0_2 x17_1).f1))).heap[gb397]? = some (.cells #[.int .i64 ((rd_T78 l0_2 x17_1).f0), .int .i64 ((rd_T78 l0_2 x17_1).f1)] 78 (0, 0))) := ⟨fp BK397 rfl⟩
        have n7_ : Aside0 (Below w.heap.size w ((w26.setCell ⟨gb397, 0, none⟩ (.int .i64 ((rd_T78 l0_2 x17_1).f0))).setCell ⟨gb397, 1, none⟩ (.int .i64 ((rd_T78 l0_2 x17_1).f1)))) := ⟨bm HB⟩
        (try clear HO_396002)
        (try clear HO_396003)
        (try clear HO_396004)
        (try clear BK381)
        (try clear BK382)
        (try clear BK395)
        (try clear BK397)
        (try clear HB)
        generalize ((w26.setCell ⟨gb397, 0, none⟩ (.int .i64 ((rd_T78 l0_2 x17_1).f0))).setCell ⟨gb397, 1, none⟩ (.int .i64 ((rd_T78 l0_2 x17_1).f1))) = w31 at n0_ n1_ n2_ n3_ n4_ n5_ n6_ n7_ ⊢
        have HO_396002 := n0_
        have HO_396003 := n1_
        have HO_396004 := n2_
        have BK381 := n3_
        have BK382 := n4_
        have BK395 := n5_
        have BK397 := n6_
        have HB := n7_
        clear n0_ n1_ n2_ n3_ n4_ n5_ n6_ n7_
        refine ev8 (Kd.R_drew HO_396002.out) (Kd.R_drew HO_396003.out) (Kd.R_drew HO_396004.out) (blk_drew BK381.out) (blk_drew BK382.out) (blk_drew BK395.out) (blk_drew BK397.out) (below_drew1 HB.out) ?_
        clear HO_396002 HO_396003 HO_396004 BK381 BK382 BK395 BK397 HB
        intro HO_396002 HO_396003 HO_396004 BK381 BK382 BK395 BK397 HB
        refine start_ (n := 10) (S := fun w' => w'.cell? ⟨gb395, 0, none⟩ = some (.int .i64 t384) ∧ w'.cell? ⟨gb395, 1, none⟩ = some (.int .i64 t385) ∧ w'.cell? ⟨gb395, 2, none⟩ = some (u396002) ∧ w'.cell? ⟨gb395, 3, none⟩ = some (.slice Ao17 t389.length co17) ∧ w'.cell? ⟨gb395, 4, none⟩ = some (.slice Ao18 t392.length co18) ∧ w'.cell? ⟨gb397, 0, none⟩ = some (.int .i64 ((rd_T78 l0_2 x17_1).f0)) ∧ w'.cell? ⟨gb397, 1, none⟩ = some (.int .i64 ((rd_T78 l0_2 x17_1).f1))) (ds := [9]) #[false, false, false, false, false, false, false, false, false, false] (by kernel_rfl) rfl rfl ⟨(blk_cell BK395.out 0).trans rfl, (blk_cell BK395.out 1).trans rfl, (blk_cell BK395.out 2).trans rfl, (blk_cell BK395.out 3).trans rfl, (blk_cell BK395.out 4).trans rfl, (blk_cell BK397.out 0).trans rfl, (blk_cell BK397.out 1).trans rfl⟩ (fun hHeld => ?_); refine with_tabW impl_MirrorChallenge.tab7 impl_MirrorChallenge.bits7 (fun HT_ HW_ => ?_)
        generalize w31.drew = w32 at HO_396002 HO_396003 HO_396004 BK381 BK382 BK395 BK397 HB hHeld ⊢
        refine pure_ (i := 0) (N := some 23) (v := ?_) (a' := ?_) #[true, false, false, false, false, false, false, false, false, false] rfl rfl (any_of HT_.out (by kernel_rfl)) (fun _ _ _ h => h) (Or.inl ⟨by rfl, ?_⟩) ?_ ?_
        rotate_left
        ·intro w'
         go_simp
         with_reducible rfl
        rotate_left
        ·simp only [Act.put, za_, zb_, zc_, i64_w, i32_w]
         rfl
        refine pure_ (i := 2) (N := some 25) (v := ?_) (a' := ?_) #[true, false, true, false, false, false, false, false, false, false] rfl rfl (any_of HT_.out (by kernel_rfl)) (fun _ _ _ h => h) (Or.inl ⟨by rfl, ?_⟩) ?_ ?_
        rotate_left
        ·intro w'
         go_simp
         with_reducible rfl
        rotate_left
        ·simp only [Act.put, za_, zb_, zc_, i64_w, i32_w]
         rfl
        refine take_ (i := 1) (N := some 24) (v := ?_) (a' := ?_) #[true, true, true, false, false, false, false, false, false, false] rfl rfl (take_ofW HT_.out HW_.out (by kernel_rfl)) (fun _ _ _ h => h) (Or.inl ⟨by rfl, ?_⟩) hHeld ?_ ?_
        rotate_left
        ·rintro w' ⟨s0, s1, s2, s3, s4, s5, s6⟩
         go_simp
         with_reducible rfl
        rotate_left
        ·simp only [Act.put, za_, zb_, zc_, i64_w, i32_w]
         rfl
        refine take_ (i := 3) (N := some 26) (v := ?_) (a' := ?_) #[true, true, true, true, false, false, false, false, false, false] rfl rfl (take_ofW HT_.out HW_.out (by kernel_rfl)) (fun _ _ _ h => h) (Or.inl ⟨by rfl, ?_⟩) hHeld ?_ ?_
        rotate_left
        ·rintro w' ⟨s0, s1, s2, s3, s4, s5, s6⟩
         go_simp
         with_reducible rfl
        rotate_left
        ·simp only [Act.put, za_, zb_, zc_, i64_w, i32_w]
         rfl
        refine one_ (i := 4) (N := some 27) #[true, true, true, true, true, false, false, false, false, false] rfl rfl (one_of HT_.out (by kernel_rfl)) (by decide) (fun K hK => ?_)
        refine goes_ Try.func72 (by kernel_rfl) rfl #[.agg #[.int .i64 ((rd_T78 l0_2 x17_1).f0), .int .i64 ((rd_T78 l0_2 x17_1).f1)]] (by rfl) rfl rfl (by (try simp only [ma_, mb_, mc_]); first | done | rfl | (simp only [List.length_drop, List.length_take]; rfl)) ?_
        with_reducible refine (impl_MirrorCell.calls ((rd_T78 l0_2 x17_1).f0) ((rd_T78 l0_2 x17_1).f1) t398 t399 t400 _ A23.out).mono ?_
        rintro e w33 ⟨rfl, hb⟩
        refine ⟨_, rfl, ?_⟩
        refine ev8 (Kd.R_below (Kd.R_mv HO_396002.out) hb) (Kd.R_below (Kd.R_mv HO_396003.out) hb) (Kd.R_below (Kd.R_mv HO_396004.out) hb) (kb BK381 hb) (kb BK382 hb) (kb BK395 hb) (kb BK397 hb) (bs HB hb) ?_
        clear HO_396002 HO_396003 HO_396004 BK381 BK382 BK395 BK397 HB
        intro HO_396002 HO_396003 HO_396004 BK381 BK382 BK395 BK397 HB
        (try clear hb)
        (try clear hb2)
        (try clear hk)
        (try clear hi)
        have p25 : 0 ≤ (x17_1 : Int) := of_decide_eq_true (by first | (with_reducible assumption) | assumption)
        have q25 : (x17_1 : Int) < ((x396002_1.length : Int) : Int) := of_decide_eq_true (by first | (with_reducible assumption) | assumption)
        obtain ⟨go25, co25, eo25, gb25, gl25, cl25, HG25⟩ := Kd.R_form HO_396002.out (by omega)
        (first | cases eo25 | (injection eo25 with ea_ en_ ec_; (first | subst ea_ | (injection ea_ with ea_; subst ea_)); subst ec_; clear en_))
        have GB25 := Aside0.mk gb25
        have GG25 := Aside0.mk HG25
        clear gb25 gl25 HG25
        obtain ⟨ce25, hcl25, hM25, hcc25, hfr25⟩ := Kd.R_elem HO_396002.out z78 (x17_1 : Int) p25 q25
        obtain rfl := k78_openM hM25
        have hx25_0 : World.cell? _ ⟨go25, (x17_1 : Int).toNat * 2, none⟩ = some (.int .i64 ((rd_T78 x396002_1 x17_1).f0)) := hcc25 0 _ rfl
        have hx25_1 : World.cell? _ ⟨go25, (x17_1 : Int).toNat * 2 + 1, none⟩ = some (.int .i64 ((rd_T78 x396002_1 x17_1).f1)) := hcc25 1 _ rfl
        have hf25_0 : World.frozen? _ ⟨go25, (x17_1 : Int).toNat * 2, none⟩ = false := hfr25 0
        have hf25_1 : World.frozen? _ ⟨go25, (x17_1 : Int).toNat * 2 + 1, none⟩ = false := hfr25 1
        clear hcl25 hcc25 hfr25 hM25
        replace p25 := eq_true p25
        replace q25 := eq_true q25
        obtain ⟨ce34, hcl34, hM34, hcc34, hfr34⟩ := Kd.R_elem HO_396002.out z78 (x17_1 : Int) (of_decide_eq_true (by first | (with_reducible assumption) | assumption)) (by have h_ : (x17_1 : Int) < ((x396002_1.length : Int) : Int) := of_decide_eq_true (by first | (with_reducible assumption) | assumption); first | exact h_ | (have e_ := (Kd.R_reads' HO_396002.out).1; omega) | simpa using h_)
        obtain rfl := k78_openM hM34
        have HP34 := (Kd.R_seg HO_396002.out (x17_1 : Int) (of_decide_eq_true (by first | (with_reducible assumption) | assumption)) (by have h_ : (x17_1 : Int) < ((x396002_1.length : Int) : Int) := of_decide_eq_true (by first | (with_reducible assumption) | assumption); first | exact h_ | (have e_ := (Kd.R_reads' HO_396002.out).1; omega) | simpa using h_) (seg := [.int .i64 t398, .int .i64 t399]) (j := 0) hcl34 hcc34 (show 2 ≤ 2 from by decide) (x' := (⟨t398, t399⟩ : S78)) (k78_mkM _ _ _ (⟨t398, t399⟩ : S78) ) (fun _ hk => hk)).1
        rw [← Ny401.out] at HP34
        have HQ34 := Aside0.mk HP34
        clear hcl34 hcc34 hfr34 hM34 HP34
        refine hK.out _ _ ⟨(blk_cell BK395.out 0).trans rfl, (blk_cell BK395.out 1).trans rfl, (blk_cell BK395.out 2).trans rfl, (blk_cell BK395.out 3).trans rfl, (blk_cell BK395.out 4).trans rfl, (blk_cell BK397.out 0).trans rfl, (blk_cell BK397.out 1).trans rfl⟩ (fun hHeld => ?_)
        clear hK K
        refine norm_ (a' := ?_) ?_ ?_
        rotate_left
        ·show Act.put _ (some 27) _ = _
         simp only [Act.put, za_, zb_, zc_, i64_w, i32_w]
         rfl
        refine pure_ (i := 5) (N := some 22) (v := ?_) (a' := ?_) #[true, true, true, true, true, true, false, false, false, false] rfl rfl (any_of HT_.out (by kernel_rfl)) (fun _ _ _ h => h) (Or.inl ⟨by rfl, ?_⟩) ?_ ?_
        rotate_left
        ·intro w'
         go_simp
         with_reducible rfl
        rotate_left
        ·simp only [Act.put, za_, zb_, zc_, i64_w, i32_w]
         rfl
        refine pure_ (i := 6) (N := some 28) (v := ?_) (a' := ?_) #[true, true, true, true, true, true, true, false, false, false] rfl rfl (any_of HT_.out (by kernel_rfl)) (fun _ _ _ h => h) (Or.inl ⟨by rfl, ?_⟩) ?_ ?_
        rotate_left
        ·intro w'
         go_simp
         with_reducible rfl
        rotate_left
        ·simp only [Act.put, za_, zb_, zc_, i64_w, i32_w]
         rfl
        refine pure_ (i := 7) (N := some 29) (v := ?_) (a' := ?_) #[true, true, true, true, true, true, true, true, false, false] rfl rfl (any_of HT_.out (by kernel_rfl)) (fun _ _ _ h => h) (Or.inl ⟨by rfl, ?_⟩) ?_ ?_
        rotate_left
        ·intro w'
         go_simp
         with_reducible rfl
        rotate_left
        ·simp only [Act.put, za_, zb_, zc_, i64_w, i32_w]
         rfl
        refine pure_ (i := 8) (N := some 30) (v := ?_) (a' := ?_) #[true, true, true, true, true, true, true, true, true, false] rfl rfl (any_of HT_.out (by kernel_rfl)) (fun _ _ _ h => h) (Or.inl ⟨by rfl, ?_⟩) ?_ ?_
        rotate_left
        ·intro w'
         go_simp
         with_reducible rfl
        rotate_left
        ·simp only [Act.put, za_, zb_, zc_, i64_w, i32_w]
         rfl
        refine last_ (i := 9) (N := none) #[true, true, true, true, true, true, true, true, true, true] rfl rfl (one_of HT_.out (by kernel_rfl)) (by decide) (fun K hK => ?_)
        refine skip_ (w1 := ?_) (by rfl) rfl ?_ ?_
        rotate_left
        ·go_simp
         rfl
        refine hK.out _ _ ?_
        clear hK K
        refine done_ (done_of HT_.out (by kernel_rfl)) ?_
        try go_wp2
        go_roundg k1
        case measure => have := HK1.out; omega
        case rel => exact ⟨(wrap64 (x17_1 + 1)), (y401), (.slice (some ⟨go25, 0, none⟩) x396002_1.length co25), (by first | rfl | (simp; done) | (simp [*]; done)), H', ⟨by have := HK1.out; omega⟩, ⟨by (with_reducible repeat (first | apply Kd.R_alloc | apply Kd.R_drewN | apply Kd.R_drew)); exact Kd.R_mono (ok' := fun k_ => True) HQ34.out (fun _ hk => trivial)⟩, ⟨by (with_reducible repeat (first | apply Kd.R_alloc | apply Kd.R_drewN | apply Kd.R_drew)); exact Kd.R_mono (Kd.R_far (p := ⟨go25, (x17_1 : Int).toNat * 2 + 1, none⟩) (Kd.R_far (p := ⟨go25, (x17_1 : Int).toNat * 2, none⟩) (Kd.R_types HO_396003.out GG25.out (by decide)) (fun _ hk => hk.2) (.int .i64 t398)) (fun _ hk => hk.2) (.int .i64 t399)) (fun _ hk => hk.1)⟩, ⟨by (with_reducible repeat (first | apply Kd.R_alloc | apply Kd.R_drewN | apply Kd.R_drew)); exact Kd.R_mono (Kd.R_far (p := ⟨go25, (x17_1 : Int).toNat * 2 + 1, none⟩) (Kd.R_far (p := ⟨go25, (x17_1 : Int).toNat * 2, none⟩) (Kd.R_types HO_396004.out GG25.out (by decide)) (fun _ hk => hk.2) (.int .i64 t398)) (fun _ hk => hk.2) (.int .i64 t399)) (fun _ hk => hk.1)⟩, ⟨by (with_reducible repeat (first | refine blk_drewN ?_ _ | refine blk_drew ?_ | refine blk_alloc ?_ _)); refine blk_far ?_ (by have h_ := Kd.R_ne HO_396002.out BK381.out (by decide); intro e_; exact h_ (by rw [e_]; rfl)) _; (with_reducible repeat (first | refine blk_drewN ?_ _ | refine blk_drew ?_ | refine blk_alloc ?_ _)); refine blk_far ?_ (by have h_ := Kd.R_ne HO_396002.out BK381.out (by decide); intro e_; exact h_ (by rw [e_]; rfl)) _; (with_reducible repeat (first | refine blk_drewN ?_ _ | refine blk_drew ?_ | refine blk_alloc ?_ _)); exact BK381.out⟩, ⟨by (with_reducible repeat (first | refine blk_drewN ?_ _ | refine blk_drew ?_ | refine blk_alloc ?_ _)); refine blk_far ?_ (by have h_ := Kd.R_ne HO_396002.out BK382.out (by decide); intro e_; exact h_ (by rw [e_]; rfl)) _; (with_reducible repeat (first | refine blk_drewN ?_ _ | refine blk_drew ?_ | refine blk_alloc ?_ _)); refine blk_far ?_ (by have h_ := Kd.R_ne HO_396002.out BK382.out (by decide); intro e_; exact h_ (by rw [e_]; rfl)) _; (with_reducible repeat (first | refine blk_drewN ?_ _ | refine blk_drew ?_ | refine blk_alloc ?_ _)); exact BK382.out⟩, ⟨by (with_reducible repeat (first | refine blk_drewN ?_ _ | refine blk_drew ?_ | refine blk_alloc ?_ _)); refine blk_far ?_ (by have h_ := Kd.R_ne HO_396002.out BK395.out (by decide); intro e_; exact h_ (by rw [e_]; rfl)) _; (with_reducible repeat (first | refine blk_drewN ?_ _ | refine blk_drew ?_ | refine blk_alloc ?_ _)); refine blk_far ?_ (by have h_ := Kd.R_ne HO_396002.out BK395.out (by decide); intro e_; exact h_ (by rw [e_]; rfl)) _; (with_reducible repeat (first | refine blk_drewN ?_ _ | refine blk_drew ?_ | refine blk_alloc ?_ _)); exact BK395.out⟩, ⟨by repeat (first | (with_reducible first | exact HB.out | apply below_alloc | apply pw_below_drewN | apply below_drew1 | refine below_set ?_ GB25.out | refine below_set ?_ GB25.out | refine below_set ?_ GE381.out | refine below_set ?_ GE382.out | refine below_set ?_ GE395.out | refine below_set ?_ GE397.out) | exact HB.out)⟩⟩
       ·rw [if_neg c24] at H
        exact absurd H (by simp)
      ·rw [if_neg c22] at H
       exact absurd H (by simp)
     ·rw [if_neg c21] at H
      exact absurd H (by simp)
    ·rw [if_neg c20] at H
     have c20b0 : decide (x17_1 < (l0_2.length : Int)) = false := decide_eq_false c20
     clear c20
     have H' := Aside0.mk H
     clear H
     have hnb35 := NB381_382.out
     have hnc35 := NB382_381.out
     have hnb36 := NB381_395.out
     have hnc36 := NB395_381.out
     obtain ⟨hcz37_0, hcz37_1, hcz37_2, hcz37_3, hcz37_4, hfz37_0, hfz37_1, hfz37_2, hfz37_3, hfz37_4⟩ := bt5 BK381
     go_wp2
     go_loopg [35] k1 (fun kq v35 w' => ∃ (x35_2 : Int) (x396003_2 : List Int) (x396004_2 : List Int) (u396003 : Value) (u396004 : Value), v35 = .int .i64 x35_2 ∧ Aside0 (impl_MirrorChallenge.l1 kq (l0_3.length : Int) x35_2 a0_0 a0_1 l0_2 l0_3 l0_4 t384 t385 x396002_1 x396003_2 x396004_2 = some (r1, r2, r3, r4, r5, r6)) ∧ Aside0 (kq ≤ k1) ∧ Aside0 (Kd.R k78 78 w' w.heap.size (fun _ => True) u396002 x396002_1) ∧ Aside0 (Kd.R (Kd.int .i64) 3 w' w.heap.size (fun k_ => some k_ ≠ (u396004 : Value).ownBlock) u396003 x396003_2) ∧ Aside0 (Kd.R (Kd.int .i64) 3 w' w.heap.size (fun k_ => some k_ ≠ (u396003 : Value).ownBlock) u396004 x396004_2) ∧ Aside0 (w'.heap[gb381]? = some (.cells #[.int .i64 a0_0, .int .i64 a0_1, (.slice A0_2 l0_2.length c0_2), (.slice A0_3 l0_3.length c0_3), (.slice A0_4 l0_4.length c0_4)] 35 (0, 0))) ∧ Aside0 (w'.heap[gb382]? = some (.cells #[.int .i64 0, .int .i64 0, (.slice none 0 0), (.slice none 0 0), (.slice none 0 0)] 35 (0, 0))) ∧ Aside0 (w'.heap[gb395]? = some (.cells #[.int .i64 t384, .int .i64 t385, u396002, u396003, u396004] 35 (0, 0))) ∧ Aside0 (Below w.heap.size w w'))
     case atStart => exact ⟨(0), (t389), (t392), (.slice Ao17 t389.length co17), (.slice Ao18 t392.length co18), (by first | rfl | (simp; done) | (simp [*]; done)), H', ⟨Nat.le_refl _⟩, ⟨Kd.R_mv HO_396002.out⟩, ⟨Kd.R_mv HO_396003.out⟩, ⟨Kd.R_mv HO_396004.out⟩, ⟨km_ BK381⟩, ⟨km_ BK382⟩, ⟨km_ BK395⟩, ⟨bm HB⟩⟩
     case round =>
      clear H'
      try clear c1
      try clear c2
      try clear p2
      try clear c3
      try clear c7
      try clear c13
      try clear c14
      try clear c20
      try clear c20b0
      try clear c27
      try clear c35
      try clear c36
      try clear hcz10_0
      try clear hcz10_1
      try clear hcz10_2
      try clear hcz10_3
      try clear hcz10_4
      try clear hcz15_0
      try clear hcz15_1
      try clear hcz15_2
      try clear hcz15_3
      try clear hcz15_4
      try clear hcz19_0
      try clear hcz19_1
      try clear hcz19_2
      try clear hcz19_3
      try clear hcz19_4
      try clear hcz37_0
      try clear hcz37_1
      try clear hcz37_2
      try clear hcz37_3
      try clear hcz37_4
      try clear hcz8_0
      try clear hcz8_1
      try clear hcz8_2
      try clear hcz8_3
      try clear hcz8_4
      try clear hfz10_0
      try clear hfz10_1
      try clear hfz10_2
      try clear hfz10_3
      try clear hfz10_4
      try clear hfz15_0
      try clear hfz15_1
      try clear hfz15_2
      try clear hfz15_3
      try clear hfz15_4
      try clear hfz19_0
      try clear hfz19_1
      try clear hfz19_2
      try clear hfz19_3
      try clear hfz19_4
      try clear hfz37_0
      try clear hfz37_1
      try clear hfz37_2
      try clear hfz37_3
      try clear hfz37_4
      try clear hfz8_0
      try clear hfz8_1
      try clear hfz8_2
      try clear hfz8_3
      try clear hfz8_4
      try clear p2
      obtain ⟨x35_2, x396003_2, x396004_2, u396003, u396004, rfl, HA, HK2, HO_396002, HO_396003, HO_396004, BK381, BK382, BK395, HB⟩ := hrel
      cases gk with
      | zero => exact absurd HA.out (by simp [impl_MirrorChallenge.l1])
      | succ k2 =>
       have H := HA.out
       clear HA
       simp only [impl_MirrorChallenge.l1] at H
       by_cases c38 : x35_2 < (l0_3.length : Int)
       ·rw [if_pos c38] at H
        have c38b0 : decide (x35_2 < (l0_3.length : Int)) = true := decide_eq_true c38
        clear c38
        by_cases c39 : 0 ≤ x35_2
        ·rw [if_pos c39] at H
         have c39b0 : decide (0 ≤ x35_2) = true := decide_eq_true c39
         clear c39
         by_cases c40 : x35_2 < (l0_3.length : Int)
         ·rw [if_pos c40] at H
          have c40b0 : decide (x35_2 < (l0_3.length : Int)) = true := decide_eq_true c40
          clear c40
          by_cases c41 : x35_2 < (x396003_2.length : Int)
          ·rw [if_pos c41] at H
           have c41b0 : decide (x35_2 < (x396003_2.length : Int)) = true := decide_eq_true c41
           clear c41
           obtain ⟨y403, hy403⟩ : ∃ y_ : List Int, y_ = (x396003_2.set (x35_2 : Int).toNat (wrap64 ((wrap64 (a0_1 - 1)) - (rd l0_3 x35_2)))) := ⟨_, rfl⟩
           replace H : (if x35_2 < (l0_4.length : Int) then (if (rd l0_4 x35_2) < a0_1 then (if x35_2 < (x396004_2.length : Int) then (impl_MirrorChallenge.l1 k2 (l0_3.length : Int) (wrap64 (x35_2 + 1)) a0_0 a0_1 l0_2 l0_3 l0_4 t384 t385 x396002_1 y403 (x396004_2.set (x35_2 : Int).toNat (wrap64 ((wrap64 (a0_1 - 1)) - (rd l0_4 x35_2))))) else (none)) else (impl_MirrorChallenge.l1 k2 (l0_3.length : Int) (wrap64 (x35_2 + 1)) a0_0 a0_1 l0_2 l0_3 l0_4 t384 t385 x396002_1 y403 x396004_2)) else (none)) = some (r1, r2, r3, r4, r5, r6) := by first | (rw [hy403]; with_reducible exact H) | (have H2_ := (Option.bind_some _ _).symm.trans H; rw [hy403]; with_reducible exact H2_) | (have H2_ := (Option.bind_some _ _).symm.trans H; with_reducible exact H2_) | with_reducible exact H | (rw [hy403]; exact H) | exact H
           have Ny403 := Aside0.mk hy403
           clear hy403
           by_cases c43 : x35_2 < (l0_4.length : Int)
           ·rw [if_pos c43] at H
            have c43b0 : decide (x35_2 < (l0_4.length : Int)) = true := decide_eq_true c43
            clear c43
            by_cases c44 : (rd l0_4 x35_2) < a0_1
            ·rw [if_pos c44] at H
             have c44b0 : decide ((rd l0_4 x35_2) < a0_1) = true := decide_eq_true c44
             clear c44
             by_cases c45 : x35_2 < (x396004_2.length : Int)
             ·rw [if_pos c45] at H
              have c45b0 : decide (x35_2 < (x396004_2.length : Int)) = true := decide_eq_true c45
              clear c45
              obtain ⟨y406, hy406⟩ : ∃ y_ : List Int, y_ = (x396004_2.set (x35_2 : Int).toNat (wrap64 ((wrap64 (a0_1 - 1)) - (rd l0_4 x35_2)))) := ⟨_, rfl⟩
              replace H : (impl_MirrorChallenge.l1 k2 (l0_3.length : Int) (wrap64 (x35_2 + 1)) a0_0 a0_1 l0_2 l0_3 l0_4 t384 t385 x396002_1 y403 y406) = some (r1, r2, r3, r4, r5, r6) := by first | (rw [hy406]; with_reducible exact H) | (have H2_ := (Option.bind_some _ _).symm.trans H; rw [hy406]; with_reducible exact H2_) | (have H2_ := (Option.bind_some _ _).symm.trans H; with_reducible exact H2_) | with_reducible exact H | (rw [hy406]; exact H) | exact H
              have Ny406 := Aside0.mk hy406
              clear hy406
              have H' := Aside0.mk H
              clear H
              try go_wp2
              refine ev7 (Kd.R_drew HO_396002.out) (Kd.R_drew HO_396003.out) (Kd.R_drew HO_396004.out) (blk_drew BK381.out) (blk_drew BK382.out) (blk_drew BK395.out) (below_drew1 HB.out) ?_
              clear HO_396002 HO_396003 HO_396004 BK381 BK382 BK395 HB
              intro HO_396002 HO_396003 HO_396004 BK381 BK382 BK395 HB
              have p402 : 0 ≤ (x35_2 : Int) := of_decide_eq_true (by first | (with_reducible assumption) | assumption)
              have q402 : x35_2 < (l0_3.length : Int) := of_decide_eq_true (by first | (with_reducible assumption) | assumption)
              obtain ⟨ad402, e402, hx402_0⟩ := Kd.at_int HR0_3.out x35_2 p402 q402
              have hw402_0 := hx402_0
              cases e402
              replace hx402_0 := (HB.out.cell (World.block_lt_of_cell? w _ hx402_0)).trans hx402_0
              replace p402 := eq_true p402
              replace q402 := eq_true q402
              have p42 : 0 ≤ (x35_2 : Int) := of_decide_eq_true (by first | (with_reducible assumption) | assumption)
              have q42 : (x35_2 : Int) < ((x396003_2.length : Int) : Int) := of_decide_eq_true (by first | (with_reducible assumption) | assumption)
              obtain ⟨go42, co42, eo42, gb42, gl42, cl42, HG42⟩ := Kd.R_form HO_396003.out (by omega)
              (first | cases eo42 | (injection eo42 with ea_ en_ ec_; (first | subst ea_ | (injection ea_ with ea_; subst ea_)); subst ec_; clear en_))
              have GB42 := Aside0.mk gb42
              have GG42 := Aside0.mk HG42
              clear gb42 gl42 HG42
              obtain ⟨hx42_0, hf42_0⟩ := Kd.R_celln 0 HO_396003.out (x35_2 : Int) p42 q42
              replace p42 := eq_true p42
              replace q42 := eq_true q42
              have HP48 := Kd.R_putn HO_396003.out (x35_2 : Int) (wrap64 ((wrap64 (a0_1 - 1)) - (rd l0_3 x35_2)))
              rw [← Ny403.out] at HP48
              have HQ48 := Aside0.mk HP48
              clear HP48
              refine start_ (n := 14) (S := fun w' => w'.cell? ⟨gb395, 0, none⟩ = some (.int .i64 t384) ∧ w'.cell? ⟨gb395, 1, none⟩ = some (.int .i64 t385) ∧ w'.cell? ⟨gb395, 2, none⟩ = some (u396002) ∧ w'.cell? ⟨gb395, 3, none⟩ = some (.slice (some ⟨go42, 0, none⟩) x396003_2.length co42) ∧ w'.cell? ⟨gb395, 4, none⟩ = some (u396004) ∧ w'.cell? ⟨gb381, 0, none⟩ = some (.int .i64 a0_0) ∧ w'.cell? ⟨gb381, 1, none⟩ = some (.int .i64 a0_1) ∧ w'.cell? ⟨gb381, 2, none⟩ = some (.slice A0_2 l0_2.length c0_2) ∧ w'.cell? ⟨gb381, 3, none⟩ = some (.slice (some ad402) l0_3.length c0_3) ∧ w'.cell? ⟨gb381, 4, none⟩ = some (.slice A0_4 l0_4.length c0_4) ∧ w'.cell? (ad402.add (x35_2).toNat) = some (.int .i64 (rd l0_3 x35_2))) (ds := [13]) #[false, false, false, false, false, false, false, false, false, false, false, false, false, false] (by kernel_rfl) rfl rfl ⟨(blk_cell BK395.out 0).trans rfl, (blk_cell BK395.out 1).trans rfl, (blk_cell BK395.out 2).trans rfl, (blk_cell BK395.out 3).trans rfl, (blk_cell BK395.out 4).trans rfl, (blk_cell BK381.out 0).trans rfl, (blk_cell BK381.out 1).trans rfl, (blk_cell BK381.out 2).trans rfl, (blk_cell BK381.out 3).trans rfl, (blk_cell BK381.out 4).trans rfl, ((HB.out.cell (World.block_lt_of_cell? w _ hw402_0)).trans hw402_0)⟩ (fun hHeld => ?_); refine with_tabW impl_MirrorChallenge.tab12 impl_MirrorChallenge.bits12 (fun HT_ HW_ => ?_)
              generalize wr.drew = w47 at HO_396002 HO_396003 HO_396004 BK381 BK382 BK395 HB GG42 HQ48 hf42_0 hx402_0 hx42_0 hHeld ⊢
              refine pure_ (i := 0) (N := some 38) (v := ?_) (a' := ?_) #[true, false, false, false, false, false, false, false, false, false, false, false, false, false] rfl rfl (any_of HT_.out (by kernel_rfl)) (fun _ _ _ h => h) (Or.inl ⟨by rfl, ?_⟩) ?_ ?_
              rotate_left
              ·intro w'
               go_simp
               with_reducible rfl
              rotate_left
              ·simp only [Act.put, za_, zb_, zc_, i64_w, i32_w]
               rfl
              refine pure_ (i := 2) (N := some 40) (v := ?_) (a' := ?_) #[true, false, true, false, false, false, false, false, false, false, false, false, false, false] rfl rfl (any_of HT_.out (by kernel_rfl)) (fun _ _ _ h => h) (Or.inl ⟨by rfl, ?_⟩) ?_ ?_
              rotate_left
              ·intro w'
               go_simp
               with_reducible rfl
              rotate_left
              ·simp only [Act.put, za_, zb_, zc_, i64_w, i32_w]
               rfl
              refine pure_ (i := 3) (N := some 41) (v := ?_) (a' := ?_) #[true, false, true, true, false, false, false, false, false, false, false, false, false, false] rfl rfl (any_of HT_.out (by kernel_rfl)) (fun _ _ _ h => h) (Or.inl ⟨by rfl, ?_⟩) ?_ ?_
              rotate_left
              ·intro w'
               go_simp
               with_reducible rfl
              rotate_left
              ·simp only [Act.put, za_, zb_, zc_, i64_w, i32_w]
               rfl
              refine pure_ (i := 6) (N := some 44) (v := ?_) (a' := ?_) #[true, false, true, true, false, false, true, false, false, false, false, false, false, false] rfl rfl (any_of HT_.out (by kernel_rfl)) (fun _ _ _ h => h) (Or.inl ⟨by rfl, ?_⟩) ?_ ?_
              rotate_left
              ·intro w'
               go_simp
               with_reducible rfl
              rotate_left
              ·simp only [Act.put, za_, zb_, zc_, i64_w, i32_w]
               rfl
              refine pure_ (i := 8) (N := some 46) (v := ?_) (a' := ?_) #[true, false, true, true, false, false, true, false, true, false, false, false, false, false] rfl rfl (any_of HT_.out (by kernel_rfl)) (fun _ _ _ h => h) (Or.inl ⟨by rfl, ?_⟩) ?_ ?_
              rotate_left
              ·intro w'
               go_simp
               with_reducible rfl
              rotate_left
              ·simp only [Act.put, za_, zb_, zc_, i64_w, i32_w]
               rfl
              refine take_ (i := 1) (N := some 39) (v := ?_) (a' := ?_) #[true, true, true, true, false, false, true, false, true, false, false, false, false, false] rfl rfl (take_ofW HT_.out HW_.out (by kernel_rfl)) (fun _ _ _ h => h) (Or.inl ⟨by rfl, ?_⟩) hHeld ?_ ?_
              rotate_left
              ·rintro w' ⟨s0, s1, s2, s3, s4, s5, s6, s7, s8, s9, s10⟩
               go_simp
               with_reducible rfl
              rotate_left
              ·simp only [Act.put, za_, zb_, zc_, i64_w, i32_w]
               rfl
              refine take_ (i := 4) (N := some 42) (v := ?_) (a' := ?_) #[true, true, true, true, true, false, true, false, true, false, false, false, false, false] rfl rfl (take_ofW HT_.out HW_.out (by kernel_rfl)) (fun _ _ _ h => h) (Or.inl ⟨by rfl, ?_⟩) hHeld ?_ ?_
              rotate_left
              ·rintro w' ⟨s0, s1, s2, s3, s4, s5, s6, s7, s8, s9, s10⟩
               go_simp
               with_reducible rfl
              rotate_left
              ·simp only [Act.put, za_, zb_, zc_, i64_w, i32_w]
               rfl
              refine pure_ (i := 5) (N := some 43) (v := ?_) (a' := ?_) #[true, true, true, true, true, true, true, false, true, false, false, false, false, false] rfl rfl (any_of HT_.out (by kernel_rfl)) (fun _ _ _ h => h) (Or.inl ⟨by rfl, ?_⟩) ?_ ?_
              rotate_left
              ·intro w'
               go_simp
               with_reducible rfl
              rotate_left
              ·simp only [Act.put, za_, zb_, zc_, i64_w, i32_w]
               rfl
              refine take_ (i := 7) (N := some 45) (v := ?_) (a' := ?_) #[true, true, true, true, true, true, true, true, true, false, false, false, false, false] rfl rfl (take_ofW HT_.out HW_.out (by kernel_rfl)) (fun _ _ _ h => h) (Or.inl ⟨by rfl, ?_⟩) hHeld ?_ ?_
              rotate_left
              ·rintro w' ⟨s0, s1, s2, s3, s4, s5, s6, s7, s8, s9, s10⟩
               go_simp
               with_reducible rfl
              rotate_left
              ·simp only [Act.put, za_, zb_, zc_, i64_w, i32_w]
               rfl
              refine pure_ (i := 9) (N := some 47) (v := ?_) (a' := ?_) #[true, true, true, true, true, true, true, true, true, true, false, false, false, false] rfl rfl (any_of HT_.out (by kernel_rfl)) (fun _ _ _ h => h) (Or.inl ⟨by rfl, ?_⟩) ?_ ?_
              rotate_left
              ·intro w'
               go_simp
               with_reducible rfl
              rotate_left
              ·simp only [Act.put, za_, zb_, zc_, i64_w, i32_w]
               rfl
              refine take_ (i := 10) (N := some 48) (v := ?_) (a' := ?_) #[true, true, true, true, true, true, true, true, true, true, true, false, false, false] rfl rfl (take_ofW HT_.out HW_.out (by kernel_rfl)) (fun _ _ _ h => h) (Or.inl ⟨by rfl, ?_⟩) hHeld ?_ ?_
              rotate_left
              ·rintro w' ⟨s0, s1, s2, s3, s4, s5, s6, s7, s8, s9, s10⟩
               go_simp
               with_reducible rfl
              rotate_left
              ·simp only [Act.put, za_, zb_, zc_, i64_w, i32_w]
               rfl
              refine pure_ (i := 11) (N := some 49) (v := ?_) (a' := ?_) #[true, true, true, true, true, true, true, true, true, true, true, true, false, false] rfl rfl (any_of HT_.out (by kernel_rfl)) (fun _ _ _ h => h) (Or.inl ⟨by rfl, ?_⟩) ?_ ?_
              rotate_left
              ·intro w'
               go_simp
               with_reducible rfl
              rotate_left
              ·simp only [Act.put, za_, zb_, zc_, i64_w, i32_w]
               rfl
              refine pure_ (i := 12) (N := some 50) (v := ?_) (a' := ?_) #[true, true, true, true, true, true, true, true, true, true, true, true, true, false] rfl rfl (any_of HT_.out (by kernel_rfl)) (fun _ _ _ h => h) (Or.inl ⟨by rfl, ?_⟩) ?_ ?_
              rotate_left
              ·intro w'
               go_simp
               with_reducible rfl
              rotate_left
              ·simp only [Act.put, za_, zb_, zc_, i64_w, i32_w]
               rfl
              refine last_ (i := 13) (N := none) #[true, true, true, true, true, true, true, true, true, true, true, true, true, true] rfl rfl (one_of HT_.out (by kernel_rfl)) (by decide) (fun K hK => ?_)
              refine skip_ (w1 := ?_) (by rfl) rfl ?_ ?_
              rotate_left
              ·go_simp
               rfl
              refine hK.out _ _ ?_
              clear hK K
              refine done_ (done_of HT_.out (by kernel_rfl)) ?_
              try go_wp2
              have n0_ : Aside0 (Kd.R k78 78 (w47.setCell ⟨go42, (x35_2 : Int).toNat, none⟩ (.int .i64 (wrap64 ((wrap64 (a0_1 - 1)) - (rd l0_3 x35_2))))) w.heap.size (fun _ => True) u396002 x396002_1) := ⟨by (with_reducible repeat (first | apply Kd.R_alloc | apply Kd.R_drewN | apply Kd.R_drew)); exact Kd.R_mono (ok' := fun k_ => True) (Kd.R_far (p := ⟨go42, (x35_2 : Int).toNat, none⟩) (Kd.R_types HO_396002.out GG42.out (by decide)) (fun _ hk => hk.2) (.int .i64 (wrap64 ((wrap64 (a0_1 - 1)) - (rd l0_3 x35_2))))) (fun _ hk => trivial)⟩
              have n1_ : Aside0 (Kd.R (Kd.int .i64) 3 (w47.setCell ⟨go42, (x35_2 : Int).toNat, none⟩ (.int .i64 (wrap64 ((wrap64 (a0_1 - 1)) - (rd l0_3 x35_2))))) w.heap.size (fun k_ => some k_ ≠ (u396004 : Value).ownBlock) (.slice (some ⟨go42, 0, none⟩) x396003_2.length co42) y403) := ⟨by (with_reducible repeat (first | apply Kd.R_alloc | apply Kd.R_drewN | apply Kd.R_drew)); exact HQ48.out⟩
              have n2_ : Aside0 (Kd.R (Kd.int .i64) 3 (w47.setCell ⟨go42, (x35_2 : Int).toNat, none⟩ (.int .i64 (wrap64 ((wrap64 (a0_1 - 1)) - (rd l0_3 x35_2))))) w.heap.size (fun k_ => some k_ ≠ (.slice (some ⟨go42, 0, none⟩) x396003_2.length co42 : Value).ownBlock) u396004 x396004_2) := ⟨by (with_reducible repeat (first | apply Kd.R_alloc | apply Kd.R_drewN | apply Kd.R_drew)); exact Kd.R_mono (Kd.R_far (p := ⟨go42, (x35_2 : Int).toNat, none⟩) (Kd.R_mono HO_396004.out (fun k_ hk => (⟨hk, fun e_ => hk (by rw [e_]; rfl)⟩ : _ ∧ k_ ≠ go42))) (fun _ hk => hk.2) (.int .i64 (wrap64 ((wrap64 (a0_1 - 1)) - (rd l0_3 x35_2))))) (fun _ hk => hk.1)⟩
              have n3_ : Aside0 ((w47.setCell ⟨go42, (x35_2 : Int).toNat, none⟩ (.int .i64 (wrap64 ((wrap64 (a0_1 - 1)) - (rd l0_3 x35_2))))).heap[gb381]? = some (.cells #[.int .i64 a0_0, .int .i64 a0_1, .slice A0_2 l0_2.length c0_2, .slice (some ad402) l0_3.length c0_3, .slice A0_4 l0_4.length c0_4] 35 (0, 0))) := ⟨by (with_reducible repeat (first | refine blk_drewN ?_ _ | refine blk_drew ?_ | refine blk_alloc ?_ _)); refine blk_far ?_ (by have h_ := Kd.R_ne HO_396003.out BK381.out (by decide); intro e_; exact h_ (by rw [e_]; rfl)) _; (with_reducible repeat (first | refine blk_drewN ?_ _ | refine blk_drew ?_ | refine blk_alloc ?_ _)); exact BK381.out⟩
              have n4_ : Aside0 ((w47.setCell ⟨go42, (x35_2 : Int).toNat, none⟩ (.int .i64 (wrap64 ((wrap64 (a0_1 - 1)) - (rd l0_3 x35_2))))).heap[gb382]? = some (.cells #[.int .i64 0, .int .i64 0, .slice none 0 0, .slice none 0 0, .slice none 0 0] 35 (0, 0))) := ⟨by (with_reducible repeat (first | refine blk_drewN ?_ _ | refine blk_drew ?_ | refine blk_alloc ?_ _)); refine blk_far ?_ (by have h_ := Kd.R_ne HO_396003.out BK382.out (by decide); intro e_; exact h_ (by rw [e_]; rfl)) _; (with_reducible repeat (first | refine blk_drewN ?_ _ | refine blk_drew ?_ | refine blk_alloc ?_ _)); exact BK382.out⟩
              have n5_ : Aside0 ((w47.setCell ⟨go42, (x35_2 : Int).toNat, none⟩ (.int .i64 (wrap64 ((wrap64 (a0_1 - 1)) - (rd l0_3 x35_2))))).heap[gb395]? = some (.cells #[.int .i64 t384, .int .i64 t385, u396002, .slice (some ⟨go42, 0, none⟩) x396003_2.length co42, u396004] 35 (0, 0))) := ⟨by (with_reducible repeat (first | refine blk_drewN ?_ _ | refine blk_drew ?_ | refine blk_alloc ?_ _)); refine blk_far ?_ (by have h_ := Kd.R_ne HO_396003.out BK395.out (by decide); intro e_; exact h_ (by rw [e_]; rfl)) _; (with_reducible repeat (first | refine blk_drewN ?_ _ | refine blk_drew ?_ | refine blk_alloc ?_ _)); exact BK395.out⟩
              have n6_ : Aside0 (Below w.heap.size w (w47.setCell ⟨go42, (x35_2 : Int).toNat, none⟩ (.int .i64 (wrap64 ((wrap64 (a0_1 - 1)) - (rd l0_3 x35_2)))))) := ⟨by repeat (first | (with_reducible first | exact HB.out | apply below_alloc | apply pw_below_drewN | apply below_drew1 | refine below_set ?_ GB42.out | refine below_set ?_ GE381.out | refine below_set ?_ GE382.out | refine below_set ?_ GE395.out) | exact HB.out)⟩
              (try clear HO_396002)
              (try clear HO_396003)
              (try clear HO_396004)
              (try clear BK381)
              (try clear BK382)
              (try clear BK395)
              (try clear HB)
              generalize (w47.setCell ⟨go42, (x35_2 : Int).toNat, none⟩ (.int .i64 (wrap64 ((wrap64 (a0_1 - 1)) - (rd l0_3 x35_2))))) = w49 at n0_ n1_ n2_ n3_ n4_ n5_ n6_ ⊢
              have HO_396002 := n0_
              have HO_396003 := n1_
              have HO_396004 := n2_
              have BK381 := n3_
              have BK382 := n4_
              have BK395 := n5_
              have HB := n6_
              clear n0_ n1_ n2_ n3_ n4_ n5_ n6_
              refine ev7 (Kd.R_drew HO_396002.out) (Kd.R_drew HO_396003.out) (Kd.R_drew HO_396004.out) (blk_drew BK381.out) (blk_drew BK382.out) (blk_drew BK395.out) (below_drew1 HB.out) ?_
              clear HO_396002 HO_396003 HO_396004 BK381 BK382 BK395 HB
              intro HO_396002 HO_396003 HO_396004 BK381 BK382 BK395 HB
              have p404 : 0 ≤ (x35_2 : Int) := of_decide_eq_true (by first | (with_reducible assumption) | assumption)
              have q404 : x35_2 < (l0_4.length : Int) := of_decide_eq_true (by first | (with_reducible assumption) | assumption)
              obtain ⟨ad404, e404, hx404_0⟩ := Kd.at_int HR0_4.out x35_2 p404 q404
              have hw404_0 := hx404_0
              cases e404
              replace hx404_0 := (HB.out.cell (World.block_lt_of_cell? w _ hx404_0)).trans hx404_0
              replace p404 := eq_true p404
              replace q404 := eq_true q404
              refine start_ (n := 8) (S := fun w' => w'.cell? ⟨gb381, 0, none⟩ = some (.int .i64 a0_0) ∧ w'.cell? ⟨gb381, 1, none⟩ = some (.int .i64 a0_1) ∧ w'.cell? ⟨gb381, 2, none⟩ = some (.slice A0_2 l0_2.length c0_2) ∧ w'.cell? ⟨gb381, 3, none⟩ = some (.slice (some ad402) l0_3.length c0_3) ∧ w'.cell? ⟨gb381, 4, none⟩ = some (.slice (some ad404) l0_4.length c0_4) ∧ w'.cell? (ad404.add (x35_2).toNat) = some (.int .i64 (rd l0_4 x35_2))) (ds := []) #[false, false, false, false, false, false, false, false] (by kernel_rfl) rfl rfl ⟨(blk_cell BK381.out 0).trans rfl, (blk_cell BK381.out 1).trans rfl, (blk_cell BK381.out 2).trans rfl, (blk_cell BK381.out 3).trans rfl, (blk_cell BK381.out 4).trans rfl, ((HB.out.cell (World.block_lt_of_cell? w _ hw404_0)).trans hw404_0)⟩ (fun hHeld => ?_); refine with_tabW impl_MirrorChallenge.tab13 impl_MirrorChallenge.bits13 (fun HT_ HW_ => ?_)
              generalize w49.drew = w50 at HO_396002 HO_396003 HO_396004 BK381 BK382 BK395 HB HQ48 hx404_0 hHeld ⊢
              refine pure_ (i := 0) (N := some 51) (v := ?_) (a' := ?_) #[true, false, false, false, false, false, false, false] rfl rfl (any_of HT_.out (by kernel_rfl)) (fun _ _ _ h => h) (Or.inl ⟨by rfl, ?_⟩) ?_ ?_
              rotate_left
              ·intro w'
               go_simp
               with_reducible rfl
              rotate_left
              ·simp only [Act.put, za_, zb_, zc_, i64_w, i32_w]
               rfl
              refine pure_ (i := 2) (N := some 53) (v := ?_) (a' := ?_) #[true, false, true, false, false, false, false, false] rfl rfl (any_of HT_.out (by kernel_rfl)) (fun _ _ _ h => h) (Or.inl ⟨by rfl, ?_⟩) ?_ ?_
              rotate_left
              ·intro w'
               go_simp
               with_reducible rfl
              rotate_left
              ·simp only [Act.put, za_, zb_, zc_, i64_w, i32_w]
               rfl
              refine pure_ (i := 5) (N := some 56) (v := ?_) (a' := ?_) #[true, false, true, false, false, true, false, false] rfl rfl (any_of HT_.out (by kernel_rfl)) (fun _ _ _ h => h) (Or.inl ⟨by rfl, ?_⟩) ?_ ?_
              rotate_left
              ·intro w'
               go_simp
               with_reducible rfl
              rotate_left
              ·simp only [Act.put, za_, zb_, zc_, i64_w, i32_w]
               rfl
              refine take_ (i := 1) (N := some 52) (v := ?_) (a' := ?_) #[true, true, true, false, false, true, false, false] rfl rfl (take_ofW HT_.out HW_.out (by kernel_rfl)) (fun _ _ _ h => h) (Or.inl ⟨by rfl, ?_⟩) hHeld ?_ ?_
              rotate_left
              ·rintro w' ⟨s0, s1, s2, s3, s4, s5⟩
               go_simp
               with_reducible rfl
              rotate_left
              ·simp only [Act.put, za_, zb_, zc_, i64_w, i32_w]
               rfl
              refine pure_ (i := 3) (N := some 54) (v := ?_) (a' := ?_) #[true, true, true, true, false, true, false, false] rfl rfl (any_of HT_.out (by kernel_rfl)) (fun _ _ _ h => h) (Or.inl ⟨by rfl, ?_⟩) ?_ ?_
              rotate_left
              ·intro w'
               go_simp
               with_reducible rfl
              rotate_left
              ·simp only [Act.put, za_, zb_, zc_, i64_w, i32_w]
               rfl
              refine take_ (i := 4) (N := some 55) (v := ?_) (a' := ?_) #[true, true, true, true, true, true, false, false] rfl rfl (take_ofW HT_.out HW_.out (by kernel_rfl)) (fun _ _ _ h => h) (Or.inl ⟨by rfl, ?_⟩) hHeld ?_ ?_
              rotate_left
              ·rintro w' ⟨s0, s1, s2, s3, s4, s5⟩
               go_simp
               with_reducible rfl
              rotate_left
              ·simp only [Act.put, za_, zb_, zc_, i64_w, i32_w]
               rfl
              refine take_ (i := 6) (N := some 57) (v := ?_) (a' := ?_) #[true, true, true, true, true, true, true, false] rfl rfl (take_ofW HT_.out HW_.out (by kernel_rfl)) (fun _ _ _ h => h) (Or.inl ⟨by rfl, ?_⟩) hHeld ?_ ?_
              rotate_left
              ·rintro w' ⟨s0, s1, s2, s3, s4, s5⟩
               go_simp
               with_reducible rfl
              rotate_left
              ·simp only [Act.put, za_, zb_, zc_, i64_w, i32_w]
               rfl
              refine pure_ (i := 7) (N := some 58) (v := ?_) (a' := ?_) #[true, true, true, true, true, true, true, true] rfl rfl (any_of HT_.out (by kernel_rfl)) (fun _ _ _ h => h) (Or.inl ⟨by rfl, ?_⟩) ?_ ?_
              rotate_left
              ·intro w'
               go_simp
               with_reducible rfl
              rotate_left
              ·simp only [Act.put, za_, zb_, zc_, i64_w, i32_w]
               rfl
              refine done_ (done_of HT_.out (by kernel_rfl)) ?_
              try go_wp2
              refine ev7 (Kd.R_drew HO_396002.out) (Kd.R_drew HO_396003.out) (Kd.R_drew HO_396004.out) (blk_drew BK381.out) (blk_drew BK382.out) (blk_drew BK395.out) (below_drew1 HB.out) ?_
              clear HO_396002 HO_396003 HO_396004 BK381 BK382 BK395 HB
              intro HO_396002 HO_396003 HO_396004 BK381 BK382 BK395 HB
              have p405 : 0 ≤ (x35_2 : Int) := of_decide_eq_true (by first | (with_reducible assumption) | assumption)
              have q405 : x35_2 < (l0_4.length : Int) := of_decide_eq_true (by first | (with_reducible assumption) | assumption)
              obtain ⟨ad405, e405, hx405_0⟩ := Kd.at_int HR0_4.out x35_2 p405 q405
              have hw405_0 := hx405_0
              obtain rfl : ad404 = ad405 := (by injection e405)
              replace hx405_0 := (HB.out.cell (World.block_lt_of_cell? w _ hx405_0)).trans hx405_0
              replace p405 := eq_true p405
              replace q405 := eq_true q405
              have p46 : 0 ≤ (x35_2 : Int) := of_decide_eq_true (by first | (with_reducible assumption) | assumption)
              have q46 : (x35_2 : Int) < ((x396004_2.length : Int) : Int) := of_decide_eq_true (by first | (with_reducible assumption) | assumption)
              obtain ⟨go46, co46, eo46, gb46, gl46, cl46, HG46⟩ := Kd.R_form HO_396004.out (by omega)
              (first | cases eo46 | (injection eo46 with ea_ en_ ec_; (first | subst ea_ | (injection ea_ with ea_; subst ea_)); subst ec_; clear en_))
              have GB46 := Aside0.mk gb46
              have GG46 := Aside0.mk HG46
              clear gb46 gl46 HG46
              obtain ⟨hx46_0, hf46_0⟩ := Kd.R_celln 0 HO_396004.out (x35_2 : Int) p46 q46
              replace p46 := eq_true p46
              replace q46 := eq_true q46
              have HP52 := Kd.R_putn HO_396004.out (x35_2 : Int) (wrap64 ((wrap64 (a0_1 - 1)) - (rd l0_4 x35_2)))
              rw [← Ny406.out] at HP52
              have HQ52 := Aside0.mk HP52
              clear HP52
              refine start_ (n := 14) (S := fun w' => w'.cell? ⟨gb395, 0, none⟩ = some (.int .i64 t384) ∧ w'.cell? ⟨gb395, 1, none⟩ = some (.int .i64 t385) ∧ w'.cell? ⟨gb395, 2, none⟩ = some (u396002) ∧ w'.cell? ⟨gb395, 3, none⟩ = some (.slice (some ⟨go42, 0, none⟩) x396003_2.length co42) ∧ w'.cell? ⟨gb395, 4, none⟩ = some (.slice (some ⟨go46, 0, none⟩) x396004_2.length co46) ∧ w'.cell? ⟨gb381, 0, none⟩ = some (.int .i64 a0_0) ∧ w'.cell? ⟨gb381, 1, none⟩ = some (.int .i64 a0_1) ∧ w'.cell? ⟨gb381, 2, none⟩ = some (.slice A0_2 l0_2.length c0_2) ∧ w'.cell? ⟨gb381, 3, none⟩ = some (.slice (some ad402) l0_3.length c0_3) ∧ w'.cell? ⟨gb381, 4, none⟩ = some (.slice (some ad404) l0_4.length c0_4) ∧ w'.cell? (ad404.add (x35_2).toNat) = some (.int .i64 (rd l0_4 x35_2))) (ds := [13]) #[false, false, false, false, false, false, false, false, false, false, false, false, false, false] (by kernel_rfl) rfl rfl ⟨(blk_cell BK395.out 0).trans rfl, (blk_cell BK395.out 1).trans rfl, (blk_cell BK395.out 2).trans rfl, (blk_cell BK395.out 3).trans rfl, (blk_cell BK395.out 4).trans rfl, (blk_cell BK381.out 0).trans rfl, (blk_cell BK381.out 1).trans rfl, (blk_cell BK381.out 2).trans rfl, (blk_cell BK381.out 3).trans rfl, (blk_cell BK381.out 4).trans rfl, ((HB.out.cell (World.block_lt_of_cell? w _ hw405_0)).trans hw405_0)⟩ (fun hHeld => ?_); refine with_tabW impl_MirrorChallenge.tab14 impl_MirrorChallenge.bits14 (fun HT_ HW_ => ?_)
              generalize w50.drew = w51 at HO_396002 HO_396003 HO_396004 BK381 BK382 BK395 HB GG46 HQ52 hf46_0 hx405_0 hx46_0 hHeld ⊢
              refine pure_ (i := 0) (N := some 59) (v := ?_) (a' := ?_) #[true, false, false, false, false, false, false, false, false, false, false, false, false, false] rfl rfl (any_of HT_.out (by kernel_rfl)) (fun _ _ _ h => h) (Or.inl ⟨by rfl, ?_⟩) ?_ ?_
              rotate_left
              ·intro w'
               go_simp
               with_reducible rfl
              rotate_left
              ·simp only [Act.put, za_, zb_, zc_, i64_w, i32_w]
               rfl
              refine pure_ (i := 2) (N := some 61) (v := ?_) (a' := ?_) #[true, false, true, false, false, false, false, false, false, false, false, false, false, false] rfl rfl (any_of HT_.out (by kernel_rfl)) (fun _ _ _ h => h) (Or.inl ⟨by rfl, ?_⟩) ?_ ?_
              rotate_left
              ·intro w'
               go_simp
               with_reducible rfl
              rotate_left
              ·simp only [Act.put, za_, zb_, zc_, i64_w, i32_w]
               rfl
              refine pure_ (i := 3) (N := some 62) (v := ?_) (a' := ?_) #[true, false, true, true, false, false, false, false, false, false, false, false, false, false] rfl rfl (any_of HT_.out (by kernel_rfl)) (fun _ _ _ h => h) (Or.inl ⟨by rfl, ?_⟩) ?_ ?_
              rotate_left
              ·intro w'
               go_simp
               with_reducible rfl
              rotate_left
              ·simp only [Act.put, za_, zb_, zc_, i64_w, i32_w]
               rfl
              refine pure_ (i := 6) (N := some 65) (v := ?_) (a' := ?_) #[true, false, true, true, false, false, true, false, false, false, false, false, false, false] rfl rfl (any_of HT_.out (by kernel_rfl)) (fun _ _ _ h => h) (Or.inl ⟨by rfl, ?_⟩) ?_ ?_
              rotate_left
              ·intro w'
               go_simp
               with_reducible rfl
              rotate_left
              ·simp only [Act.put, za_, zb_, zc_, i64_w, i32_w]
               rfl
              refine pure_ (i := 8) (N := some 67) (v := ?_) (a' := ?_) #[true, false, true, true, false, false, true, false, true, false, false, false, false, false] rfl rfl (any_of HT_.out (by kernel_rfl)) (fun _ _ _ h => h) (Or.inl ⟨by rfl, ?_⟩) ?_ ?_
              rotate_left
              ·intro w'
               go_simp
               with_reducible rfl
              rotate_left
              ·simp only [Act.put, za_, zb_, zc_, i64_w, i32_w]
               rfl
              refine take_ (i := 1) (N := some 60) (v := ?_) (a' := ?_) #[true, true, true, true, false, false, true, false, true, false, false, false, false, false] rfl rfl (take_ofW HT_.out HW_.out (by kernel_rfl)) (fun _ _ _ h => h) (Or.inl ⟨by rfl, ?_⟩) hHeld ?_ ?_
              rotate_left
              ·rintro w' ⟨s0, s1, s2, s3, s4, s5, s6, s7, s8, s9, s10⟩
               go_simp
               with_reducible rfl
              rotate_left
              ·simp only [Act.put, za_, zb_, zc_, i64_w, i32_w]
               rfl
              refine take_ (i := 4) (N := some 63) (v := ?_) (a' := ?_) #[true, true, true, true, true, false, true, false, true, false, false, false, false, false] rfl rfl (take_ofW HT_.out HW_.out (by kernel_rfl)) (fun _ _ _ h => h) (Or.inl ⟨by rfl, ?_⟩) hHeld ?_ ?_
              rotate_left
              ·rintro w' ⟨s0, s1, s2, s3, s4, s5, s6, s7, s8, s9, s10⟩
               go_simp
               with_reducible rfl
              rotate_left
              ·simp only [Act.put, za_, zb_, zc_, i64_w, i32_w]
               rfl
              refine pure_ (i := 5) (N := some 64) (v := ?_) (a' := ?_) #[true, true, true, true, true, true, true, false, true, false, false, false, false, false] rfl rfl (any_of HT_.out (by kernel_rfl)) (fun _ _ _ h => h) (Or.inl ⟨by rfl, ?_⟩) ?_ ?_
              rotate_left
              ·intro w'
               go_simp
               with_reducible rfl
              rotate_left
              ·simp only [Act.put, za_, zb_, zc_, i64_w, i32_w]
               rfl
              refine take_ (i := 7) (N := some 66) (v := ?_) (a' := ?_) #[true, true, true, true, true, true, true, true, true, false, false, false, false, false] rfl rfl (take_ofW HT_.out HW_.out (by kernel_rfl)) (fun _ _ _ h => h) (Or.inl ⟨by rfl, ?_⟩) hHeld ?_ ?_
              rotate_left
              ·rintro w' ⟨s0, s1, s2, s3, s4, s5, s6, s7, s8, s9, s10⟩
               go_simp
               with_reducible rfl
              rotate_left
              ·simp only [Act.put, za_, zb_, zc_, i64_w, i32_w]
               rfl
              refine pure_ (i := 9) (N := some 68) (v := ?_) (a' := ?_) #[true, true, true, true, true, true, true, true, true, true, false, false, false, false] rfl rfl (any_of HT_.out (by kernel_rfl)) (fun _ _ _ h => h) (Or.inl ⟨by rfl, ?_⟩) ?_ ?_
              rotate_left
              ·intro w'
               go_simp
               with_reducible rfl
              rotate_left
              ·simp only [Act.put, za_, zb_, zc_, i64_w, i32_w]
               rfl
              refine take_ (i := 10) (N := some 69) (v := ?_) (a' := ?_) #[true, true, true, true, true, true, true, true, true, true, true, false, false, false] rfl rfl (take_ofW HT_.out HW_.out (by kernel_rfl)) (fun _ _ _ h => h) (Or.inl ⟨by rfl, ?_⟩) hHeld ?_ ?_
              rotate_left
              ·rintro w' ⟨s0, s1, s2, s3, s4, s5, s6, s7, s8, s9, s10⟩
               go_simp
               with_reducible rfl
              rotate_left
              ·simp only [Act.put, za_, zb_, zc_, i64_w, i32_w]
               rfl
              refine pure_ (i := 11) (N := some 70) (v := ?_) (a' := ?_) #[true, true, true, true, true, true, true, true, true, true, true, true, false, false] rfl rfl (any_of HT_.out (by kernel_rfl)) (fun _ _ _ h => h) (Or.inl ⟨by rfl, ?_⟩) ?_ ?_
              rotate_left
              ·intro w'
               go_simp
               with_reducible rfl
              rotate_left
              ·simp only [Act.put, za_, zb_, zc_, i64_w, i32_w]
               rfl
              refine pure_ (i := 12) (N := some 71) (v := ?_) (a' := ?_) #[true, true, true, true, true, true, true, true, true, true, true, true, true, false] rfl rfl (any_of HT_.out (by kernel_rfl)) (fun _ _ _ h => h) (Or.inl ⟨by rfl, ?_⟩) ?_ ?_
              rotate_left
              ·intro w'
               go_simp
               with_reducible rfl
              rotate_left
              ·simp only [Act.put, za_, zb_, zc_, i64_w, i32_w]
               rfl
              refine last_ (i := 13) (N := none) #[true, true, true, true, true, true, true, true, true, true, true, true, true, true] rfl rfl (one_of HT_.out (by kernel_rfl)) (by decide) (fun K hK => ?_)
              refine skip_ (w1 := ?_) (by rfl) rfl ?_ ?_
              rotate_left
              ·go_simp
               rfl
              refine hK.out _ _ ?_
              clear hK K
              refine done_ (done_of HT_.out (by kernel_rfl)) ?_
              try go_wp2
              go_roundg k2
              case measure => have := HK1.out; have := HK2.out; omega
              case rel => exact ⟨(wrap64 (x35_2 + 1)), (y403), (y406), (.slice (some ⟨go42, 0, none⟩) x396003_2.length co42), (.slice (some ⟨go46, 0, none⟩) x396004_2.length co46), (by first | rfl | (simp; done) | (simp [*]; done)), H', ⟨by have := HK1.out; have := HK2.out; omega⟩, ⟨by (with_reducible repeat (first | apply Kd.R_alloc | apply Kd.R_drewN | apply Kd.R_drew)); exact Kd.R_mono (ok' := fun k_ => True) (Kd.R_far (p := ⟨go46, (x35_2 : Int).toNat, none⟩) (Kd.R_types HO_396002.out GG46.out (by decide)) (fun _ hk => hk.2) (.int .i64 (wrap64 ((wrap64 (a0_1 - 1)) - (rd l0_4 x35_2))))) (fun _ hk => trivial)⟩, ⟨by (with_reducible repeat (first | apply Kd.R_alloc | apply Kd.R_drewN | apply Kd.R_drew)); exact Kd.R_mono (Kd.R_far (p := ⟨go46, (x35_2 : Int).toNat, none⟩) (Kd.R_mono HO_396003.out (fun k_ hk => (⟨hk, fun e_ => hk (by rw [e_]; rfl)⟩ : _ ∧ k_ ≠ go46))) (fun _ hk => hk.2) (.int .i64 (wrap64 ((wrap64 (a0_1 - 1)) - (rd l0_4 x35_2))))) (fun _ hk => hk.1)⟩, ⟨by (with_reducible repeat (first | apply Kd.R_alloc | apply Kd.R_drewN | apply Kd.R_drew)); exact HQ52.out⟩, ⟨by (with_reducible repeat (first | refine blk_drewN ?_ _ | refine blk_drew ?_ | refine blk_alloc ?_ _)); refine blk_far ?_ (by have h_ := Kd.R_ne HO_396004.out BK381.out (by decide); intro e_; exact h_ (by rw [e_]; rfl)) _; (with_reducible repeat (first | refine blk_drewN ?_ _ | refine blk_drew ?_ | refine blk_alloc ?_ _)); exact BK381.out⟩, ⟨by (with_reducible repeat (first | refine blk_drewN ?_ _ | refine blk_drew ?_ | refine blk_alloc ?_ _)); refine blk_far ?_ (by have h_ := Kd.R_ne HO_396004.out BK382.out (by decide); intro e_; exact h_ (by rw [e_]; rfl)) _; (with_reducible repeat (first | refine blk_drewN ?_ _ | refine blk_drew ?_ | refine blk_alloc ?_ _)); exact BK382.out⟩, ⟨by (with_reducible repeat (first | refine blk_drewN ?_ _ | refine blk_drew ?_ | refine blk_alloc ?_ _)); refine blk_far ?_ (by have h_ := Kd.R_ne HO_396004.out BK395.out (by decide); intro e_; exact h_ (by rw [e_]; rfl)) _; (with_reducible repeat (first | refine blk_drewN ?_ _ | refine blk_drew ?_ | refine blk_alloc ?_ _)); exact BK395.out⟩, ⟨by repeat (first | (with_reducible first | exact HB.out | apply below_alloc | apply pw_below_drewN | apply below_drew1 | refine below_set ?_ GB46.out | refine below_set ?_ GE381.out | refine below_set ?_ GE382.out | refine below_set ?_ GE395.out) | exact HB.out)⟩⟩
             ·rw [if_neg c45] at H
              exact absurd H (by simp)
            ·rw [if_neg c44] at H
             have c44b0 : decide ((rd l0_4 x35_2) < a0_1) = false := decide_eq_false c44
             clear c44
             have H' := Aside0.mk H
             clear H
             try go_wp2
             refine ev7 (Kd.R_drew HO_396002.out) (Kd.R_drew HO_396003.out) (Kd.R_drew HO_396004.out) (blk_drew BK381.out) (blk_drew BK382.out) (blk_drew BK395.out) (below_drew1 HB.out) ?_
             clear HO_396002 HO_396003 HO_396004 BK381 BK382 BK395 HB
             intro HO_396002 HO_396003 HO_396004 BK381 BK382 BK395 HB
             have p402 : 0 ≤ (x35_2 : Int) := of_decide_eq_true (by first | (with_reducible assumption) | assumption)
             have q402 : x35_2 < (l0_3.length : Int) := of_decide_eq_true (by first | (with_reducible assumption) | assumption)
             obtain ⟨ad402, e402, hx402_0⟩ := Kd.at_int HR0_3.out x35_2 p402 q402
             have hw402_0 := hx402_0
             cases e402
             replace hx402_0 := (HB.out.cell (World.block_lt_of_cell? w _ hx402_0)).trans hx402_0
             replace p402 := eq_true p402
             replace q402 := eq_true q402
             have p42 : 0 ≤ (x35_2 : Int) := of_decide_eq_true (by first | (with_reducible assumption) | assumption)
             have q42 : (x35_2 : Int) < ((x396003_2.length : Int) : Int) := of_decide_eq_true (by first | (with_reducible assumption) | assumption)
             obtain ⟨go42, co42, eo42, gb42, gl42, cl42, HG42⟩ := Kd.R_form HO_396003.out (by omega)
             (first | cases eo42 | (injection eo42 with ea_ en_ ec_; (first | subst ea_ | (injection ea_ with ea_; subst ea_)); subst ec_; clear en_))
             have GB42 := Aside0.mk gb42
             have GG42 := Aside0.mk HG42
             clear gb42 gl42 HG42
             obtain ⟨hx42_0, hf42_0⟩ := Kd.R_celln 0 HO_396003.out (x35_2 : Int) p42 q42
             replace p42 := eq_true p42
             replace q42 := eq_true q42
             have HP54 := Kd.R_putn HO_396003.out (x35_2 : Int) (wrap64 ((wrap64 (a0_1 - 1)) - (rd l0_3 x35_2)))
             rw [← Ny403.out] at HP54
             have HQ54 := Aside0.mk HP54
             clear HP54
             refine start_ (n := 14) (S := fun w' => w'.cell? ⟨gb395, 0, none⟩ = some (.int .i64 t384) ∧ w'.cell? ⟨gb395, 1, none⟩ = some (.int .i64 t385) ∧ w'.cell? ⟨gb395, 2, none⟩ = some (u396002) ∧ w'.cell? ⟨gb395, 3, none⟩ = some (.slice (some ⟨go42, 0, none⟩) x396003_2.length co42) ∧ w'.cell? ⟨gb395, 4, none⟩ = some (u396004) ∧ w'.cell? ⟨gb381, 0, none⟩ = some (.int .i64 a0_0) ∧ w'.cell? ⟨gb381, 1, none⟩ = some (.int .i64 a0_1) ∧ w'.cell? ⟨gb381, 2, none⟩ = some (.slice A0_2 l0_2.length c0_2) ∧ w'.cell? ⟨gb381, 3, none⟩ = some (.slice (some ad402) l0_3.length c0_3) ∧ w'.cell? ⟨gb381, 4, none⟩ = some (.slice A0_4 l0_4.length c0_4) ∧ w'.cell? (ad402.add (x35_2).toNat) = some (.int .i64 (rd l0_3 x35_2))) (ds := [13]) #[false, false, false, false, false, false, false, false, false, false, false, false, false, false] (by kernel_rfl) rfl rfl ⟨(blk_cell BK395.out 0).trans rfl, (blk_cell BK395.out 1).trans rfl, (blk_cell BK395.out 2).trans rfl, (blk_cell BK395.out 3).trans rfl, (blk_cell BK395.out 4).trans rfl, (blk_cell BK381.out 0).trans rfl, (blk_cell BK381.out 1).trans rfl, (blk_cell BK381.out 2).trans rfl, (blk_cell BK381.out 3).trans rfl, (blk_cell BK381.out 4).trans rfl, ((HB.out.cell (World.block_lt_of_cell? w _ hw402_0)).trans hw402_0)⟩ (fun hHeld => ?_); refine with_tabW impl_MirrorChallenge.tab12 impl_MirrorChallenge.bits12 (fun HT_ HW_ => ?_)
             generalize wr.drew = w53 at HO_396002 HO_396003 HO_396004 BK381 BK382 BK395 HB GG42 HQ54 hf42_0 hx402_0 hx42_0 hHeld ⊢
             refine pure_ (i := 0) (N := some 38) (v := ?_) (a' := ?_) #[true, false, false, false, false, false, false, false, false, false, false, false, false, false] rfl rfl (any_of HT_.out (by kernel_rfl)) (fun _ _ _ h => h) (Or.inl ⟨by rfl, ?_⟩) ?_ ?_
             rotate_left
             ·intro w'
              go_simp
              with_reducible rfl
             rotate_left
             ·simp only [Act.put, za_, zb_, zc_, i64_w, i32_w]
              rfl
             refine pure_ (i := 2) (N := some 40) (v := ?_) (a' := ?_) #[true, false, true, false, false, false, false, false, false, false, false, false, false, false] rfl rfl (any_of HT_.out (by kernel_rfl)) (fun _ _ _ h => h) (Or.inl ⟨by rfl, ?_⟩) ?_ ?_
             rotate_left
             ·intro w'
              go_simp
              with_reducible rfl
             rotate_left
             ·simp only [Act.put, za_, zb_, zc_, i64_w, i32_w]
              rfl
             refine pure_ (i := 3) (N := some 41) (v := ?_) (a' := ?_) #[true, false, true, true, false, false, false, false, false, false, false, false, false, false] rfl rfl (any_of HT_.out (by kernel_rfl)) (fun _ _ _ h => h) (Or.inl ⟨by rfl, ?_⟩) ?_ ?_
             rotate_left
             ·intro w'
              go_simp
              with_reducible rfl
             rotate_left
             ·simp only [Act.put, za_, zb_, zc_, i64_w, i32_w]
              rfl
             refine pure_ (i := 6) (N := some 44) (v := ?_) (a' := ?_) #[true, false, true, true, false, false, true, false, false, false, false, false, false, false] rfl rfl (any_of HT_.out (by kernel_rfl)) (fun _ _ _ h => h) (Or.inl ⟨by rfl, ?_⟩) ?_ ?_
             rotate_left
             ·intro w'
              go_simp
              with_reducible rfl
             rotate_left
             ·simp only [Act.put, za_, zb_, zc_, i64_w, i32_w]
              rfl
             refine pure_ (i := 8) (N := some 46) (v := ?_) (a' := ?_) #[true, false, true, true, false, false, true, false, true, false, false, false, false, false] rfl rfl (any_of HT_.out (by kernel_rfl)) (fun _ _ _ h => h) (Or.inl ⟨by rfl, ?_⟩) ?_ ?_
             rotate_left
             ·intro w'
              go_simp
              with_reducible rfl
             rotate_left
             ·simp only [Act.put, za_, zb_, zc_, i64_w, i32_w]
              rfl
             refine take_ (i := 1) (N := some 39) (v := ?_) (a' := ?_) #[true, true, true, true, false, false, true, false, true, false, false, false, false, false] rfl rfl (take_ofW HT_.out HW_.out (by kernel_rfl)) (fun _ _ _ h => h) (Or.inl ⟨by rfl, ?_⟩) hHeld ?_ ?_
             rotate_left
             ·rintro w' ⟨s0, s1, s2, s3, s4, s5, s6, s7, s8, s9, s10⟩
              go_simp
              with_reducible rfl
             rotate_left
             ·simp only [Act.put, za_, zb_, zc_, i64_w, i32_w]
              rfl
             refine take_ (i := 4) (N := some 42) (v := ?_) (a' := ?_) #[true, true, true, true, true, false, true, false, true, false, false, false, false, false] rfl rfl (take_ofW HT_.out HW_.out (by kernel_rfl)) (fun _ _ _ h => h) (Or.inl ⟨by rfl, ?_⟩) hHeld ?_ ?_
             rotate_left
             ·rintro w' ⟨s0, s1, s2, s3, s4, s5, s6, s7, s8, s9, s10⟩
              go_simp
              with_reducible rfl
             rotate_left
             ·simp only [Act.put, za_, zb_, zc_, i64_w, i32_w]
              rfl
             refine pure_ (i := 5) (N := some 43) (v := ?_) (a' := ?_) #[true, true, true, true, true, true, true, false, true, false, false, false, false, false] rfl rfl (any_of HT_.out (by kernel_rfl)) (fun _ _ _ h => h) (Or.inl ⟨by rfl, ?_⟩) ?_ ?_
             rotate_left
             ·intro w'
              go_simp
              with_reducible rfl
             rotate_left
             ·simp only [Act.put, za_, zb_, zc_, i64_w, i32_w]
              rfl
             refine take_ (i := 7) (N := some 45) (v := ?_) (a' := ?_) #[true, true, true, true, true, true, true, true, true, false, false, false, false, false] rfl rfl (take_ofW HT_.out HW_.out (by kernel_rfl)) (fun _ _ _ h => h) (Or.inl ⟨by rfl, ?_⟩) hHeld ?_ ?_
             rotate_left
             ·rintro w' ⟨s0, s1, s2, s3, s4, s5, s6, s7, s8, s9, s10⟩
              go_simp
              with_reducible rfl
             rotate_left
             ·simp only [Act.put, za_, zb_, zc_, i64_w, i32_w]
              rfl
             refine pure_ (i := 9) (N := some 47) (v := ?_) (a' := ?_) #[true, true, true, true, true, true, true, true, true, true, false, false, false, false] rfl rfl (any_of HT_.out (by kernel_rfl)) (fun _ _ _ h => h) (Or.inl ⟨by rfl, ?_⟩) ?_ ?_
             rotate_left
             ·intro w'
              go_simp
              with_reducible rfl
             rotate_left
             ·simp only [Act.put, za_, zb_, zc_, i64_w, i32_w]
              rfl
             refine take_ (i := 10) (N := some 48) (v := ?_) (a' := ?_) #[true, true, true, true, true, true, true, true, true, true, true, false, false, false] rfl rfl (take_ofW HT_.out HW_.out (by kernel_rfl)) (fun _ _ _ h => h) (Or.inl ⟨by rfl, ?_⟩) hHeld ?_ ?_
             rotate_left
             ·rintro w' ⟨s0, s1, s2, s3, s4, s5, s6, s7, s8, s9, s10⟩
              go_simp
              with_reducible rfl
             rotate_left
             ·simp only [Act.put, za_, zb_, zc_, i64_w, i32_w]
              rfl
             refine pure_ (i := 11) (N := some 49) (v := ?_) (a' := ?_) #[true, true, true, true, true, true, true, true, true, true, true, true, false, false] rfl rfl (any_of HT_.out (by kernel_rfl)) (fun _ _ _ h => h) (Or.inl ⟨by rfl, ?_⟩) ?_ ?_
             rotate_left
             ·intro w'
              go_simp
              with_reducible rfl
             rotate_left
             ·simp only [Act.put, za_, zb_, zc_, i64_w, i32_w]
              rfl
             refine pure_ (i := 12) (N := some 50) (v := ?_) (a' := ?_) #[true, true, true, true, true, true, true, true, true, true, true, true, true, false] rfl rfl (any_of HT_.out (by kernel_rfl)) (fun _ _ _ h => h) (Or.inl ⟨by rfl, ?_⟩) ?_ ?_
             rotate_left
             ·intro w'
              go_simp
              with_reducible rfl
             rotate_left
             ·simp only [Act.put, za_, zb_, zc_, i64_w, i32_w]
              rfl
             refine last_ (i := 13) (N := none) #[true, true, true, true, true, true, true, true, true, true, true, true, true, true] rfl rfl (one_of HT_.out (by kernel_rfl)) (by decide) (fun K hK => ?_)
             refine skip_ (w1 := ?_) (by rfl) rfl ?_ ?_
             rotate_left
             ·go_simp
              rfl
             refine hK.out _ _ ?_
             clear hK K
             refine done_ (done_of HT_.out (by kernel_rfl)) ?_
             try go_wp2
             have n0_ : Aside0 (Kd.R k78 78 (w53.setCell ⟨go42, (x35_2 : Int).toNat, none⟩ (.int .i64 (wrap64 ((wrap64 (a0_1 - 1)) - (rd l0_3 x35_2))))) w.heap.size (fun _ => True) u396002 x396002_1) := ⟨by (with_reducible repeat (first | apply Kd.R_alloc | apply Kd.R_drewN | apply Kd.R_drew)); exact Kd.R_mono (ok' := fun k_ => True) (Kd.R_far (p := ⟨go42, (x35_2 : Int).toNat, none⟩) (Kd.R_types HO_396002.out GG42.out (by decide)) (fun _ hk => hk.2) (.int .i64 (wrap64 ((wrap64 (a0_1 - 1)) - (rd l0_3 x35_2))))) (fun _ hk => trivial)⟩
             have n1_ : Aside0 (Kd.R (Kd.int .i64) 3 (w53.setCell ⟨go42, (x35_2 : Int).toNat, none⟩ (.int .i64 (wrap64 ((wrap64 (a0_1 - 1)) - (rd l0_3 x35_2))))) w.heap.size (fun k_ => some k_ ≠ (u396004 : Value).ownBlock) (.slice (some ⟨go42, 0, none⟩) x396003_2.length co42) y403) := ⟨by (with_reducible repeat (first | apply Kd.R_alloc | apply Kd.R_drewN | apply Kd.R_drew)); exact HQ54.out⟩
             have n2_ : Aside0 (Kd.R (Kd.int .i64) 3 (w53.setCell ⟨go42, (x35_2 : Int).toNat, none⟩ (.int .i64 (wrap64 ((wrap64 (a0_1 - 1)) - (rd l0_3 x35_2))))) w.heap.size (fun k_ => some k_ ≠ (.slice (some ⟨go42, 0, none⟩) x396003_2.length co42 : Value).ownBlock) u396004 x396004_2) := ⟨by (with_reducible repeat (first | apply Kd.R_alloc | apply Kd.R_drewN | apply Kd.R_drew)); exact Kd.R_mono (Kd.R_far (p := ⟨go42, (x35_2 : Int).toNat, none⟩) (Kd.R_mono HO_396004.out (fun k_ hk => (⟨hk, fun e_ => hk (by rw [e_]; rfl)⟩ : _ ∧ k_ ≠ go42))) (fun _ hk => hk.2) (.int .i64 (wrap64 ((wrap64 (a0_1 - 1)) - (rd l0_3 x35_2))))) (fun _ hk => hk.1)⟩
             have n3_ : Aside0 ((w53.setCell ⟨go42, (x35_2 : Int).toNat, none⟩ (.int .i64 (wrap64 ((wrap64 (a0_1 - 1)) - (rd l0_3 x35_2))))).heap[gb381]? = some (.cells #[.int .i64 a0_0, .int .i64 a0_1, .slice A0_2 l0_2.length c0_2, .slice (some ad402) l0_3.length c0_3, .slice A0_4 l0_4.length c0_4] 35 (0, 0))) := ⟨by (with_reducible repeat (first | refine blk_drewN ?_ _ | refine blk_drew ?_ | refine blk_alloc ?_ _)); refine blk_far ?_ (by have h_ := Kd.R_ne HO_396003.out BK381.out (by decide); intro e_; exact h_ (by rw [e_]; rfl)) _; (with_reducible repeat (first | refine blk_drewN ?_ _ | refine blk_drew ?_ | refine blk_alloc ?_ _)); exact BK381.out⟩
             have n4_ : Aside0 ((w53.setCell ⟨go42, (x35_2 : Int).toNat, none⟩ (.int .i64 (wrap64 ((wrap64 (a0_1 - 1)) - (rd l0_3 x35_2))))).heap[gb382]? = some (.cells #[.int .i64 0, .int .i64 0, .slice none 0 0, .slice none 0 0, .slice none 0 0] 35 (0, 0))) := ⟨by (with_reducible repeat (first | refine blk_drewN ?_ _ | refine blk_drew ?_ | refine blk_alloc ?_ _)); refine blk_far ?_ (by have h_ := Kd.R_ne HO_396003.out BK382.out (by decide); intro e_; exact h_ (by rw [e_]; rfl)) _; (with_reducible repeat (first | refine blk_drewN ?_ _ | refine blk_drew ?_ | refine blk_alloc ?_ _)); exact BK382.out⟩
             have n5_ : Aside0 ((w53.setCell ⟨go42, (x35_2 : Int).toNat, none⟩ (.int .i64 (wrap64 ((wrap64 (a0_1 - 1)) - (rd l0_3 x35_2))))).heap[gb395]? = some (.cells #[.int .i64 t384, .int .i64 t385, u396002, .slice (some ⟨go42, 0, none⟩) x396003_2.length co42, u396004] 35 (0, 0))) := ⟨by (with_reducible repeat (first | refine blk_drewN ?_ _ | refine blk_drew ?_ | refine blk_alloc ?_ _)); refine blk_far ?_ (by have h_ := Kd.R_ne HO_396003.out BK395.out (by decide); intro e_; exact h_ (by rw [e_]; rfl)) _; (with_reducible repeat (first | refine blk_drewN ?_ _ | refine blk_drew ?_ | refine blk_alloc ?_ _)); exact BK395.out⟩
             have n6_ : Aside0 (Below w.heap.size w (w53.setCell ⟨go42, (x35_2 : Int).toNat, none⟩ (.int .i64 (wrap64 ((wrap64 (a0_1 - 1)) - (rd l0_3 x35_2)))))) := ⟨by repeat (first | (with_reducible first | exact HB.out | apply below_alloc | apply pw_below_drewN | apply below_drew1 | refine below_set ?_ GB42.out | refine below_set ?_ GE381.out | refine below_set ?_ GE382.out | refine below_set ?_ GE395.out) | exact HB.out)⟩
             (try clear HO_396002)
             (try clear HO_396003)
             (try clear HO_396004)
             (try clear BK381)
             (try clear BK382)
             (try clear BK395)
             (try clear HB)
             generalize (w53.setCell ⟨go42, (x35_2 : Int).toNat, none⟩ (.int .i64 (wrap64 ((wrap64 (a0_1 - 1)) - (rd l0_3 x35_2))))) = w55 at n0_ n1_ n2_ n3_ n4_ n5_ n6_ ⊢
             have HO_396002 := n0_
             have HO_396003 := n1_
             have HO_396004 := n2_
             have BK381 := n3_
             have BK382 := n4_
             have BK395 := n5_
             have HB := n6_
             clear n0_ n1_ n2_ n3_ n4_ n5_ n6_
             refine ev7 (Kd.R_drew HO_396002.out) (Kd.R_drew HO_396003.out) (Kd.R_drew HO_396004.out) (blk_drew BK381.out) (blk_drew BK382.out) (blk_drew BK395.out) (below_drew1 HB.out) ?_
             clear HO_396002 HO_396003 HO_396004 BK381 BK382 BK395 HB
             intro HO_396002 HO_396003 HO_396004 BK381 BK382 BK395 HB
             have p404 : 0 ≤ (x35_2 : Int) := of_decide_eq_true (by first | (with_reducible assumption) | assumption)
             have q404 : x35_2 < (l0_4.length : Int) := of_decide_eq_true (by first | (with_reducible assumption) | assumption)
             obtain ⟨ad404, e404, hx404_0⟩ := Kd.at_int HR0_4.out x35_2 p404 q404
             have hw404_0 := hx404_0
             cases e404
             replace hx404_0 := (HB.out.cell (World.block_lt_of_cell? w _ hx404_0)).trans hx404_0
             replace p404 := eq_true p404
             replace q404 := eq_true q404
             refine start_ (n := 8) (S := fun w' => w'.cell? ⟨gb381, 0, none⟩ = some (.int .i64 a0_0) ∧ w'.cell? ⟨gb381, 1, none⟩ = some (.int .i64 a0_1) ∧ w'.cell? ⟨gb381, 2, none⟩ = some (.slice A0_2 l0_2.length c0_2) ∧ w'.cell? ⟨gb381, 3, none⟩ = some (.slice (some ad402) l0_3.length c0_3) ∧ w'.cell? ⟨gb381, 4, none⟩ = some (.slice (some ad404) l0_4.length c0_4) ∧ w'.cell? (ad404.add (x35_2).toNat) = some (.int .i64 (rd l0_4 x35_2))) (ds := []) #[false, false, false, false, false, false, false, false] (by kernel_rfl) rfl rfl ⟨(blk_cell BK381.out 0).trans rfl, (blk_cell BK381.out 1).trans rfl, (blk_cell BK381.out 2).trans rfl, (blk_cell BK381.out 3).trans rfl, (blk_cell BK381.out 4).trans rfl, ((HB.out.cell (World.block_lt_of_cell? w _ hw404_0)).trans hw404_0)⟩ (fun hHeld => ?_); refine with_tabW impl_MirrorChallenge.tab13 impl_MirrorChallenge.bits13 (fun HT_ HW_ => ?_)
             generalize w55.drew = w56 at HO_396002 HO_396003 HO_396004 BK381 BK382 BK395 HB HQ54 hx404_0 hHeld ⊢
             refine pure_ (i := 0) (N := some 51) (v := ?_) (a' := ?_) #[true, false, false, false, false, false, false, false] rfl rfl (any_of HT_.out (by kernel_rfl)) (fun _ _ _ h => h) (Or.inl ⟨by rfl, ?_⟩) ?_ ?_
             rotate_left
             ·intro w'
              go_simp
              with_reducible rfl
             rotate_left
             ·simp only [Act.put, za_, zb_, zc_, i64_w, i32_w]
              rfl
             refine pure_ (i := 2) (N := some 53) (v := ?_) (a' := ?_) #[true, false, true, false, false, false, false, false] rfl rfl (any_of HT_.out (by kernel_rfl)) (fun _ _ _ h => h) (Or.inl ⟨by rfl, ?_⟩) ?_ ?_
             rotate_left
             ·intro w'
              go_simp
              with_reducible rfl
             rotate_left
             ·simp only [Act.put, za_, zb_, zc_, i64_w, i32_w]
              rfl
             refine pure_ (i := 5) (N := some 56) (v := ?_) (a' := ?_) #[true, false, true, false, false, true, false, false] rfl rfl (any_of HT_.out (by kernel_rfl)) (fun _ _ _ h => h) (Or.inl ⟨by rfl, ?_⟩) ?_ ?_
             rotate_left
             ·intro w'
              go_simp
              with_reducible rfl
             rotate_left
             ·simp only [Act.put, za_, zb_, zc_, i64_w, i32_w]
              rfl
             refine take_ (i := 1) (N := some 52) (v := ?_) (a' := ?_) #[true, true, true, false, false, true, false, false] rfl rfl (take_ofW HT_.out HW_.out (by kernel_rfl)) (fun _ _ _ h => h) (Or.inl ⟨by rfl, ?_⟩) hHeld ?_ ?_
             rotate_left
             ·rintro w' ⟨s0, s1, s2, s3, s4, s5⟩
              go_simp
              with_reducible rfl
             rotate_left
             ·simp only [Act.put, za_, zb_, zc_, i64_w, i32_w]
              rfl
             refine pure_ (i := 3) (N := some 54) (v := ?_) (a' := ?_) #[true, true, true, true, false, true, false, false] rfl rfl (any_of HT_.out (by kernel_rfl)) (fun _ _ _ h => h) (Or.inl ⟨by rfl, ?_⟩) ?_ ?_
             rotate_left
             ·intro w'
              go_simp
              with_reducible rfl
             rotate_left
             ·simp only [Act.put, za_, zb_, zc_, i64_w, i32_w]
              rfl
             refine take_ (i := 4) (N := some 55) (v := ?_) (a' := ?_) #[true, true, true, true, true, true, false, false] rfl rfl (take_ofW HT_.out HW_.out (by kernel_rfl)) (fun _ _ _ h => h) (Or.inl ⟨by rfl, ?_⟩) hHeld ?_ ?_
             rotate_left
             ·rintro w' ⟨s0, s1, s2, s3, s4, s5⟩
              go_simp
              with_reducible rfl
             rotate_left
             ·simp only [Act.put, za_, zb_, zc_, i64_w, i32_w]
              rfl
             refine take_ (i := 6) (N := some 57) (v := ?_) (a' := ?_) #[true, true, true, true, true, true, true, false] rfl rfl (take_ofW HT_.out HW_.out (by kernel_rfl)) (fun _ _ _ h => h) (Or.inl ⟨by rfl, ?_⟩) hHeld ?_ ?_
             rotate_left
             ·rintro w' ⟨s0, s1, s2, s3, s4, s5⟩
              go_simp
              with_reducible rfl
             rotate_left
             ·simp only [Act.put, za_, zb_, zc_, i64_w, i32_w]
              rfl
             refine pure_ (i := 7) (N := some 58) (v := ?_) (a' := ?_) #[true, true, true, true, true, true, true, true] rfl rfl (any_of HT_.out (by kernel_rfl)) (fun _ _ _ h => h) (Or.inl ⟨by rfl, ?_⟩) ?_ ?_
             rotate_left
             ·intro w'
              go_simp
              with_reducible rfl
             rotate_left
             ·simp only [Act.put, za_, zb_, zc_, i64_w, i32_w]
              rfl
             refine done_ (done_of HT_.out (by kernel_rfl)) ?_
             try go_wp2
             go_roundg k2
             case measure => have := HK1.out; have := HK2.out; omega
             case rel => exact ⟨(wrap64 (x35_2 + 1)), (y403), (x396004_2), (.slice (some ⟨go42, 0, none⟩) x396003_2.length co42), (u396004), (by first | rfl | (simp; done) | (simp [*]; done)), H', ⟨by have := HK1.out; have := HK2.out; omega⟩, ⟨Kd.R_mv HO_396002.out⟩, ⟨Kd.R_mv HO_396003.out⟩, ⟨Kd.R_mv HO_396004.out⟩, ⟨km_ BK381⟩, ⟨km_ BK382⟩, ⟨km_ BK395⟩, ⟨bm HB⟩⟩
           ·rw [if_neg c43] at H
            exact absurd H (by simp)
          ·rw [if_neg c41] at H
           exact absurd H (by simp)
         ·rw [if_neg c40] at H
          exact absurd H (by simp)
        ·rw [if_neg c39] at H
         exact absurd H (by simp)
       ·rw [if_neg c38] at H
        have c38b0 : decide (x35_2 < (l0_3.length : Int)) = false := decide_eq_false c38
        clear c38
        simp only [Option.some.injEq, Prod.mk.injEq] at H
        obtain ⟨rfl, rfl, rfl, rfl, rfl, rfl⟩ := H
        have hnb57 := NB395_381.out
        have hnc57 := NB381_395.out
        have hnb58 := NB395_382.out
        have hnc58 := NB382_395.out
        obtain ⟨hcz59_0, hcz59_1, hcz59_2, hcz59_3, hcz59_4, hfz59_0, hfz59_1, hfz59_2, hfz59_3, hfz59_4⟩ := bt5 BK395
        have hnb60 := NB382_381.out
        have hnc60 := NB381_382.out
        obtain ⟨hcz61_0, hcz61_1, hcz61_2, hcz61_3, hcz61_4, hfz61_0, hfz61_1, hfz61_2, hfz61_3, hfz61_4⟩ := bt5 BK382
        obtain ⟨Ao62, co62, eo62⟩ := Kd.R_slice HO_396002.out
        subst eo62
        obtain ⟨Ao63, co63, eo63⟩ := Kd.R_slice HO_396003.out
        subst eo63
        obtain ⟨Ao64, co64, eo64⟩ := Kd.R_slice HO_396004.out
        subst eo64
        go_wp2
        refine bodyPost_ret (results_ct rfl _ _ gb382 35 #[.int .i64 t384, .int .i64 t385, .slice Ao62 x396002_1.length co62, .slice Ao63 x396003_2.length co63, .slice Ao64 x396004_2.length co64] (0, 0) _ rfl (fp BK382 rfl) Try.underlying35 rfl (by kernel_rfl)) rfl ?_
        exact ⟨_, _, _, by first | rfl | (simp [e0_, e1_] <;> rfl) | (simp [*, e0_, e1_] <;> rfl), Kd.R_mv (Kd.R_mono (ok' := fun k_ => True) (Kd.R_far (p := ⟨gb382, 4, none⟩) (Kd.R_far (p := ⟨gb382, 3, none⟩) (Kd.R_far (p := ⟨gb382, 2, none⟩) (Kd.R_far (p := ⟨gb382, 1, none⟩) (Kd.R_far (p := ⟨gb382, 0, none⟩) (Kd.R_types HO_396002.out BK382.out (by decide)) (fun _ hk => hk.2) (.int .i64 t384)) (fun _ hk => hk.2) (.int .i64 t385)) (fun _ hk => hk.2) (.slice Ao62 x396002_1.length co62)) (fun _ hk => hk.2) (.slice Ao63 x396003_2.length co63)) (fun _ hk => hk.2) (.slice Ao64 x396004_2.length co64)) (fun _ hk => trivial)), Kd.R_mv (Kd.R_mono (Kd.R_far (p := ⟨gb382, 4, none⟩) (Kd.R_far (p := ⟨gb382, 3, none⟩) (Kd.R_far (p := ⟨gb382, 2, none⟩) (Kd.R_far (p := ⟨gb382, 1, none⟩) (Kd.R_far (p := ⟨gb382, 0, none⟩) (Kd.R_types HO_396003.out BK382.out (by decide)) (fun _ hk => hk.2) (.int .i64 t384)) (fun _ hk => hk.2) (.int .i64 t385)) (fun _ hk => hk.2) (.slice Ao62 x396002_1.length co62)) (fun _ hk => hk.2) (.slice Ao63 x396003_2.length co63)) (fun _ hk => hk.2) (.slice Ao64 x396004_2.length co64)) (fun _ hk => hk.1)), Kd.R_mv (Kd.R_mono (Kd.R_far (p := ⟨gb382, 4, none⟩) (Kd.R_far (p := ⟨gb382, 3, none⟩) (Kd.R_far (p := ⟨gb382, 2, none⟩) (Kd.R_far (p := ⟨gb382, 1, none⟩) (Kd.R_far (p := ⟨gb382, 0, none⟩) (Kd.R_types HO_396004.out BK382.out (by decide)) (fun _ hk => hk.2) (.int .i64 t384)) (fun _ hk => hk.2) (.int .i64 t385)) (fun _ hk => hk.2) (.slice Ao62 x396002_1.length co62)) (fun _ hk => hk.2) (.slice Ao63 x396003_2.length co63)) (fun _ hk => hk.2) (.slice Ao64 x396004_2.length co64)) (fun _ hk => hk.1)), bm HB⟩
 ·replace c3 := Bool.eq_false_iff.mpr c3
  subst c3
  have H1 : (some (0, 0, ([] : List (S78)), ([] : List Int), ([] : List Int), false)) = some (r1, r2, r3, r4, r5, r6) := by rw [if_neg (show ¬ (false = true) by decide)] at H; exact H
  clear H
  have H := H1
  clear H1
  simp only [Option.some.injEq, Prod.mk.injEq] at H
  obtain ⟨rfl, rfl, rfl, rfl, rfl, rfl⟩ := H
  go_enter Try.func27, Try.ntmps27
  go_wp2_with (first | ((with_reducible refine gate_dst (N := 1) rfl ?_); refine box_event ?hg (N := 1) ?hd (cs := #[.int .i64 a0_0, .int .i64 a0_1, .slice A0_2 l0_2.length c0_2, .slice A0_3 l0_3.length c0_3, .slice A0_4 l0_4.length c0_4]) (t := 35) ?hr ?_; (case hd => rfl); (case hg => rfl); (case hr => first | (go_simp; done) | (go_simp; rfl)); intro gb381 hg w65 hbox hb; refine ev4 (bs HB hb) (hbox) (gle hg HB) (gle hg HB) ?_; clear HB; intro HB BK381 GW381 GE381; clear hb hbox hg) | ((with_reducible refine gate_dst (N := 2) rfl ?_); refine box_event ?hg (N := 2) ?hd (cs := #[.int .i64 0, .int .i64 0, .slice none 0 0, .slice none 0 0, .slice none 0 0]) (t := 35) ?hr ?_; (case hd => rfl); (case hg => rfl); (case hr => first | (go_simp; done) | (go_simp; rfl)); intro gb382 hg w66 hbox hb; refine ev7 (kb BK381 hb) (bs HB hb) (hbox) (gle hg HB) (gle hg HB) (gnf hg BK381) (gne hg BK381) ?_; clear BK381 HB; intro BK381 HB BK382 GW382 GE382 NB381_382 NB382_381; clear hb hbox hg; have hnb67 := NB381_382.out; have hnc67 := NB382_381.out; obtain ⟨hcz68_0, hcz68_1, hcz68_2, hcz68_3, hcz68_4, hfz68_0, hfz68_1, hfz68_2, hfz68_3, hfz68_4⟩ := bt5 BK381) | ((with_reducible refine gate_callee (f := 70) rfl ?_); refine goesL_ (some 9) rfl rfl Try.func70 (by kernel_rfl) rfl #[.agg #[.int .i64 a0_0, .int .i64 a0_1, .slice A0_2 l0_2.length c0_2, .slice A0_3 l0_3.length c0_3, .slice A0_4 l0_4.length c0_4]] rfl (by (try simp only [ma_, mb_, mc_]); first | done | rfl | (simp only [List.length_drop, List.length_take]; rfl)) ?_; (with_reducible refine (impl_isPlayed.calls k a0_0 a0_1 _ _ l0_2 _ _ l0_3 _ _ l0_4 false _ (Kd.C_mv (Kd.C_below HR0_2.out HB.out)) HC0_2.out (Kd.C_mv (Kd.C_below HR0_3.out HB.out)) HC0_3.out (Kd.C_mv (Kd.C_below HR0_4.out HB.out)) HC0_4.out A2.out).mono ?_); rintro e w69 ⟨rfl, hb⟩; refine ⟨_, rfl, ?_⟩; refine ev3 (kb BK381 hb) (kb BK382 hb) (bs HB hb) ?_; clear BK381 BK382 HB; intro BK381 BK382 HB; (try clear hb); (try clear hb2); (try clear hk); (try clear hi); obtain ⟨hcz70_0, hcz70_1, hcz70_2, hcz70_3, hcz70_4, hfz70_0, hfz70_1, hfz70_2, hfz70_3, hfz70_4⟩ := bt5 BK382))
  refine bodyPost_ret (results_ct rfl _ _ gb382 35 #[.int .i64 0, .int .i64 0, .slice none 0 0, .slice none 0 0, .slice none 0 0] (0, 0) _ rfl (fp BK382 rfl) Try.underlying35 rfl (by kernel_rfl)) rfl ?_
  exact ⟨_, _, _, by first | rfl | (simp [e0_, e1_] <;> rfl) | (simp [*, e0_, e1_] <;> rfl), by first | exact Kd.R_nil _ _ _ _ _ | exact Kd.N_nil _ _ _ _ _ | exact Kd.V_nil _ _ _ _ _ | exact Kd.Q_nil _ _ _ _ _ | exact Kd.S_nil _ _ _ _ _, by first | exact Kd.R_nil _ _ _ _ _ | exact Kd.N_nil _ _ _ _ _ | exact Kd.V_nil _ _ _ _ _ | exact Kd.Q_nil _ _ _ _ _ | exact Kd.S_nil _ _ _ _ _, by first | exact Kd.R_nil _ _ _ _ _ | exact Kd.N_nil _ _ _ _ _ | exact Kd.V_nil _ _ _ _ _ | exact Kd.Q_nil _ _ _ _ _ | exact Kd.S_nil _ _ _ _ _, bm HB⟩
end Go.Proofs.Ytjogiiobaakjkaa.F
