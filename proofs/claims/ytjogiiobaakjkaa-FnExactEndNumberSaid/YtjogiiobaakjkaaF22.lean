-- Written by a program of this session (a patched print) out of the translation; Lean checks it.
import Derived.Test.YtjogiiobaakjkaaF0
namespace Go.Proofs.Ytjogiiobaakjkaa.F
open Go.RowKit Go.Proofs.YtjogiiobaakjkaaV.PrintWords Go.Proofs.YtjogiiobaakjkaaV.PrintLast Go.Proofs.YtjogiiobaakjkaaV.PrintMore
attribute [local go_sem] max2_int min2_int max_two min_two max_three min_three max_four min_four
attribute [local go_sem] Try.underlying30 Try.underlying35 Try.underlying44 Try.underlying48 Try.underlying62 Try.underlying66 Try.underlying78 Try.underlying90 Try.underlying112
set_option linter.unusedVariables false
set_option linter.unusedSimpArgs false

/-! ### spec_syEnd: function 77 -/
def spec_syEnd.f (a0_0 : Int) (a0_1 : Int) (l0_2 : List (S78)) (a1_0 : Int) (a1_1 : Int) (a1_2 : Int) : Option (Int) := if a1_0 = 1 then (some a1_2) else (if a1_0 = 2 then (some a0_1) else (some (wrap64 (a0_1 + 1))))
set_option maxHeartbeats 8000000 in
set_option maxRecDepth 100000 in
theorem spec_syEnd.calls (a0_0 : Int) (a0_1 : Int) (A0_2 : Option Addr) (c0_2 : Nat) (l0_2 : List (S78)) (a1_0 : Int) (a1_1 : Int) (a1_2 : Int) (r : Int) (w : World) (hr0_2 : Kd.C k78 w A0_2 l0_2.length l0_2) (hc0_2 : l0_2.length ≤ c0_2) (h : spec_syEnd.f a0_0 a0_1 l0_2 a1_0 a1_1 a1_2 = some r) :
  Calls Try.prog 77 #[.agg #[.int .i64 a0_0, .int .i64 a0_1, .slice A0_2 l0_2.length c0_2], .agg #[.int .i64 a1_0, .int .i64 a1_1, .int .i64 a1_2]] w fun e w' => e = .returned (.int .i64 r) ∧ Below w.heap.size w w' := by
 have HR0_2 := Aside0.mk hr0_2
 have HC0_2 := Aside0.mk hc0_2
 clear hr0_2 hc0_2
 have HB := Aside0.mk (Below.refl w.heap.size w)
 have H : (if a1_0 = 1 then (some a1_2) else (if a1_0 = 2 then (some a0_1) else (some (wrap64 (a0_1 + 1))))) = some r := h
 clear h
 by_cases c3 : a1_0 = 1
 ·rw [if_pos c3] at H
  have c3b0 : (a1_0 == 1) = true := beq_iff_eq.mpr c3
  have c3b1 : (a1_0 != 1) = false := bne_eq_false_iff_eq.mpr c3
  clear c3
  obtain rfl := Option.some.inj H
  go_enter Try.func77, Try.ntmps77
  go_wp2_with (first | ((with_reducible refine gate_dst (N := 2) rfl ?_); refine box_event ?hg (N := 2) ?hd (cs := #[.int .i64 a0_0, .int .i64 a0_1, .slice A0_2 l0_2.length c0_2]) (t := 48) ?hr ?_; (case hd => rfl); (case hg => rfl); (case hr => first | (go_simp; done) | (go_simp; rfl)); intro gb642 hg w4 hbox hb; refine ev4 (bs HB hb) (hbox) (gle hg HB) (gle hg HB) ?_; clear HB; intro HB BK642 GW642 GE642; clear hb hbox hg) | ((with_reducible refine gate_dst (N := 3) rfl ?_); refine box_event ?hg (N := 3) ?hd (cs := #[.int .i64 a1_0, .int .i64 a1_1, .int .i64 a1_2]) (t := 90) ?hr ?_; (case hd => rfl); (case hg => rfl); (case hr => first | (go_simp; done) | (go_simp; rfl)); intro gb643 hg w5 hbox hb; refine ev7 (kb BK642 hb) (bs HB hb) (hbox) (gle hg HB) (gle hg HB) (gnf hg BK642) (gne hg BK642) ?_; clear BK642 HB; intro BK642 HB BK643 GW643 GE643 NB642_643 NB643_642; clear hb hbox hg; have hnb6 := NB643_642.out; have hnc6 := NB642_643.out; obtain ⟨hcz7_0, hcz7_1, hcz7_2, hfz7_0, hfz7_1, hfz7_2⟩ := bt3 BK643))
  go_ret
  exact ⟨by first | rfl | (simp [e0_, e1_] <;> rfl) | (simp [*, e0_, e1_] <;> rfl), bm HB⟩
 ·rw [if_neg c3] at H
  have c3b0 : (a1_0 == 1) = false := beq_eq_false_iff_ne.mpr c3
  have c3b1 : (a1_0 != 1) = true := bne_iff_ne.mpr c3
  by_cases c8 : a1_0 = 2
  ·rw [if_pos c8] at H
   have c8b0 : (a1_0 == 2) = true := beq_iff_eq.mpr c8
   have c8b1 : (a1_0 != 2) = false := bne_eq_false_iff_eq.mpr c8
   clear c8
   obtain rfl := Option.some.inj H
   go_enter Try.func77, Try.ntmps77
   go_wp2_with (first | ((with_reducible refine gate_dst (N := 2) rfl ?_); refine box_event ?hg (N := 2) ?hd (cs := #[.int .i64 a0_0, .int .i64 a0_1, .slice A0_2 l0_2.length c0_2]) (t := 48) ?hr ?_; (case hd => rfl); (case hg => rfl); (case hr => first | (go_simp; done) | (go_simp; rfl)); intro gb642 hg w9 hbox hb; refine ev4 (bs HB hb) (hbox) (gle hg HB) (gle hg HB) ?_; clear HB; intro HB BK642 GW642 GE642; clear hb hbox hg) | ((with_reducible refine gate_dst (N := 3) rfl ?_); refine box_event ?hg (N := 3) ?hd (cs := #[.int .i64 a1_0, .int .i64 a1_1, .int .i64 a1_2]) (t := 90) ?hr ?_; (case hd => rfl); (case hg => rfl); (case hr => first | (go_simp; done) | (go_simp; rfl)); intro gb643 hg w10 hbox hb; refine ev7 (kb BK642 hb) (bs HB hb) (hbox) (gle hg HB) (gle hg HB) (gnf hg BK642) (gne hg BK642) ?_; clear BK642 HB; intro BK642 HB BK643 GW643 GE643 NB642_643 NB643_642; clear hb hbox hg; have hnb11 := NB643_642.out; have hnc11 := NB642_643.out; obtain ⟨hcz12_0, hcz12_1, hcz12_2, hfz12_0, hfz12_1, hfz12_2⟩ := bt3 BK643; obtain ⟨hcz13_0, hcz13_1, hcz13_2, hfz13_0, hfz13_1, hfz13_2⟩ := bt3 BK642))
   go_ret
   exact ⟨by first | rfl | (simp [e0_, e1_] <;> rfl) | (simp [*, e0_, e1_] <;> rfl), bm HB⟩
  ·rw [if_neg c8] at H
   have c8b0 : (a1_0 == 2) = false := beq_eq_false_iff_ne.mpr c8
   have c8b1 : (a1_0 != 2) = true := bne_iff_ne.mpr c8
   obtain rfl := Option.some.inj H
   go_enter Try.func77, Try.ntmps77
   go_wp2_with (first | ((with_reducible refine gate_dst (N := 2) rfl ?_); refine box_event ?hg (N := 2) ?hd (cs := #[.int .i64 a0_0, .int .i64 a0_1, .slice A0_2 l0_2.length c0_2]) (t := 48) ?hr ?_; (case hd => rfl); (case hg => rfl); (case hr => first | (go_simp; done) | (go_simp; rfl)); intro gb642 hg w14 hbox hb; refine ev4 (bs HB hb) (hbox) (gle hg HB) (gle hg HB) ?_; clear HB; intro HB BK642 GW642 GE642; clear hb hbox hg) | ((with_reducible refine gate_dst (N := 3) rfl ?_); refine box_event ?hg (N := 3) ?hd (cs := #[.int .i64 a1_0, .int .i64 a1_1, .int .i64 a1_2]) (t := 90) ?hr ?_; (case hd => rfl); (case hg => rfl); (case hr => first | (go_simp; done) | (go_simp; rfl)); intro gb643 hg w15 hbox hb; refine ev7 (kb BK642 hb) (bs HB hb) (hbox) (gle hg HB) (gle hg HB) (gnf hg BK642) (gne hg BK642) ?_; clear BK642 HB; intro BK642 HB BK643 GW643 GE643 NB642_643 NB643_642; clear hb hbox hg; have hnb16 := NB643_642.out; have hnc16 := NB642_643.out; obtain ⟨hcz17_0, hcz17_1, hcz17_2, hfz17_0, hfz17_1, hfz17_2⟩ := bt3 BK643; obtain ⟨hcz18_0, hcz18_1, hcz18_2, hfz18_0, hfz18_1, hfz18_2⟩ := bt3 BK642))
   go_ret
   exact ⟨by first | rfl | (simp [e0_, e1_] <;> rfl) | (simp [*, e0_, e1_] <;> rfl), bm HB⟩

/-! ### impl_endNumber: function 80 -/
def impl_endNumber.f (a0_0 : Int) (a0_1 : Int) (l0_2 : List (S78)) (a1_0 : Int) (a1_1 : Int) (a1_2 : Int) : Option (Int) := if a1_0 = 1 then (some a1_2) else (if a1_0 = 2 then (some a0_1) else (some (wrap64 (a0_1 + 1))))
set_option maxHeartbeats 8000000 in
set_option maxRecDepth 100000 in
theorem impl_endNumber.calls (a0_0 : Int) (a0_1 : Int) (A0_2 : Option Addr) (c0_2 : Nat) (l0_2 : List (S78)) (a1_0 : Int) (a1_1 : Int) (a1_2 : Int) (r : Int) (w : World) (hr0_2 : Kd.C k78 w A0_2 l0_2.length l0_2) (hc0_2 : l0_2.length ≤ c0_2) (h : impl_endNumber.f a0_0 a0_1 l0_2 a1_0 a1_1 a1_2 = some r) :
  Calls Try.prog 80 #[.agg #[.int .i64 a0_0, .int .i64 a0_1, .slice A0_2 l0_2.length c0_2], .agg #[.int .i64 a1_0, .int .i64 a1_1, .int .i64 a1_2]] w fun e w' => e = .returned (.int .i64 r) ∧ Below w.heap.size w w' := by
 have HR0_2 := Aside0.mk hr0_2
 have HC0_2 := Aside0.mk hc0_2
 clear hr0_2 hc0_2
 have HB := Aside0.mk (Below.refl w.heap.size w)
 have H : (if a1_0 = 1 then (some a1_2) else (if a1_0 = 2 then (some a0_1) else (some (wrap64 (a0_1 + 1))))) = some r := h
 clear h
 by_cases c3 : a1_0 = 1
 ·rw [if_pos c3] at H
  have c3b0 : (a1_0 == 1) = true := beq_iff_eq.mpr c3
  have c3b1 : (a1_0 != 1) = false := bne_eq_false_iff_eq.mpr c3
  clear c3
  obtain rfl := Option.some.inj H
  go_enter Try.func80, Try.ntmps80
  go_wp2_with (first | ((with_reducible refine gate_dst (N := 2) rfl ?_); refine box_event ?hg (N := 2) ?hd (cs := #[.int .i64 a0_0, .int .i64 a0_1, .slice A0_2 l0_2.length c0_2]) (t := 48) ?hr ?_; (case hd => rfl); (case hg => rfl); (case hr => first | (go_simp; done) | (go_simp; rfl)); intro gb767 hg w4 hbox hb; refine ev4 (bs HB hb) (hbox) (gle hg HB) (gle hg HB) ?_; clear HB; intro HB BK767 GW767 GE767; clear hb hbox hg) | ((with_reducible refine gate_dst (N := 3) rfl ?_); refine box_event ?hg (N := 3) ?hd (cs := #[.int .i64 a1_0, .int .i64 a1_1, .int .i64 a1_2]) (t := 90) ?hr ?_; (case hd => rfl); (case hg => rfl); (case hr => first | (go_simp; done) | (go_simp; rfl)); intro gb768 hg w5 hbox hb; refine ev7 (kb BK767 hb) (bs HB hb) (hbox) (gle hg HB) (gle hg HB) (gnf hg BK767) (gne hg BK767) ?_; clear BK767 HB; intro BK767 HB BK768 GW768 GE768 NB767_768 NB768_767; clear hb hbox hg; have hnb6 := NB768_767.out; have hnc6 := NB767_768.out; obtain ⟨hcz7_0, hcz7_1, hcz7_2, hfz7_0, hfz7_1, hfz7_2⟩ := bt3 BK768))
  go_ret
  exact ⟨by first | rfl | (simp [e0_, e1_] <;> rfl) | (simp [*, e0_, e1_] <;> rfl), bm HB⟩
 ·rw [if_neg c3] at H
  have c3b0 : (a1_0 == 1) = false := beq_eq_false_iff_ne.mpr c3
  have c3b1 : (a1_0 != 1) = true := bne_iff_ne.mpr c3
  by_cases c8 : a1_0 = 2
  ·rw [if_pos c8] at H
   have c8b0 : (a1_0 == 2) = true := beq_iff_eq.mpr c8
   have c8b1 : (a1_0 != 2) = false := bne_eq_false_iff_eq.mpr c8
   clear c8
   obtain rfl := Option.some.inj H
   go_enter Try.func80, Try.ntmps80
   go_wp2_with (first | ((with_reducible refine gate_dst (N := 2) rfl ?_); refine box_event ?hg (N := 2) ?hd (cs := #[.int .i64 a0_0, .int .i64 a0_1, .slice A0_2 l0_2.length c0_2]) (t := 48) ?hr ?_; (case hd => rfl); (case hg => rfl); (case hr => first | (go_simp; done) | (go_simp; rfl)); intro gb767 hg w9 hbox hb; refine ev4 (bs HB hb) (hbox) (gle hg HB) (gle hg HB) ?_; clear HB; intro HB BK767 GW767 GE767; clear hb hbox hg) | ((with_reducible refine gate_dst (N := 3) rfl ?_); refine box_event ?hg (N := 3) ?hd (cs := #[.int .i64 a1_0, .int .i64 a1_1, .int .i64 a1_2]) (t := 90) ?hr ?_; (case hd => rfl); (case hg => rfl); (case hr => first | (go_simp; done) | (go_simp; rfl)); intro gb768 hg w10 hbox hb; refine ev7 (kb BK767 hb) (bs HB hb) (hbox) (gle hg HB) (gle hg HB) (gnf hg BK767) (gne hg BK767) ?_; clear BK767 HB; intro BK767 HB BK768 GW768 GE768 NB767_768 NB768_767; clear hb hbox hg; have hnb11 := NB768_767.out; have hnc11 := NB767_768.out; obtain ⟨hcz12_0, hcz12_1, hcz12_2, hfz12_0, hfz12_1, hfz12_2⟩ := bt3 BK768; obtain ⟨hcz13_0, hcz13_1, hcz13_2, hfz13_0, hfz13_1, hfz13_2⟩ := bt3 BK767))
   go_ret
   exact ⟨by first | rfl | (simp [e0_, e1_] <;> rfl) | (simp [*, e0_, e1_] <;> rfl), bm HB⟩
  ·rw [if_neg c8] at H
   have c8b0 : (a1_0 == 2) = false := beq_eq_false_iff_ne.mpr c8
   have c8b1 : (a1_0 != 2) = true := bne_iff_ne.mpr c8
   obtain rfl := Option.some.inj H
   go_enter Try.func80, Try.ntmps80
   go_wp2_with (first | ((with_reducible refine gate_dst (N := 2) rfl ?_); refine box_event ?hg (N := 2) ?hd (cs := #[.int .i64 a0_0, .int .i64 a0_1, .slice A0_2 l0_2.length c0_2]) (t := 48) ?hr ?_; (case hd => rfl); (case hg => rfl); (case hr => first | (go_simp; done) | (go_simp; rfl)); intro gb767 hg w14 hbox hb; refine ev4 (bs HB hb) (hbox) (gle hg HB) (gle hg HB) ?_; clear HB; intro HB BK767 GW767 GE767; clear hb hbox hg) | ((with_reducible refine gate_dst (N := 3) rfl ?_); refine box_event ?hg (N := 3) ?hd (cs := #[.int .i64 a1_0, .int .i64 a1_1, .int .i64 a1_2]) (t := 90) ?hr ?_; (case hd => rfl); (case hg => rfl); (case hr => first | (go_simp; done) | (go_simp; rfl)); intro gb768 hg w15 hbox hb; refine ev7 (kb BK767 hb) (bs HB hb) (hbox) (gle hg HB) (gle hg HB) (gnf hg BK767) (gne hg BK767) ?_; clear BK767 HB; intro BK767 HB BK768 GW768 GE768 NB767_768 NB768_767; clear hb hbox hg; have hnb16 := NB768_767.out; have hnc16 := NB767_768.out; obtain ⟨hcz17_0, hcz17_1, hcz17_2, hfz17_0, hfz17_1, hfz17_2⟩ := bt3 BK768; obtain ⟨hcz18_0, hcz18_1, hcz18_2, hfz18_0, hfz18_1, hfz18_2⟩ := bt3 BK767))
   go_ret
   exact ⟨by first | rfl | (simp [e0_, e1_] <;> rfl) | (simp [*, e0_, e1_] <;> rfl), bm HB⟩
end Go.Proofs.Ytjogiiobaakjkaa.F
