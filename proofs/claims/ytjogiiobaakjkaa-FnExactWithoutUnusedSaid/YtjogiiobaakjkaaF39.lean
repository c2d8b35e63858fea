-- Written by a program of this session (a patched print) out of the translation; Lean checks it.
import Derived.Test.YtjogiiobaakjkaaF0
import Derived.Test.YtjogiiobaakjkaaF7
import Derived.Test.YtjogiiobaakjkaaF8
import Derived.Test.YtjogiiobaakjkaaF12
import Derived.Test.YtjogiiobaakjkaaF20
import Derived.Test.YtjogiiobaakjkaaF27
import Derived.Test.YtjogiiobaakjkaaF28
namespace Go.Proofs.Ytjogiiobaakjkaa.F
open Go.RowKit Go.Proofs.YtjogiiobaakjkaaV.PrintWords Go.Proofs.YtjogiiobaakjkaaV.PrintLast Go.Proofs.YtjogiiobaakjkaaV.PrintMore
attribute [local go_sem] max2_int min2_int max_two min_two max_three min_three max_four min_four
attribute [local go_sem] Try.underlying30 Try.underlying35 Try.underlying44 Try.underlying48 Try.underlying62 Try.underlying66 Try.underlying78 Try.underlying90 Try.underlying112
set_option linter.unusedVariables false
set_option linter.unusedSimpArgs false

/-! ### spec_WithoutUnused: function 42 -/
def spec_WithoutUnused.l0 : Nat → List Int → Int → Int → Int → Int → List (S78) → Option (Int × Int × (List (S78)) × Bool)
 | 0, _, _, _, _, _, _ => none
 | k + 1, x14, x15, x16, x1190000, x1190001, x1190002 => if x16 < x15 then (if 0 ≤ x16 then (if x16 < (x14.length : Int) then (if 0 ≤ (rd x14 x16) then (if (rd x14 x16) < (x1190002.length : Int) then (spec_WithoutUnused.l0 k x14 x15 (wrap64 (x16 + 1)) x1190000 x1190001 (x1190002.set ((rd x14 x16) : Int).toNat (⟨0, 0⟩ : S78))) else (none)) else (none)) else (none)) else (none)) else (some (x1190000, x1190001, x1190002, true))
def spec_WithoutUnused.f (k : Nat) (a0_0 : Int) (a0_1 : Int) (l0_2 : List (S78)) : Option (Int × Int × (List (S78)) × Bool) := (spec_boGood.f k a0_0 a0_1 l0_2).bind fun t1183 => (if t1183 = true then ((spec_boOwn.f a0_0 a0_1 l0_2).bind fun bt1184 => ((spec_vfUnused.f k a0_0 a0_1 l0_2).bind fun t1190 => (spec_WithoutUnused.l0 k t1190 (t1190.length : Int) 0 bt1184.1 bt1184.2.1 bt1184.2.2))) else (some (0, 0, ([] : List (S78)), false)))
set_option maxHeartbeats 8000000 in
set_option maxRecDepth 100000 in
theorem spec_WithoutUnused.calls (k : Nat) (a0_0 : Int) (a0_1 : Int) (A0_2 : Option Addr) (c0_2 : Nat) (l0_2 : List (S78)) (r1 : Int) (r2 : Int) (r3 : List (S78)) (r4 : Bool) (w : World) (hr0_2 : Kd.C k78 w A0_2 l0_2.length l0_2) (hc0_2 : l0_2.length ≤ c0_2) (h : spec_WithoutUnused.f k a0_0 a0_1 l0_2 = some (r1, r2, r3, r4)) :
  Calls Try.prog 42 #[.agg #[.int .i64 a0_0, .int .i64 a0_1, .slice A0_2 l0_2.length c0_2]] w fun e w' => ∃ v2_ : Value, e = .returned (.tuple #[.agg #[.int .i64 r1, .int .i64 r2, v2_], .bool r4]) ∧ Kd.R k78 78 w' w.heap.size (fun _ => True) v2_ r3 ∧ Below w.heap.size w w' := by
 have HR0_2 := Aside0.mk hr0_2
 have HC0_2 := Aside0.mk hc0_2
 clear hr0_2 hc0_2
 have HB := Aside0.mk (Below.refl w.heap.size w)
 have H : ((spec_boGood.f k a0_0 a0_1 l0_2).bind fun t1183 => (if t1183 = true then ((spec_boOwn.f a0_0 a0_1 l0_2).bind fun bt1184 => ((spec_vfUnused.f k a0_0 a0_1 l0_2).bind fun t1190 => (spec_WithoutUnused.l0 k t1190 (t1190.length : Int) 0 bt1184.1 bt1184.2.1 bt1184.2.2))) else (some (0, 0, ([] : List (S78)), false)))) = some (r1, r2, r3, r4) := h
 clear h
 replace H := Option.bind_eq_some_iff.mp H
 obtain ⟨t1183, A20, H⟩ := H
 replace H : (if t1183 = true then ((spec_boOwn.f a0_0 a0_1 l0_2).bind fun bt1184 => ((spec_vfUnused.f k a0_0 a0_1 l0_2).bind fun t1190 => (spec_WithoutUnused.l0 k t1190 (t1190.length : Int) 0 bt1184.1 bt1184.2.1 bt1184.2.2))) else (some (0, 0, ([] : List (S78)), false))) = some (r1, r2, r3, r4) := H
 have A2 := Aside0.mk A20
 clear A20
 by_cases c3 : t1183 = true
 ·subst c3
  have H1 : ((spec_boOwn.f a0_0 a0_1 l0_2).bind fun bt1184 => ((spec_vfUnused.f k a0_0 a0_1 l0_2).bind fun t1190 => (spec_WithoutUnused.l0 k t1190 (t1190.length : Int) 0 bt1184.1 bt1184.2.1 bt1184.2.2))) = some (r1, r2, r3, r4) := by rw [if_pos rfl] at H; exact H
  clear H
  have H := H1
  clear H1
  replace H := Option.bind_eq_some_iff.mp H
  obtain ⟨⟨t1184, t1185, t1186⟩, A40, H⟩ := H
  replace H : ((spec_vfUnused.f k a0_0 a0_1 l0_2).bind fun t1190 => (spec_WithoutUnused.l0 k t1190 (t1190.length : Int) 0 t1184 t1185 t1186)) = some (r1, r2, r3, r4) := H
  have A4 := Aside0.mk A40
  clear A40
  replace H := Option.bind_eq_some_iff.mp H
  obtain ⟨t1190, A50, H⟩ := H
  replace H : (spec_WithoutUnused.l0 k t1190 (t1190.length : Int) 0 t1184 t1185 t1186) = some (r1, r2, r3, r4) := H
  have A5 := Aside0.mk A50
  clear A50
  have H' := Aside0.mk H
  clear H
  go_enter Try.func42, Try.ntmps42
  go_wp2_with (first | ((with_reducible refine gate_dst (N := 1) rfl ?_); refine box_event ?hg (N := 1) ?hd (cs := #[.int .i64 a0_0, .int .i64 a0_1, .slice A0_2 l0_2.length c0_2]) (t := 48) ?hr ?_; (case hd => rfl); (case hg => rfl); (case hr => first | (go_simp; done) | (go_simp; rfl)); intro gb1181 hg w6 hbox hb; refine ev4 (bs HB hb) (hbox) (gle hg HB) (gle hg HB) ?_; clear HB; intro HB BK1181 GW1181 GE1181; clear hb hbox hg) | ((with_reducible refine gate_dst (N := 2) rfl ?_); refine box_event ?hg (N := 2) ?hd (cs := #[.int .i64 0, .int .i64 0, .slice none 0 0]) (t := 48) ?hr ?_; (case hd => rfl); (case hg => rfl); (case hr => first | (go_simp; done) | (go_simp; rfl)); intro gb1182 hg w7 hbox hb; refine ev7 (kb BK1181 hb) (bs HB hb) (hbox) (gle hg HB) (gle hg HB) (gnf hg BK1181) (gne hg BK1181) ?_; clear BK1181 HB; intro BK1181 HB BK1182 GW1182 GE1182 NB1181_1182 NB1182_1181; clear hb hbox hg; have hnb8 := NB1181_1182.out; have hnc8 := NB1182_1181.out; obtain ⟨hcz9_0, hcz9_1, hcz9_2, hfz9_0, hfz9_1, hfz9_2⟩ := bt3 BK1181) | ((with_reducible refine gate_callee (f := 84) rfl ?_); refine goesL_ (some 8) rfl rfl Try.func84 (by kernel_rfl) rfl #[.agg #[.int .i64 a0_0, .int .i64 a0_1, .slice A0_2 l0_2.length c0_2]] rfl (by (try simp only [ma_, mb_, mc_]); first | done | rfl | (simp only [List.length_drop, List.length_take]; rfl)) ?_; (with_reducible refine (spec_boGood.calls k a0_0 a0_1 _ _ l0_2 true _ (Kd.C_mv (Kd.C_below HR0_2.out HB.out)) HC0_2.out A2.out).mono ?_); rintro e w10 ⟨rfl, hb⟩; refine ⟨_, rfl, ?_⟩; refine ev3 (kb BK1181 hb) (kb BK1182 hb) (bs HB hb) ?_; clear BK1181 BK1182 HB; intro BK1181 BK1182 HB; (try clear hb); (try clear hb2); (try clear hk); (try clear hi); obtain ⟨hcz11_0, hcz11_1, hcz11_2, hfz11_0, hfz11_1, hfz11_2⟩ := bt3 BK1181) | ((with_reducible refine gate_callee (f := 88) rfl ?_); refine goesL_ (some 12) rfl rfl Try.func88 (by kernel_rfl) rfl #[.agg #[.int .i64 a0_0, .int .i64 a0_1, .slice A0_2 l0_2.length c0_2]] rfl (by (try simp only [ma_, mb_, mc_]); first | done | rfl | (simp only [List.length_drop, List.length_take]; rfl)) ?_; (with_reducible refine (spec_boOwn.calls a0_0 a0_1 _ _ l0_2 t1184 t1185 t1186 _ (Kd.C_mv (Kd.C_below HR0_2.out HB.out)) HC0_2.out A4.out).mono ?_); rintro e w12 ⟨v1187, rfl, ho0, hb⟩; refine ⟨_, rfl, ?_⟩; refine ev4 (Kd.R_lower ho0 (below_size (bm HB))) (kb BK1181 hb) (kb BK1182 hb) (bs HB hb) ?_; clear BK1181 BK1182 HB; intro HO1188 BK1181 BK1182 HB; (try clear hb); (try clear hb2); (try clear hk); (try clear hi); (try clear ho0)) | ((with_reducible refine gate_dst (N := 4) rfl ?_); refine box_event ?hg (N := 4) ?hd (cs := #[.int .i64 0, .int .i64 0, .slice none 0 0]) (t := 48) ?hr ?_; (case hd => rfl); (case hg => rfl); (case hr => first | (go_simp; done) | (go_simp; rfl)); intro gb1189 hg w13 hbox hb; refine ev11 (Kd.R_below (Kd.R_mv HO1188.out) hb) (kb BK1181 hb) (kb BK1182 hb) (bs HB hb) (hbox) (gle hg HB) (gle hg HB) (gnf hg BK1181) (gne hg BK1181) (gnf hg BK1182) (gne hg BK1182) ?_; clear HO1188 BK1181 BK1182 HB; intro HO1188 BK1181 BK1182 HB BK1189 GW1189 GE1189 NB1181_1189 NB1189_1181 NB1182_1189 NB1189_1182; clear hb hbox hg; have hnb14 := NB1189_1181.out; have hnc14 := NB1181_1189.out; have hnb15 := NB1189_1182.out; have hnc15 := NB1182_1189.out; obtain ⟨hcz16_0, hcz16_1, hcz16_2, hfz16_0, hfz16_1, hfz16_2⟩ := bt3 BK1189; obtain ⟨Ao17, co17, eo17⟩ := Kd.R_slice HO1188.out; subst eo17; obtain ⟨hcz18_0, hcz18_1, hcz18_2, hfz18_0, hfz18_1, hfz18_2⟩ := bt3 BK1181) | ((with_reducible refine gate_callee (f := 85) rfl ?_); refine goesL_ (some 14) rfl rfl Try.func85 (by kernel_rfl) rfl #[.agg #[.int .i64 a0_0, .int .i64 a0_1, .slice A0_2 l0_2.length c0_2]] rfl (by (try simp only [ma_, mb_, mc_]); first | done | rfl | (simp only [List.length_drop, List.length_take]; rfl)) ?_; (with_reducible refine (spec_vfUnused.calls k a0_0 a0_1 _ _ l0_2 t1190 _ (Kd.C_below HR0_2.out (bm HB)) HC0_2.out A5.out).mono ?_); rintro e w19 ⟨v1191, rfl, ho0, hb⟩; refine ⟨_, rfl, ?_⟩; refine ev6 (Kd.R_below (Kd.R_mv (Kd.R_mono (Kd.R_far (p := ⟨gb1189, 2, none⟩) (Kd.R_far (p := ⟨gb1189, 1, none⟩) (Kd.R_far (p := ⟨gb1189, 0, none⟩) (Kd.R_types HO1188.out BK1189.out (by decide)) (fun _ hk => hk.2) (.int .i64 t1184)) (fun _ hk => hk.2) (.int .i64 t1185)) (fun _ hk => hk.2) (.slice Ao17 t1186.length co17)) (fun _ h_ => h_.1))) hb) (Kd.R_lower ho0 (below_size (bm HB))) (blk_below (g := gb1181) (o := .cells #[.int .i64 a0_0, .int .i64 a0_1, .slice A0_2 l0_2.length c0_2] 48 (0, 0)) (fp BK1181 rfl) hb) (blk_below (g := gb1182) (o := .cells #[.int .i64 0, .int .i64 0, .slice none 0 0] 48 (0, 0)) (fp BK1182 rfl) hb) (blk_below (g := gb1189) (o := .cells #[.int .i64 t1184, .int .i64 t1185, .slice Ao17 t1186.length co17] 48 (0, 0)) (fp BK1189 rfl) hb) (bs HB hb) ?_; clear HO1188 BK1181 BK1182 BK1189 HB; intro HO1188 HO1192 BK1181 BK1182 BK1189 HB; (try clear hb); (try clear hb2); (try clear hk); (try clear hi); (try clear ho0); obtain ⟨Ao20, co20, eo20⟩ := Kd.R_slice HO1192.out; subst eo20))
  go_loopg [16] k (fun kq v16 w' => ∃ (x16_1 : Int) (x1190002_1 : List (S78)) (u1190002 : Value), v16 = .int .i64 x16_1 ∧ Aside0 (spec_WithoutUnused.l0 kq t1190 (t1190.length : Int) x16_1 t1184 t1185 x1190002_1 = some (r1, r2, r3, r4)) ∧ Aside0 (kq ≤ k) ∧ Aside0 (Kd.R (Kd.int .i64) 3 w' w.heap.size (fun _ => True) (.slice Ao20 t1190.length co20) t1190) ∧ Aside0 (Kd.R k78 78 w' w.heap.size (fun _ => True) u1190002 x1190002_1) ∧ Aside0 (w'.heap[gb1181]? = some (.cells #[.int .i64 a0_0, .int .i64 a0_1, (.slice A0_2 l0_2.length c0_2)] 48 (0, 0))) ∧ Aside0 (w'.heap[gb1182]? = some (.cells #[.int .i64 0, .int .i64 0, (.slice none 0 0)] 48 (0, 0))) ∧ Aside0 (w'.heap[gb1189]? = some (.cells #[.int .i64 t1184, .int .i64 t1185, u1190002] 48 (0, 0))) ∧ Aside0 (Below w.heap.size w w'))
  case atStart => exact ⟨(0), (t1186), (.slice Ao17 t1186.length co17), (by first | rfl | (simp; done) | (simp [*]; done)), H', ⟨Nat.le_refl _⟩, ⟨Kd.R_mv HO1192.out⟩, ⟨Kd.R_mv HO1188.out⟩, ⟨km_ BK1181⟩, ⟨km_ BK1182⟩, ⟨km_ BK1189⟩, ⟨bm HB⟩⟩
  case round =>
   clear H'
   try clear c1
   try clear p2
   try clear c3
   try clear c4
   try clear c8
   try clear c14
   try clear c15
   try clear hcz11_0
   try clear hcz11_1
   try clear hcz11_2
   try clear hcz16_0
   try clear hcz16_1
   try clear hcz16_2
   try clear hcz18_0
   try clear hcz18_1
   try clear hcz18_2
   try clear hcz9_0
   try clear hcz9_1
   try clear hcz9_2
   try clear hfz11_0
   try clear hfz11_1
   try clear hfz11_2
   try clear hfz16_0
   try clear hfz16_1
   try clear hfz16_2
   try clear hfz18_0
   try clear hfz18_1
   try clear hfz18_2
   try clear hfz9_0
   try clear hfz9_1
   try clear hfz9_2
   obtain ⟨x16_1, x1190002_1, u1190002, rfl, HA, HK1, HO_14, HO_1190002, BK1181, BK1182, BK1189, HB⟩ := hrel
   cases gk with
   | zero => exact absurd HA.out (by simp [spec_WithoutUnused.l0])
   | succ k1 =>
    have H := HA.out
    clear HA
    simp only [spec_WithoutUnused.l0] at H
    by_cases c21 : x16_1 < (t1190.length : Int)
    ·rw [if_pos c21] at H
     have c21b0 : decide (x16_1 < (t1190.length : Int)) = true := decide_eq_true c21
     clear c21
     by_cases c22 : 0 ≤ x16_1
     ·rw [if_pos c22] at H
      have c22b0 : decide (0 ≤ x16_1) = true := decide_eq_true c22
      clear c22
      by_cases c23 : x16_1 < (t1190.length : Int)
      ·rw [if_pos c23] at H
       have c23b0 : decide (x16_1 < (t1190.length : Int)) = true := decide_eq_true c23
       clear c23
       by_cases c24 : 0 ≤ (rd t1190 x16_1)
       ·rw [if_pos c24] at H
        have c24b0 : decide (0 ≤ (rd t1190 x16_1)) = true := decide_eq_true c24
        clear c24
        by_cases c25 : (rd t1190 x16_1) < (x1190002_1.length : Int)
        ·rw [if_pos c25] at H
         have c25b0 : decide ((rd t1190 x16_1) < (x1190002_1.length : Int)) = true := decide_eq_true c25
         clear c25
         obtain ⟨y1194, hy1194⟩ : ∃ y_ : List (S78), y_ = (x1190002_1.set ((rd t1190 x16_1) : Int).toNat (⟨0, 0⟩ : S78)) := ⟨_, rfl⟩
         replace H : (spec_WithoutUnused.l0 k1 t1190 (t1190.length : Int) (wrap64 (x16_1 + 1)) t1184 t1185 y1194) = some (r1, r2, r3, r4) := by first | (rw [hy1194]; with_reducible exact H) | (have H2_ := (Option.bind_some _ _).symm.trans H; rw [hy1194]; with_reducible exact H2_) | (have H2_ := (Option.bind_some _ _).symm.trans H; with_reducible exact H2_) | with_reducible exact H | (rw [hy1194]; exact H) | exact H
         have Ny1194 := Aside0.mk hy1194
         clear hy1194
         have H' := Aside0.mk H
         clear H
         have p1193 : 0 ≤ (x16_1 : Int) := of_decide_eq_true (by first | (with_reducible assumption) | assumption)
         have q1193 : x16_1 < (t1190.length : Int) := of_decide_eq_true (by first | (with_reducible assumption) | assumption)
         obtain ⟨ad1193, e1193, hx1193_0⟩ := Kd.at_int (Kd.R_reads' HO_14.out).2.2 x16_1 p1193 q1193
         cases e1193
         replace p1193 := eq_true p1193
         replace q1193 := eq_true q1193
         have hnb27 := NB1189_1181.out
         have hnc27 := NB1181_1189.out
         have hnb28 := NB1189_1182.out
         have hnc28 := NB1182_1189.out
         obtain ⟨hcz29_0, hcz29_1, hcz29_2, hfz29_0, hfz29_1, hfz29_2⟩ := bt3 BK1189
         have p26 : 0 ≤ ((rd t1190 x16_1) : Int) := of_decide_eq_true (by first | (with_reducible assumption) | assumption)
         have q26 : ((rd t1190 x16_1) : Int) < ((x1190002_1.length : Int) : Int) := of_decide_eq_true (by first | (with_reducible assumption) | assumption)
         obtain ⟨go26, co26, eo26, gb26, gl26, cl26, HG26⟩ := Kd.R_form HO_1190002.out (by omega)
         (first | cases eo26 | (injection eo26 with ea_ en_ ec_; (first | subst ea_ | (injection ea_ with ea_; subst ea_)); subst ec_; clear en_))
         have GB26 := Aside0.mk gb26
         have GG26 := Aside0.mk HG26
         clear gb26 gl26 HG26
         obtain ⟨ce26, hcl26, hM26, hcc26, hfr26⟩ := Kd.R_elem HO_1190002.out z78 ((rd t1190 x16_1) : Int) p26 q26
         obtain rfl := k78_openM hM26
         have hx26_0 : wr.cell? ⟨go26, ((rd t1190 x16_1) : Int).toNat * 2, none⟩ = some (.int .i64 ((rd_T78 x1190002_1 (rd t1190 x16_1)).f0)) := hcc26 0 _ rfl
         have hx26_1 : wr.cell? ⟨go26, ((rd t1190 x16_1) : Int).toNat * 2 + 1, none⟩ = some (.int .i64 ((rd_T78 x1190002_1 (rd t1190 x16_1)).f1)) := hcc26 1 _ rfl
         have hf26_0 : wr.frozen? ⟨go26, ((rd t1190 x16_1) : Int).toNat * 2, none⟩ = false := hfr26 0
         have hf26_1 : wr.frozen? ⟨go26, ((rd t1190 x16_1) : Int).toNat * 2 + 1, none⟩ = false := hfr26 1
         clear hcl26 hcc26 hfr26 hM26
         replace p26 := eq_true p26
         replace q26 := eq_true q26
         have HX30 := Aside0.mk (show Kd.R k78 78 wr w.heap.size (fun _ => True) (.slice (some ⟨go26, 0, none⟩) x1190002_1.length co26) x1190002_1 from (Kd.R_mv HO_1190002.out))
         obtain ⟨ce30, hcl30, hM30, hcc30, hfr30⟩ := Kd.R_elem HX30.out z78 ((rd t1190 x16_1) : Int) (of_decide_eq_true (by first | (with_reducible assumption) | assumption)) (by have h_ : ((rd t1190 x16_1) : Int) < ((x1190002_1.length : Int) : Int) := of_decide_eq_true (by first | (with_reducible assumption) | assumption); first | exact h_ | (have e_ := (Kd.R_reads' HO_1190002.out).1; omega) | simpa using h_)
         obtain rfl := k78_openM hM30
         have HP30 := Kd.R_seg HX30.out ((rd t1190 x16_1) : Int) (of_decide_eq_true (by first | (with_reducible assumption) | assumption)) (by have h_ : ((rd t1190 x16_1) : Int) < ((x1190002_1.length : Int) : Int) := of_decide_eq_true (by first | (with_reducible assumption) | assumption); first | exact h_ | (have e_ := (Kd.R_reads' HO_1190002.out).1; omega) | simpa using h_) (seg := [.int .i64 0, .int .i64 0]) (j := 0) hcl30 hcc30 (show 2 ≤ 2 from by decide) (x' := (⟨0, 0⟩ : S78)) (k78_mkM _ _ _ (⟨0, 0⟩ : S78) ) (fun _ hk => hk)
         have hx30_0 := hcc30 0 _ rfl
         (try simp only [show (k78).sz = 2 from rfl, Nat.mul_one, Nat.add_zero] at hx30_0)
         have hf30_0 := hfr30 0
         (try simp only [show (k78).sz = 2 from rfl, Nat.mul_one, Nat.add_zero] at hf30_0)
         have hx30_1 := hcc30 1 _ rfl
         (try simp only [show (k78).sz = 2 from rfl, Nat.mul_one, Nat.add_zero] at hx30_1)
         have hf30_1 := hfr30 1
         (try simp only [show (k78).sz = 2 from rfl, Nat.mul_one, Nat.add_zero] at hf30_1)
         clear hcl30 hcc30 hfr30 hM30
         go_wp2_with (first | ((with_reducible refine gate_store (t := 78) (p := 24) rfl ?_); refine store_event (t := 78) (p := 24) (v := ?vo_w31) (w1 := ((wr.setCell ⟨go26, ((rd t1190 x16_1) : Int).toNat * 2, none⟩ (.int .i64 0)).setCell ⟨go26, ((rd t1190 x16_1) : Int).toNat * 2 + 1, none⟩ (.int .i64 0))) ?hg ?ho ?hn ?hr ?_; (case ho => rfl); (case hg => rfl); (case hn => rfl); (case hr => first | (go_simp; done) | (go_simp; rfl)); intro w31 hw; have hg : wr.grownBy w31 (some go26) := (by rw [hw]; exact HP30.2); have hp_ : Kd.R k78 78 w31 w.heap.size (fun _ => True) (.slice (some ⟨go26, 0, none⟩) x1190002_1.length co26) y1194 := (by rw [hw, Ny1194.out]; exact HP30.1); clear HP30; refine ev6 (Kd.R_over' (v := (.slice (some ⟨go26, 0, none⟩) x1190002_1.length co26)) (Kd.R_mv HO_14.out) (Kd.R_typed HO_1190002.out) (by decide) hg) (hp_) (blk_grown (km_ BK1181) hg (Kd.R_ne HO_1190002.out BK1181.out (by decide))) (blk_grown (km_ BK1182) hg (Kd.R_ne HO_1190002.out BK1182.out (by decide))) (blk_grown (km_ BK1189) hg (Kd.R_ne HO_1190002.out BK1189.out (by decide))) ((by rw [hw]; exact below_set (below_set (HB.out) GB26.out) GB26.out : Below w.heap.size w w31)) ?_; clear HO_14 HO_1190002 BK1181 BK1182 BK1189 HB; intro HO_14 HO_1190002 BK1181 BK1182 BK1189 HB; clear hg hw hp_))
         go_roundg k1
         case measure => have := HK1.out; omega
         case rel => exact ⟨(wrap64 (x16_1 + 1)), (y1194), (.slice (some ⟨go26, 0, none⟩) x1190002_1.length co26), (by first | rfl | (simp; done) | (simp [*]; done)), H', ⟨by have := HK1.out; omega⟩, ⟨Kd.R_mv HO_14.out⟩, ⟨Kd.R_mv HO_1190002.out⟩, ⟨km_ BK1181⟩, ⟨km_ BK1182⟩, ⟨km_ BK1189⟩, ⟨bm HB⟩⟩
        ·rw [if_neg c25] at H
         exact absurd H (by simp)
       ·rw [if_neg c24] at H
        exact absurd H (by simp)
      ·rw [if_neg c23] at H
       exact absurd H (by simp)
     ·rw [if_neg c22] at H
      exact absurd H (by simp)
    ·rw [if_neg c21] at H
     have c21b0 : decide (x16_1 < (t1190.length : Int)) = false := decide_eq_false c21
     clear c21
     simp only [Option.some.injEq, Prod.mk.injEq] at H
     obtain ⟨rfl, rfl, rfl, rfl⟩ := H
     have hnb32 := NB1189_1181.out
     have hnc32 := NB1181_1189.out
     have hnb33 := NB1189_1182.out
     have hnc33 := NB1182_1189.out
     obtain ⟨hcz34_0, hcz34_1, hcz34_2, hfz34_0, hfz34_1, hfz34_2⟩ := bt3 BK1189
     have hnb35 := NB1182_1181.out
     have hnc35 := NB1181_1182.out
     obtain ⟨hcz36_0, hcz36_1, hcz36_2, hfz36_0, hfz36_1, hfz36_2⟩ := bt3 BK1182
     obtain ⟨Ao37, co37, eo37⟩ := Kd.R_slice HO_1190002.out
     subst eo37
     go_wp2
     refine bodyPost_ret (results_ct rfl _ _ gb1182 48 #[.int .i64 t1184, .int .i64 t1185, .slice Ao37 x1190002_1.length co37] (0, 0) _ rfl (fp BK1182 rfl) Try.underlying48 rfl (by kernel_rfl)) rfl ?_
     exact ⟨_, by first | rfl | (simp [e0_, e1_] <;> rfl) | (simp [*, e0_, e1_] <;> rfl), Kd.R_mv (Kd.R_mono (ok' := fun k_ => True) (Kd.R_far (p := ⟨gb1182, 2, none⟩) (Kd.R_far (p := ⟨gb1182, 1, none⟩) (Kd.R_far (p := ⟨gb1182, 0, none⟩) (Kd.R_types HO_1190002.out BK1182.out (by decide)) (fun _ hk => hk.2) (.int .i64 t1184)) (fun _ hk => hk.2) (.int .i64 t1185)) (fun _ hk => hk.2) (.slice Ao37 x1190002_1.length co37)) (fun _ hk => trivial)), bm HB⟩
 ·replace c3 := Bool.eq_false_iff.mpr c3
  subst c3
  have H1 : (some (0, 0, ([] : List (S78)), false)) = some (r1, r2, r3, r4) := by rw [if_neg (show ¬ (false = true) by decide)] at H; exact H
  clear H
  have H := H1
  clear H1
  simp only [Option.some.injEq, Prod.mk.injEq] at H
  obtain ⟨rfl, rfl, rfl, rfl⟩ := H
  go_enter Try.func42, Try.ntmps42
  go_wp2_with (first | ((with_reducible refine gate_dst (N := 1) rfl ?_); refine box_event ?hg (N := 1) ?hd (cs := #[.int .i64 a0_0, .int .i64 a0_1, .slice A0_2 l0_2.length c0_2]) (t := 48) ?hr ?_; (case hd => rfl); (case hg => rfl); (case hr => first | (go_simp; done) | (go_simp; rfl)); intro gb1181 hg w38 hbox hb; refine ev4 (bs HB hb) (hbox) (gle hg HB) (gle hg HB) ?_; clear HB; intro HB BK1181 GW1181 GE1181; clear hb hbox hg) | ((with_reducible refine gate_dst (N := 2) rfl ?_); refine box_event ?hg (N := 2) ?hd (cs := #[.int .i64 0, .int .i64 0, .slice none 0 0]) (t := 48) ?hr ?_; (case hd => rfl); (case hg => rfl); (case hr => first | (go_simp; done) | (go_simp; rfl)); intro gb1182 hg w39 hbox hb; refine ev7 (kb BK1181 hb) (bs HB hb) (hbox) (gle hg HB) (gle hg HB) (gnf hg BK1181) (gne hg BK1181) ?_; clear BK1181 HB; intro BK1181 HB BK1182 GW1182 GE1182 NB1181_1182 NB1182_1181; clear hb hbox hg; have hnb40 := NB1181_1182.out; have hnc40 := NB1182_1181.out; obtain ⟨hcz41_0, hcz41_1, hcz41_2, hfz41_0, hfz41_1, hfz41_2⟩ := bt3 BK1181) | ((with_reducible refine gate_callee (f := 84) rfl ?_); refine goesL_ (some 8) rfl rfl Try.func84 (by kernel_rfl) rfl #[.agg #[.int .i64 a0_0, .int .i64 a0_1, .slice A0_2 l0_2.length c0_2]] rfl (by (try simp only [ma_, mb_, mc_]); first | done | rfl | (simp only [List.length_drop, List.length_take]; rfl)) ?_; (with_reducible refine (spec_boGood.calls k a0_0 a0_1 _ _ l0_2 false _ (Kd.C_mv (Kd.C_below HR0_2.out HB.out)) HC0_2.out A2.out).mono ?_); rintro e w42 ⟨rfl, hb⟩; refine ⟨_, rfl, ?_⟩; refine ev3 (kb BK1181 hb) (kb BK1182 hb) (bs HB hb) ?_; clear BK1181 BK1182 HB; intro BK1181 BK1182 HB; (try clear hb); (try clear hb2); (try clear hk); (try clear hi); obtain ⟨hcz43_0, hcz43_1, hcz43_2, hfz43_0, hfz43_1, hfz43_2⟩ := bt3 BK1182))
  refine bodyPost_ret (results_ct rfl _ _ gb1182 48 #[.int .i64 0, .int .i64 0, .slice none 0 0] (0, 0) _ rfl (fp BK1182 rfl) Try.underlying48 rfl (by kernel_rfl)) rfl ?_
  exact ⟨_, by first | rfl | (simp [e0_, e1_] <;> rfl) | (simp [*, e0_, e1_] <;> rfl), by first | exact Kd.R_nil _ _ _ _ _ | exact Kd.N_nil _ _ _ _ _ | exact Kd.V_nil _ _ _ _ _ | exact Kd.Q_nil _ _ _ _ _ | exact Kd.S_nil _ _ _ _ _, bm HB⟩

/-! ### impl_WithoutUnused: function 43 -/
def impl_WithoutUnused.l0 : Nat → List Int → Int → Int → Int → Int → List (S78) → Option (Int × Int × (List (S78)) × Bool)
 | 0, _, _, _, _, _, _ => none
 | k + 1, x4, x20, x21, x1207000, x1207001, x1207002 => if x21 < x20 then (if 0 ≤ x21 then (if x21 < (x4.length : Int) then (if 0 ≤ (rd x4 x21) then (if (rd x4 x21) < (x1207002.length : Int) then (impl_WithoutUnused.l0 k x4 x20 (wrap64 (x21 + 1)) x1207000 x1207001 (x1207002.set ((rd x4 x21) : Int).toNat (⟨0, 0⟩ : S78))) else (none)) else (none)) else (none)) else (none)) else (some (x1207000, x1207001, x1207002, true))
def impl_WithoutUnused.f (k : Nat) (a0_0 : Int) (a0_1 : Int) (l0_2 : List (S78)) : Option (Int × Int × (List (S78)) × Bool) := (impl_UnusedCells.f k a0_0 a0_1 l0_2).bind fun bt1197 => (if bt1197.2 = true then ((impl_copyBoard.f a0_0 a0_1 l0_2).bind fun bt1201 => (impl_WithoutUnused.l0 k bt1197.1 (bt1197.1.length : Int) 0 bt1201.1 bt1201.2.1 bt1201.2.2)) else (some (0, 0, ([] : List (S78)), false)))
set_option maxHeartbeats 8000000 in
set_option maxRecDepth 100000 in
theorem impl_WithoutUnused.calls (k : Nat) (a0_0 : Int) (a0_1 : Int) (A0_2 : Option Addr) (c0_2 : Nat) (l0_2 : List (S78)) (r1 : Int) (r2 : Int) (r3 : List (S78)) (r4 : Bool) (w : World) (hr0_2 : Kd.C k78 w A0_2 l0_2.length l0_2) (hc0_2 : l0_2.length ≤ c0_2) (h : impl_WithoutUnused.f k a0_0 a0_1 l0_2 = some (r1, r2, r3, r4)) :
  Calls Try.prog 43 #[.agg #[.int .i64 a0_0, .int .i64 a0_1, .slice A0_2 l0_2.length c0_2]] w fun e w' => ∃ v2_ : Value, e = .returned (.tuple #[.agg #[.int .i64 r1, .int .i64 r2, v2_], .bool r4]) ∧ Kd.R k78 78 w' w.heap.size (fun _ => True) v2_ r3 ∧ Below w.heap.size w w' := by
 have HR0_2 := Aside0.mk hr0_2
 have HC0_2 := Aside0.mk hc0_2
 clear hr0_2 hc0_2
 have HB := Aside0.mk (Below.refl w.heap.size w)
 have H : ((impl_UnusedCells.f k a0_0 a0_1 l0_2).bind fun bt1197 => (if bt1197.2 = true then ((impl_copyBoard.f a0_0 a0_1 l0_2).bind fun bt1201 => (impl_WithoutUnused.l0 k bt1197.1 (bt1197.1.length : Int) 0 bt1201.1 bt1201.2.1 bt1201.2.2)) else (some (0, 0, ([] : List (S78)), false)))) = some (r1, r2, r3, r4) := h
 clear h
 replace H := Option.bind_eq_some_iff.mp H
 obtain ⟨⟨t1197, t1200⟩, A20, H⟩ := H
 replace H : (if t1200 = true then ((impl_copyBoard.f a0_0 a0_1 l0_2).bind fun bt1201 => (impl_WithoutUnused.l0 k t1197 (t1197.length : Int) 0 bt1201.1 bt1201.2.1 bt1201.2.2)) else (some (0, 0, ([] : List (S78)), false))) = some (r1, r2, r3, r4) := H
 have A2 := Aside0.mk A20
 clear A20
 by_cases c3 : t1200 = true
 ·subst c3
  have H1 : ((impl_copyBoard.f a0_0 a0_1 l0_2).bind fun bt1201 => (impl_WithoutUnused.l0 k t1197 (t1197.length : Int) 0 bt1201.1 bt1201.2.1 bt1201.2.2)) = some (r1, r2, r3, r4) := by rw [if_pos rfl] at H; exact H
  clear H
  have H := H1
  clear H1
  replace H := Option.bind_eq_some_iff.mp H
  obtain ⟨⟨t1201, t1202, t1203⟩, A40, H⟩ := H
  replace H : (impl_WithoutUnused.l0 k t1197 (t1197.length : Int) 0 t1201 t1202 t1203) = some (r1, r2, r3, r4) := H
  have A4 := Aside0.mk A40
  clear A40
  have H' := Aside0.mk H
  clear H
  go_enter Try.func43, Try.ntmps43
  go_wp2_with (first | ((with_reducible refine gate_dst (N := 1) rfl ?_); refine box_event ?hg (N := 1) ?hd (cs := #[.int .i64 a0_0, .int .i64 a0_1, .slice A0_2 l0_2.length c0_2]) (t := 48) ?hr ?_; (case hd => rfl); (case hg => rfl); (case hr => first | (go_simp; done) | (go_simp; rfl)); intro gb1195 hg w5 hbox hb; refine ev4 (bs HB hb) (hbox) (gle hg HB) (gle hg HB) ?_; clear HB; intro HB BK1195 GW1195 GE1195; clear hb hbox hg) | ((with_reducible refine gate_dst (N := 2) rfl ?_); refine box_event ?hg (N := 2) ?hd (cs := #[.int .i64 0, .int .i64 0, .slice none 0 0]) (t := 48) ?hr ?_; (case hd => rfl); (case hg => rfl); (case hr => first | (go_simp; done) | (go_simp; rfl)); intro gb1196 hg w6 hbox hb; refine ev7 (kb BK1195 hb) (bs HB hb) (hbox) (gle hg HB) (gle hg HB) (gnf hg BK1195) (gne hg BK1195) ?_; clear BK1195 HB; intro BK1195 HB BK1196 GW1196 GE1196 NB1195_1196 NB1196_1195; clear hb hbox hg; have hnb7 := NB1195_1196.out; have hnc7 := NB1196_1195.out; obtain ⟨hcz8_0, hcz8_1, hcz8_2, hfz8_0, hfz8_1, hfz8_2⟩ := bt3 BK1195) | ((with_reducible refine gate_callee (f := 38) rfl ?_); refine goesL_ (some 11) rfl rfl Try.func38 (by kernel_rfl) rfl #[.agg #[.int .i64 a0_0, .int .i64 a0_1, .slice A0_2 l0_2.length c0_2]] rfl (by (try simp only [ma_, mb_, mc_]); first | done | rfl | (simp only [List.length_drop, List.length_take]; rfl)) ?_; (with_reducible refine (impl_UnusedCells.calls k a0_0 a0_1 _ _ l0_2 t1197 true _ (Kd.C_mv (Kd.C_below HR0_2.out HB.out)) HC0_2.out A2.out).mono ?_); rintro e w9 ⟨v1198, rfl, ho0, hb⟩; refine ⟨_, rfl, ?_⟩; refine ev4 (Kd.R_lower ho0 (below_size (bm HB))) (kb BK1195 hb) (kb BK1196 hb) (bs HB hb) ?_; clear BK1195 BK1196 HB; intro HO1199 BK1195 BK1196 HB; (try clear hb); (try clear hb2); (try clear hk); (try clear hi); (try clear ho0); obtain ⟨hcz10_0, hcz10_1, hcz10_2, hfz10_0, hfz10_1, hfz10_2⟩ := bt3 BK1195) | ((with_reducible refine gate_callee (f := 89) rfl ?_); refine goesL_ (some 18) rfl rfl Try.func89 (by kernel_rfl) rfl #[.agg #[.int .i64 a0_0, .int .i64 a0_1, .slice A0_2 l0_2.length c0_2]] rfl (by (try simp only [ma_, mb_, mc_]); first | done | rfl | (simp only [List.length_drop, List.length_take]; rfl)) ?_; (with_reducible refine (impl_copyBoard.calls a0_0 a0_1 _ _ l0_2 t1201 t1202 t1203 _ (Kd.C_mv (Kd.C_below HR0_2.out HB.out)) HC0_2.out A4.out).mono ?_); rintro e w11 ⟨v1204, rfl, ho0, hb⟩; refine ⟨_, rfl, ?_⟩; refine ev5 (Kd.R_below (Kd.R_mv HO1199.out) hb) (Kd.R_lower ho0 (below_size (bm HB))) (kb BK1195 hb) (kb BK1196 hb) (bs HB hb) ?_; clear HO1199 BK1195 BK1196 HB; intro HO1199 HO1205 BK1195 BK1196 HB; (try clear hb); (try clear hb2); (try clear hk); (try clear hi); (try clear ho0)) | ((with_reducible refine gate_dst (N := 6) rfl ?_); refine box_event ?hg (N := 6) ?hd (cs := #[.int .i64 0, .int .i64 0, .slice none 0 0]) (t := 48) ?hr ?_; (case hd => rfl); (case hg => rfl); (case hr => first | (go_simp; done) | (go_simp; rfl)); intro gb1206 hg w12 hbox hb; refine ev12 (Kd.R_below (Kd.R_mv HO1199.out) hb) (Kd.R_below (Kd.R_mv HO1205.out) hb) (kb BK1195 hb) (kb BK1196 hb) (bs HB hb) (hbox) (gle hg HB) (gle hg HB) (gnf hg BK1195) (gne hg BK1195) (gnf hg BK1196) (gne hg BK1196) ?_; clear HO1199 HO1205 BK1195 BK1196 HB; intro HO1199 HO1205 BK1195 BK1196 HB BK1206 GW1206 GE1206 NB1195_1206 NB1206_1195 NB1196_1206 NB1206_1196; clear hb hbox hg; have hnb13 := NB1206_1195.out; have hnc13 := NB1195_1206.out; have hnb14 := NB1206_1196.out; have hnc14 := NB1196_1206.out; obtain ⟨hcz15_0, hcz15_1, hcz15_2, hfz15_0, hfz15_1, hfz15_2⟩ := bt3 BK1206; obtain ⟨Ao16, co16, eo16⟩ := Kd.R_slice HO1205.out; subst eo16; obtain ⟨Ao17, co17, eo17⟩ := Kd.R_slice HO1199.out; subst eo17))
  go_loopg [21] k (fun kq v21 w' => ∃ (x21_1 : Int) (x1207002_1 : List (S78)) (u1207002 : Value), v21 = .int .i64 x21_1 ∧ Aside0 (impl_WithoutUnused.l0 kq t1197 (t1197.length : Int) x21_1 t1201 t1202 x1207002_1 = some (r1, r2, r3, r4)) ∧ Aside0 (kq ≤ k) ∧ Aside0 (Kd.R (Kd.int .i64) 3 w' w.heap.size (fun _ => True) (.slice Ao17 t1197.length co17) t1197) ∧ Aside0 (Kd.R k78 78 w' w.heap.size (fun _ => True) u1207002 x1207002_1) ∧ Aside0 (w'.heap[gb1195]? = some (.cells #[.int .i64 a0_0, .int .i64 a0_1, (.slice A0_2 l0_2.length c0_2)] 48 (0, 0))) ∧ Aside0 (w'.heap[gb1196]? = some (.cells #[.int .i64 0, .int .i64 0, (.slice none 0 0)] 48 (0, 0))) ∧ Aside0 (w'.heap[gb1206]? = some (.cells #[.int .i64 t1201, .int .i64 t1202, u1207002] 48 (0, 0))) ∧ Aside0 (Below w.heap.size w w'))
  case atStart => exact ⟨(0), (t1203), (.slice Ao16 t1203.length co16), (by first | rfl | (simp; done) | (simp [*]; done)), H', ⟨Nat.le_refl _⟩, ⟨Kd.R_mv (Kd.R_mono (ok' := fun k_ => True) (Kd.R_far (p := ⟨gb1206, 2, none⟩) (Kd.R_far (p := ⟨gb1206, 1, none⟩) (Kd.R_far (p := ⟨gb1206, 0, none⟩) (Kd.R_types HO1199.out BK1206.out (by decide)) (fun _ hk => hk.2) (.int .i64 t1201)) (fun _ hk => hk.2) (.int .i64 t1202)) (fun _ hk => hk.2) (.slice Ao16 t1203.length co16)) (fun _ hk => trivial))⟩, ⟨Kd.R_mv (Kd.R_mono (ok' := fun k_ => True) (Kd.R_far (p := ⟨gb1206, 2, none⟩) (Kd.R_far (p := ⟨gb1206, 1, none⟩) (Kd.R_far (p := ⟨gb1206, 0, none⟩) (Kd.R_types HO1205.out BK1206.out (by decide)) (fun _ hk => hk.2) (.int .i64 t1201)) (fun _ hk => hk.2) (.int .i64 t1202)) (fun _ hk => hk.2) (.slice Ao16 t1203.length co16)) (fun _ hk => trivial))⟩, ⟨fp BK1195 rfl⟩, ⟨fp BK1196 rfl⟩, ⟨fp BK1206 rfl⟩, ⟨bm HB⟩⟩
  case round =>
   clear H'
   try clear c1
   try clear p2
   try clear c3
   try clear c4
   try clear c7
   try clear c8
   try clear c13
   try clear c14
   try clear hcz10_0
   try clear hcz10_1
   try clear hcz10_2
   try clear hcz15_0
   try clear hcz15_1
   try clear hcz15_2
   try clear hcz8_0
   try clear hcz8_1
   try clear hcz8_2
   try clear hfz10_0
   try clear hfz10_1
   try clear hfz10_2
   try clear hfz15_0
   try clear hfz15_1
   try clear hfz15_2
   try clear hfz8_0
   try clear hfz8_1
   try clear hfz8_2
   obtain ⟨x21_1, x1207002_1, u1207002, rfl, HA, HK1, HO_4, HO_1207002, BK1195, BK1196, BK1206, HB⟩ := hrel
   cases gk with
   | zero => exact absurd HA.out (by simp [impl_WithoutUnused.l0])
   | succ k1 =>
    have H := HA.out
    clear HA
    simp only [impl_WithoutUnused.l0] at H
    by_cases c18 : x21_1 < (t1197.length : Int)
    ·rw [if_pos c18] at H
     have c18b0 : decide (x21_1 < (t1197.length : Int)) = true := decide_eq_true c18
     clear c18
     by_cases c19 : 0 ≤ x21_1
     ·rw [if_pos c19] at H
      have c19b0 : decide (0 ≤ x21_1) = true := decide_eq_true c19
      clear c19
      by_cases c20 : x21_1 < (t1197.length : Int)
      ·rw [if_pos c20] at H
       have c20b0 : decide (x21_1 < (t1197.length : Int)) = true := decide_eq_true c20
       clear c20
       by_cases c21 : 0 ≤ (rd t1197 x21_1)
       ·rw [if_pos c21] at H
        have c21b0 : decide (0 ≤ (rd t1197 x21_1)) = true := decide_eq_true c21
        clear c21
        by_cases c22 : (rd t1197 x21_1) < (x1207002_1.length : Int)
        ·rw [if_pos c22] at H
         have c22b0 : decide ((rd t1197 x21_1) < (x1207002_1.length : Int)) = true := decide_eq_true c22
         clear c22
         obtain ⟨y1208, hy1208⟩ : ∃ y_ : List (S78), y_ = (x1207002_1.set ((rd t1197 x21_1) : Int).toNat (⟨0, 0⟩ : S78)) := ⟨_, rfl⟩
         replace H : (impl_WithoutUnused.l0 k1 t1197 (t1197.length : Int) (wrap64 (x21_1 + 1)) t1201 t1202 y1208) = some (r1, r2, r3, r4) := by first | (rw [hy1208]; with_reducible exact H) | (have H2_ := (Option.bind_some _ _).symm.trans H; rw [hy1208]; with_reducible exact H2_) | (have H2_ := (Option.bind_some _ _).symm.trans H; with_reducible exact H2_) | with_reducible exact H | (rw [hy1208]; exact H) | exact H
         have Ny1208 := Aside0.mk hy1208
         clear hy1208
         have H' := Aside0.mk H
         clear H
         have p1207 : 0 ≤ (x21_1 : Int) := of_decide_eq_true (by first | (with_reducible assumption) | assumption)
         have q1207 : x21_1 < (t1197.length : Int) := of_decide_eq_true (by first | (with_reducible assumption) | assumption)
         obtain ⟨ad1207, e1207, hx1207_0⟩ := Kd.at_int (Kd.R_reads' HO_4.out).2.2 x21_1 p1207 q1207
         cases e1207
         replace p1207 := eq_true p1207
         replace q1207 := eq_true q1207
         have hnb24 := NB1206_1195.out
         have hnc24 := NB1195_1206.out
         have hnb25 := NB1206_1196.out
         have hnc25 := NB1196_1206.out
         obtain ⟨hcz26_0, hcz26_1, hcz26_2, hfz26_0, hfz26_1, hfz26_2⟩ := bt3 BK1206
         have p23 : 0 ≤ ((rd t1197 x21_1) : Int) := of_decide_eq_true (by first | (with_reducible assumption) | assumption)
         have q23 : ((rd t1197 x21_1) : Int) < ((x1207002_1.length : Int) : Int) := of_decide_eq_true (by first | (with_reducible assumption) | assumption)
         obtain ⟨go23, co23, eo23, gb23, gl23, cl23, HG23⟩ := Kd.R_form HO_1207002.out (by omega)
         (first | cases eo23 | (injection eo23 with ea_ en_ ec_; (first | subst ea_ | (injection ea_ with ea_; subst ea_)); subst ec_; clear en_))
         have GB23 := Aside0.mk gb23
         have GG23 := Aside0.mk HG23
         clear gb23 gl23 HG23
         obtain ⟨ce23, hcl23, hM23, hcc23, hfr23⟩ := Kd.R_elem HO_1207002.out z78 ((rd t1197 x21_1) : Int) p23 q23
         obtain rfl := k78_openM hM23
         have hx23_0 : wr.cell? ⟨go23, ((rd t1197 x21_1) : Int).toNat * 2, none⟩ = some (.int .i64 ((rd_T78 x1207002_1 (rd t1197 x21_1)).f0)) := hcc23 0 _ rfl
         have hx23_1 : wr.cell? ⟨go23, ((rd t1197 x21_1) : Int).toNat * 2 + 1, none⟩ = some (.int .i64 ((rd_T78 x1207002_1 (rd t1197 x21_1)).f1)) := hcc23 1 _ rfl
         have hf23_0 : wr.frozen? ⟨go23, ((rd t1197 x21_1) : Int).toNat * 2, none⟩ = false := hfr23 0
         have hf23_1 : wr.frozen? ⟨go23, ((rd t1197 x21_1) : Int).toNat * 2 + 1, none⟩ = false := hfr23 1
         clear hcl23 hcc23 hfr23 hM23
         replace p23 := eq_true p23
         replace q23 := eq_true q23
         have HX27 := Aside0.mk (show Kd.R k78 78 wr w.heap.size (fun _ => True) (.slice (some ⟨go23, 0, none⟩) x1207002_1.length co23) x1207002_1 from (Kd.R_mv HO_1207002.out))
         obtain ⟨ce27, hcl27, hM27, hcc27, hfr27⟩ := Kd.R_elem HX27.out z78 ((rd t1197 x21_1) : Int) (of_decide_eq_true (by first | (with_reducible assumption) | assumption)) (by have h_ : ((rd t1197 x21_1) : Int) < ((x1207002_1.length : Int) : Int) := of_decide_eq_true (by first | (with_reducible assumption) | assumption); first | exact h_ | (have e_ := (Kd.R_reads' HO_1207002.out).1; omega) | simpa using h_)
         obtain rfl := k78_openM hM27
         have HP27 := Kd.R_seg HX27.out ((rd t1197 x21_1) : Int) (of_decide_eq_true (by first | (with_reducible assumption) | assumption)) (by have h_ : ((rd t1197 x21_1) : Int) < ((x1207002_1.length : Int) : Int) := of_decide_eq_true (by first | (with_reducible assumption) | assumption); first | exact h_ | (have e_ := (Kd.R_reads' HO_1207002.out).1; omega) | simpa using h_) (seg := [.int .i64 0, .int .i64 0]) (j := 0) hcl27 hcc27 (show 2 ≤ 2 from by decide) (x' := (⟨0, 0⟩ : S78)) (k78_mkM _ _ _ (⟨0, 0⟩ : S78) ) (fun _ hk => hk)
         have hx27_0 := hcc27 0 _ rfl
         (try simp only [show (k78).sz = 2 from rfl, Nat.mul_one, Nat.add_zero] at hx27_0)
         have hf27_0 := hfr27 0
         (try simp only [show (k78).sz = 2 from rfl, Nat.mul_one, Nat.add_zero] at hf27_0)
         have hx27_1 := hcc27 1 _ rfl
         (try simp only [show (k78).sz = 2 from rfl, Nat.mul_one, Nat.add_zero] at hx27_1)
         have hf27_1 := hfr27 1
         (try simp only [show (k78).sz = 2 from rfl, Nat.mul_one, Nat.add_zero] at hf27_1)
         clear hcl27 hcc27 hfr27 hM27
         go_wp2_with (first | ((with_reducible refine gate_store (t := 78) (p := 29) rfl ?_); refine store_event (t := 78) (p := 29) (v := ?vo_w28) (w1 := ((wr.setCell ⟨go23, ((rd t1197 x21_1) : Int).toNat * 2, none⟩ (.int .i64 0)).setCell ⟨go23, ((rd t1197 x21_1) : Int).toNat * 2 + 1, none⟩ (.int .i64 0))) ?hg ?ho ?hn ?hr ?_; (case ho => rfl); (case hg => rfl); (case hn => rfl); (case hr => first | (go_simp; done) | (go_simp; rfl)); intro w28 hw; have hg : wr.grownBy w28 (some go23) := (by rw [hw]; exact HP27.2); have hp_ : Kd.R k78 78 w28 w.heap.size (fun _ => True) (.slice (some ⟨go23, 0, none⟩) x1207002_1.length co23) y1208 := (by rw [hw, Ny1208.out]; exact HP27.1); clear HP27; refine ev6 (Kd.R_over' (v := (.slice (some ⟨go23, 0, none⟩) x1207002_1.length co23)) (Kd.R_mv HO_4.out) (Kd.R_typed HO_1207002.out) (by decide) hg) (hp_) (blk_grown (km_ BK1195) hg (Kd.R_ne HO_1207002.out BK1195.out (by decide))) (blk_grown (km_ BK1196) hg (Kd.R_ne HO_1207002.out BK1196.out (by decide))) (blk_grown (km_ BK1206) hg (Kd.R_ne HO_1207002.out BK1206.out (by decide))) ((by rw [hw]; exact below_set (below_set (HB.out) GB23.out) GB23.out : Below w.heap.size w w28)) ?_; clear HO_4 HO_1207002 BK1195 BK1196 BK1206 HB; intro HO_4 HO_1207002 BK1195 BK1196 BK1206 HB; clear hg hw hp_))
         go_roundg k1
         case measure => have := HK1.out; omega
         case rel => exact ⟨(wrap64 (x21_1 + 1)), (y1208), (.slice (some ⟨go23, 0, none⟩) x1207002_1.length co23), (by first | rfl | (simp; done) | (simp [*]; done)), H', ⟨by have := HK1.out; omega⟩, ⟨Kd.R_mv HO_4.out⟩, ⟨Kd.R_mv HO_1207002.out⟩, ⟨km_ BK1195⟩, ⟨km_ BK1196⟩, ⟨km_ BK1206⟩, ⟨bm HB⟩⟩
        ·rw [if_neg c22] at H
         exact absurd H (by simp)
       ·rw [if_neg c21] at H
        exact absurd H (by simp)
      ·rw [if_neg c20] at H
       exact absurd H (by simp)
     ·rw [if_neg c19] at H
      exact absurd H (by simp)
    ·rw [if_neg c18] at H
     have c18b0 : decide (x21_1 < (t1197.length : Int)) = false := decide_eq_false c18
     clear c18
     simp only [Option.some.injEq, Prod.mk.injEq] at H
     obtain ⟨rfl, rfl, rfl, rfl⟩ := H
     have hnb29 := NB1206_1195.out
     have hnc29 := NB1195_1206.out
     have hnb30 := NB1206_1196.out
     have hnc30 := NB1196_1206.out
     obtain ⟨hcz31_0, hcz31_1, hcz31_2, hfz31_0, hfz31_1, hfz31_2⟩ := bt3 BK1206
     have hnb32 := NB1196_1195.out
     have hnc32 := NB1195_1196.out
     obtain ⟨hcz33_0, hcz33_1, hcz33_2, hfz33_0, hfz33_1, hfz33_2⟩ := bt3 BK1196
     obtain ⟨Ao34, co34, eo34⟩ := Kd.R_slice HO_1207002.out
     subst eo34
     go_wp2
     refine bodyPost_ret (results_ct rfl _ _ gb1196 48 #[.int .i64 t1201, .int .i64 t1202, .slice Ao34 x1207002_1.length co34] (0, 0) _ rfl (fp BK1196 rfl) Try.underlying48 rfl (by kernel_rfl)) rfl ?_
     exact ⟨_, by first | rfl | (simp [e0_, e1_] <;> rfl) | (simp [*, e0_, e1_] <;> rfl), Kd.R_mv (Kd.R_mono (ok' := fun k_ => True) (Kd.R_far (p := ⟨gb1196, 2, none⟩) (Kd.R_far (p := ⟨gb1196, 1, none⟩) (Kd.R_far (p := ⟨gb1196, 0, none⟩) (Kd.R_types HO_1207002.out BK1196.out (by decide)) (fun _ hk => hk.2) (.int .i64 t1201)) (fun _ hk => hk.2) (.int .i64 t1202)) (fun _ hk => hk.2) (.slice Ao34 x1207002_1.length co34)) (fun _ hk => trivial)), bm HB⟩
 ·replace c3 := Bool.eq_false_iff.mpr c3
  subst c3
  have H1 : (some (0, 0, ([] : List (S78)), false)) = some (r1, r2, r3, r4) := by rw [if_neg (show ¬ (false = true) by decide)] at H; exact H
  clear H
  have H := H1
  clear H1
  simp only [Option.some.injEq, Prod.mk.injEq] at H
  obtain ⟨rfl, rfl, rfl, rfl⟩ := H
  go_enter Try.func43, Try.ntmps43
  go_wp2_with (first | ((with_reducible refine gate_dst (N := 1) rfl ?_); refine box_event ?hg (N := 1) ?hd (cs := #[.int .i64 a0_0, .int .i64 a0_1, .slice A0_2 l0_2.length c0_2]) (t := 48) ?hr ?_; (case hd => rfl); (case hg => rfl); (case hr => first | (go_simp; done) | (go_simp; rfl)); intro gb1195 hg w35 hbox hb; refine ev4 (bs HB hb) (hbox) (gle hg HB) (gle hg HB) ?_; clear HB; intro HB BK1195 GW1195 GE1195; clear hb hbox hg) | ((with_reducible refine gate_dst (N := 2) rfl ?_); refine box_event ?hg (N := 2) ?hd (cs := #[.int .i64 0, .int .i64 0, .slice none 0 0]) (t := 48) ?hr ?_; (case hd => rfl); (case hg => rfl); (case hr => first | (go_simp; done) | (go_simp; rfl)); intro gb1196 hg w36 hbox hb; refine ev7 (kb BK1195 hb) (bs HB hb) (hbox) (gle hg HB) (gle hg HB) (gnf hg BK1195) (gne hg BK1195) ?_; clear BK1195 HB; intro BK1195 HB BK1196 GW1196 GE1196 NB1195_1196 NB1196_1195; clear hb hbox hg; have hnb37 := NB1195_1196.out; have hnc37 := NB1196_1195.out; obtain ⟨hcz38_0, hcz38_1, hcz38_2, hfz38_0, hfz38_1, hfz38_2⟩ := bt3 BK1195) | ((with_reducible refine gate_callee (f := 38) rfl ?_); refine goesL_ (some 11) rfl rfl Try.func38 (by kernel_rfl) rfl #[.agg #[.int .i64 a0_0, .int .i64 a0_1, .slice A0_2 l0_2.length c0_2]] rfl (by (try simp only [ma_, mb_, mc_]); first | done | rfl | (simp only [List.length_drop, List.length_take]; rfl)) ?_; (with_reducible refine (impl_UnusedCells.calls k a0_0 a0_1 _ _ l0_2 t1197 false _ (Kd.C_mv (Kd.C_below HR0_2.out HB.out)) HC0_2.out A2.out).mono ?_); rintro e w39 ⟨v1198, rfl, ho0, hb⟩; refine ⟨_, rfl, ?_⟩; refine ev4 (Kd.R_lower ho0 (below_size (bm HB))) (kb BK1195 hb) (kb BK1196 hb) (bs HB hb) ?_; clear BK1195 BK1196 HB; intro HO1199 BK1195 BK1196 HB; (try clear hb); (try clear hb2); (try clear hk); (try clear hi); (try clear ho0); obtain ⟨hcz40_0, hcz40_1, hcz40_2, hfz40_0, hfz40_1, hfz40_2⟩ := bt3 BK1196))
  refine bodyPost_ret (results_ct rfl _ _ gb1196 48 #[.int .i64 0, .int .i64 0, .slice none 0 0] (0, 0) _ rfl (fp BK1196 rfl) Try.underlying48 rfl (by kernel_rfl)) rfl ?_
  exact ⟨_, by first | rfl | (simp [e0_, e1_] <;> rfl) | (simp [*, e0_, e1_] <;> rfl), by first | exact Kd.R_nil _ _ _ _ _ | exact Kd.N_nil _ _ _ _ _ | exact Kd.V_nil _ _ _ _ _ | exact Kd.Q_nil _ _ _ _ _ | exact Kd.S_nil _ _ _ _ _, bm HB⟩

/-! ### laws_FnExactWithoutUnused: function 10 -/
mutual
def laws_FnExactWithoutUnused.j0 : Nat → Bool → Bool → Bool → Int → Int → List (S112) → Int → Int → List (S78) → Int → Int → List (S78) → Int → Int → List (S78) → Option (Bool)
 | 0, _, _, _, _, _, _, _, _, _, _, _, _, _, _, _ => none
 | k + 1, x5, x8, x40, x1212000, x1212001, x1212002, x1225000, x1225001, x1225002, x1231000, x1231001, x1231002, x1238000, x1238001, x1238002 => if x40 = true then (some false) else ((laws_toBoard.f k x1212000 x1212001 x1212002).bind fun bt1239 => ((laws_eqBoard.f k x1231000 x1231001 x1231002 bt1239.1 bt1239.2.1 bt1239.2.2).bind fun t1244 => (if t1244 = true then ((laws_markBoard.f k x1231000 x1231001 x1231002 1).bind fun bt1245 => (if bt1245.1 < 0 then (laws_FnExactWithoutUnused.j1 k x5 true x1212000 x1212001 x1212002 x1225000 x1225001 x1225002 x1238000 x1238001 x1238002) else ((laws_eqBoard.f k x1238000 x1238001 x1238002 x1225000 x1225001 x1225002).bind fun t1247 => (if t1247 = true then (laws_FnExactWithoutUnused.j1 k x5 (x8 != x5) x1212000 x1212001 x1212002 x1225000 x1225001 x1225002 x1238000 x1238001 x1238002) else (laws_FnExactWithoutUnused.j1 k x5 true x1212000 x1212001 x1212002 x1225000 x1225001 x1225002 x1238000 x1238001 x1238002))))) else (some false))))
def laws_FnExactWithoutUnused.j1 : Nat → Bool → Bool → Int → Int → List (S112) → Int → Int → List (S78) → Int → Int → List (S78) → Option (Bool)
 | 0, _, _, _, _, _, _, _, _, _, _, _ => none
 | k + 1, x5, x61, x1212000, x1212001, x1212002, x1225000, x1225001, x1225002, x1238000, x1238001, x1238002 => if x61 = true then (some false) else ((laws_markBoard.f k x1238000 x1238001 x1238002 1).bind fun bt1248 => ((laws_heldBoard.f k x1238000 x1238001 bt1248.2 1).bind fun t1250 => (if t1250 < 0 then (some false) else (if t1250 = bt1248.1 then ((laws_toBoard.f k x1212000 x1212001 x1212002).bind fun bt1251 => ((impl_WithoutUnused.f k bt1251.1 bt1251.2.1 bt1251.2.2).bind fun bt1256 => ((laws_eqBoard.f k bt1256.1 bt1256.2.1 bt1256.2.2.1 x1225000 x1225001 x1225002).bind fun t1263 => (if t1263 = true then (laws_FnExactWithoutUnused.j2 k bt1248.1 (bt1256.2.2.2 != x5) x1238000 x1238001 bt1248.2) else (laws_FnExactWithoutUnused.j2 k bt1248.1 true x1238000 x1238001 bt1248.2))))) else (some false)))))
def laws_FnExactWithoutUnused.j2 : Nat → Int → Bool → Int → Int → List (S78) → Option (Bool)
 | 0, _, _, _, _, _ => none
 | k + 1, x10, x87, x1238000, x1238001, x1238002 => if x87 = true then (some false) else ((laws_heldBoard.f k x1238000 x1238001 x1238002 1).bind fun t1264 => (if t1264 < 0 then (some false) else (if t1264 = x10 then (some true) else (some false))))
end
def laws_FnExactWithoutUnused.f (k : Nat) (a0_0 : Int) (a0_1 : Int) (l0_2 : List (S112)) : Option (Bool) := (laws_szBoard.f a0_0 a0_1 l0_2 1048576).bind fun t1212 => (if t1212 < 0 then (some true) else ((laws_toBoard.f k a0_0 a0_1 l0_2).bind fun bt1213 => ((spec_WithoutUnused.f k bt1213.1 bt1213.2.1 bt1213.2.2).bind fun bt1218 => ((laws_toBoard.f k a0_0 a0_1 l0_2).bind fun bt1225 => ((impl_WithoutUnused.f k bt1225.1 bt1225.2.1 bt1225.2.2).bind fun bt1231 => ((laws_eqBoard.f k bt1231.1 bt1231.2.1 bt1231.2.2.1 bt1218.1 bt1218.2.1 bt1218.2.2.1).bind fun t1238 => (if t1238 = true then (laws_FnExactWithoutUnused.j0 k bt1218.2.2.2 bt1231.2.2.2 (bt1231.2.2.2 != bt1218.2.2.2) a0_0 a0_1 l0_2 bt1218.1 bt1218.2.1 bt1218.2.2.1 bt1225.1 bt1225.2.1 bt1225.2.2 bt1231.1 bt1231.2.1 bt1231.2.2.1) else (laws_FnExactWithoutUnused.j0 k bt1218.2.2.2 bt1231.2.2.2 true a0_0 a0_1 l0_2 bt1218.1 bt1218.2.1 bt1218.2.2.1 bt1225.1 bt1225.2.1 bt1225.2.2 bt1231.1 bt1231.2.1 bt1231.2.2.1))))))))
set_option maxHeartbeats 8000000 in
set_option maxRecDepth 100000 in
theorem laws_FnExactWithoutUnused.calls (k : Nat) (a0_0 : Int) (a0_1 : Int) (A0_2 : Option Addr) (c0_2 : Nat) (l0_2 : List (S112)) (r : Bool) (w : World) (hr0_2 : Kd.C k112 w A0_2 l0_2.length l0_2) (hc0_2 : l0_2.length ≤ c0_2) (hrt : r = true) (h : laws_FnExactWithoutUnused.f k a0_0 a0_1 l0_2 = some r) :
  Calls Try.prog 10 #[.agg #[.int .i64 a0_0, .int .i64 a0_1, .slice A0_2 l0_2.length c0_2]] w fun e w' => e = .returned (.bool r) ∧ Below w.heap.size w w' := by
 have HR0_2 := Aside0.mk hr0_2
 have HC0_2 := Aside0.mk hc0_2
 clear hr0_2 hc0_2
 have HRT := Aside0.mk hrt
 clear hrt
 have HB := Aside0.mk (Below.refl w.heap.size w)
 have H : ((laws_szBoard.f a0_0 a0_1 l0_2 1048576).bind fun t1212 => (if t1212 < 0 then (some true) else ((laws_toBoard.f k a0_0 a0_1 l0_2).bind fun bt1213 => ((spec_WithoutUnused.f k bt1213.1 bt1213.2.1 bt1213.2.2).bind fun bt1218 => ((laws_toBoard.f k a0_0 a0_1 l0_2).bind fun bt1225 => ((impl_WithoutUnused.f k bt1225.1 bt1225.2.1 bt1225.2.2).bind fun bt1231 => ((laws_eqBoard.f k bt1231.1 bt1231.2.1 bt1231.2.2.1 bt1218.1 bt1218.2.1 bt1218.2.2.1).bind fun t1238 => (if t1238 = true then (laws_FnExactWithoutUnused.j0 k bt1218.2.2.2 bt1231.2.2.2 (bt1231.2.2.2 != bt1218.2.2.2) a0_0 a0_1 l0_2 bt1218.1 bt1218.2.1 bt1218.2.2.1 bt1225.1 bt1225.2.1 bt1225.2.2 bt1231.1 bt1231.2.1 bt1231.2.2.1) else (laws_FnExactWithoutUnused.j0 k bt1218.2.2.2 bt1231.2.2.2 true a0_0 a0_1 l0_2 bt1218.1 bt1218.2.1 bt1218.2.2.1 bt1225.1 bt1225.2.1 bt1225.2.2 bt1231.1 bt1231.2.1 bt1231.2.2.1))))))))) = some r := h
 clear h
 replace H := Option.bind_eq_some_iff.mp H
 obtain ⟨t1212, A20, H⟩ := H
 replace H : (if t1212 < 0 then (some true) else ((laws_toBoard.f k a0_0 a0_1 l0_2).bind fun bt1213 => ((spec_WithoutUnused.f k bt1213.1 bt1213.2.1 bt1213.2.2).bind fun bt1218 => ((laws_toBoard.f k a0_0 a0_1 l0_2).bind fun bt1225 => ((impl_WithoutUnused.f k bt1225.1 bt1225.2.1 bt1225.2.2).bind fun bt1231 => ((laws_eqBoard.f k bt1231.1 bt1231.2.1 bt1231.2.2.1 bt1218.1 bt1218.2.1 bt1218.2.2.1).bind fun t1238 => (if t1238 = true then (laws_FnExactWithoutUnused.j0 k bt1218.2.2.2 bt1231.2.2.2 (bt1231.2.2.2 != bt1218.2.2.2) a0_0 a0_1 l0_2 bt1218.1 bt1218.2.1 bt1218.2.2.1 bt1225.1 bt1225.2.1 bt1225.2.2 bt1231.1 bt1231.2.1 bt1231.2.2.1) else (laws_FnExactWithoutUnused.j0 k bt1218.2.2.2 bt1231.2.2.2 true a0_0 a0_1 l0_2 bt1218.1 bt1218.2.1 bt1218.2.2.1 bt1225.1 bt1225.2.1 bt1225.2.2 bt1231.1 bt1231.2.1 bt1231.2.2.1)))))))) = some r := H
 have A2 := Aside0.mk A20
 clear A20
 by_cases c3 : t1212 < 0
 ·rw [if_pos c3] at H
  have c3b0 : decide (t1212 < 0) = true := decide_eq_true c3
  clear c3
  obtain rfl := Option.some.inj H
  go_enter Try.func10, Try.ntmps10
  go_wp2_with (first | ((with_reducible refine gate_dst (N := 1) rfl ?_); refine box_event ?hg (N := 1) ?hd (cs := #[.int .i64 a0_0, .int .i64 a0_1, .slice A0_2 l0_2.length c0_2]) (t := 44) ?hr ?_; (case hd => rfl); (case hg => rfl); (case hr => first | (go_simp; done) | (go_simp; rfl)); intro gb1211 hg w4 hbox hb; refine ev4 (bs HB hb) (hbox) (gle hg HB) (gle hg HB) ?_; clear HB; intro HB BK1211 GW1211 GE1211; clear hb hbox hg; obtain ⟨hcz5_0, hcz5_1, hcz5_2, hfz5_0, hfz5_1, hfz5_2⟩ := bt3 BK1211) | ((with_reducible refine gate_callee (f := 30) rfl ?_); refine goesL_ (some 16) rfl rfl Try.func30 (by kernel_rfl) rfl #[.agg #[.int .i64 a0_0, .int .i64 a0_1, .slice A0_2 l0_2.length c0_2], .int .i64 1048576] rfl (by (try simp only [ma_, mb_, mc_]); first | done | rfl | (simp only [List.length_drop, List.length_take]; rfl)) ?_; (with_reducible refine (laws_szBoard.calls a0_0 a0_1 _ _ l0_2 1048576 t1212 _ (Kd.C_mv (Kd.C_below HR0_2.out HB.out)) HC0_2.out A2.out).mono ?_); rintro e w6 ⟨rfl, hb⟩; refine ⟨_, rfl, ?_⟩; refine ev2 (kb BK1211 hb) (bs HB hb) ?_; clear BK1211 HB; intro BK1211 HB; (try clear hb); (try clear hb2); (try clear hk); (try clear hi)))
  go_ret
  exact ⟨by first | rfl | (simp [e0_, e1_] <;> rfl) | (simp [*, e0_, e1_] <;> rfl), bm HB⟩
 ·rw [if_neg c3] at H
  have c3b0 : decide (t1212 < 0) = false := decide_eq_false c3
  clear c3
  replace H := Option.bind_eq_some_iff.mp H
  obtain ⟨⟨t1213, t1214, t1215⟩, A70, H⟩ := H
  replace H : ((spec_WithoutUnused.f k t1213 t1214 t1215).bind fun bt1218 => ((laws_toBoard.f k a0_0 a0_1 l0_2).bind fun bt1225 => ((impl_WithoutUnused.f k bt1225.1 bt1225.2.1 bt1225.2.2).bind fun bt1231 => ((laws_eqBoard.f k bt1231.1 bt1231.2.1 bt1231.2.2.1 bt1218.1 bt1218.2.1 bt1218.2.2.1).bind fun t1238 => (if t1238 = true then (laws_FnExactWithoutUnused.j0 k bt1218.2.2.2 bt1231.2.2.2 (bt1231.2.2.2 != bt1218.2.2.2) a0_0 a0_1 l0_2 bt1218.1 bt1218.2.1 bt1218.2.2.1 bt1225.1 bt1225.2.1 bt1225.2.2 bt1231.1 bt1231.2.1 bt1231.2.2.1) else (laws_FnExactWithoutUnused.j0 k bt1218.2.2.2 bt1231.2.2.2 true a0_0 a0_1 l0_2 bt1218.1 bt1218.2.1 bt1218.2.2.1 bt1225.1 bt1225.2.1 bt1225.2.2 bt1231.1 bt1231.2.1 bt1231.2.2.1)))))) = some r := H
  have A7 := Aside0.mk A70
  clear A70
  replace H := Option.bind_eq_some_iff.mp H
  obtain ⟨⟨t1218, t1219, t1220, t1223⟩, A80, H⟩ := H
  replace H : ((laws_toBoard.f k a0_0 a0_1 l0_2).bind fun bt1225 => ((impl_WithoutUnused.f k bt1225.1 bt1225.2.1 bt1225.2.2).bind fun bt1231 => ((laws_eqBoard.f k bt1231.1 bt1231.2.1 bt1231.2.2.1 t1218 t1219 t1220).bind fun t1238 => (if t1238 = true then (laws_FnExactWithoutUnused.j0 k t1223 bt1231.2.2.2 (bt1231.2.2.2 != t1223) a0_0 a0_1 l0_2 t1218 t1219 t1220 bt1225.1 bt1225.2.1 bt1225.2.2 bt1231.1 bt1231.2.1 bt1231.2.2.1) else (laws_FnExactWithoutUnused.j0 k t1223 bt1231.2.2.2 true a0_0 a0_1 l0_2 t1218 t1219 t1220 bt1225.1 bt1225.2.1 bt1225.2.2 bt1231.1 bt1231.2.1 bt1231.2.2.1))))) = some r := H
  have A8 := Aside0.mk A80
  clear A80
  replace H := Option.bind_eq_some_iff.mp H
  obtain ⟨⟨t1225, t1226, t1227⟩, A90, H⟩ := H
  replace H : ((impl_WithoutUnused.f k t1225 t1226 t1227).bind fun bt1231 => ((laws_eqBoard.f k bt1231.1 bt1231.2.1 bt1231.2.2.1 t1218 t1219 t1220).bind fun t1238 => (if t1238 = true then (laws_FnExactWithoutUnused.j0 k t1223 bt1231.2.2.2 (bt1231.2.2.2 != t1223) a0_0 a0_1 l0_2 t1218 t1219 t1220 t1225 t1226 t1227 bt1231.1 bt1231.2.1 bt1231.2.2.1) else (laws_FnExactWithoutUnused.j0 k t1223 bt1231.2.2.2 true a0_0 a0_1 l0_2 t1218 t1219 t1220 t1225 t1226 t1227 bt1231.1 bt1231.2.1 bt1231.2.2.1)))) = some r := H
  have A9 := Aside0.mk A90
  clear A90
  replace H := Option.bind_eq_some_iff.mp H
  obtain ⟨⟨t1231, t1232, t1233, t1236⟩, A100, H⟩ := H
  replace H : ((laws_eqBoard.f k t1231 t1232 t1233 t1218 t1219 t1220).bind fun t1238 => (if t1238 = true then (laws_FnExactWithoutUnused.j0 k t1223 t1236 (t1236 != t1223) a0_0 a0_1 l0_2 t1218 t1219 t1220 t1225 t1226 t1227 t1231 t1232 t1233) else (laws_FnExactWithoutUnused.j0 k t1223 t1236 true a0_0 a0_1 l0_2 t1218 t1219 t1220 t1225 t1226 t1227 t1231 t1232 t1233))) = some r := H
  have A10 := Aside0.mk A100
  clear A100
  have HC11 := Aside0.mk H
  clear H
  go_enter Try.func10, Try.ntmps10
  go_upto_region 8 with (first | ((with_reducible refine gate_dst (N := 1) rfl ?_); refine box_event ?hg (N := 1) ?hd (cs := #[.int .i64 a0_0, .int .i64 a0_1, .slice A0_2 l0_2.length c0_2]) (t := 44) ?hr ?_; (case hd => rfl); (case hg => rfl); (case hr => first | (go_simp; done) | (go_simp; rfl)); intro gb1211 hg w12 hbox hb; refine ev4 (bs HB hb) (hbox) (gle hg HB) (gle hg HB) ?_; clear HB; intro HB BK1211 GW1211 GE1211; clear hb hbox hg; obtain ⟨hcz13_0, hcz13_1, hcz13_2, hfz13_0, hfz13_1, hfz13_2⟩ := bt3 BK1211) | ((with_reducible refine gate_callee (f := 30) rfl ?_); refine goesL_ (some 16) rfl rfl Try.func30 (by kernel_rfl) rfl #[.agg #[.int .i64 a0_0, .int .i64 a0_1, .slice A0_2 l0_2.length c0_2], .int .i64 1048576] rfl (by (try simp only [ma_, mb_, mc_]); first | done | rfl | (simp only [List.length_drop, List.length_take]; rfl)) ?_; (with_reducible refine (laws_szBoard.calls a0_0 a0_1 _ _ l0_2 1048576 t1212 _ (Kd.C_mv (Kd.C_below HR0_2.out HB.out)) HC0_2.out A2.out).mono ?_); rintro e w14 ⟨rfl, hb⟩; refine ⟨_, rfl, ?_⟩; refine ev2 (kb BK1211 hb) (bs HB hb) ?_; clear BK1211 HB; intro BK1211 HB; (try clear hb); (try clear hb2); (try clear hk); (try clear hi); obtain ⟨hcz15_0, hcz15_1, hcz15_2, hfz15_0, hfz15_1, hfz15_2⟩ := bt3 BK1211) | ((with_reducible refine gate_callee (f := 32) rfl ?_); refine goesL_ (some 21) rfl rfl Try.func32 (by kernel_rfl) rfl #[.agg #[.int .i64 a0_0, .int .i64 a0_1, .slice A0_2 l0_2.length c0_2]] rfl (by (try simp only [ma_, mb_, mc_]); first | done | rfl | (simp only [List.length_drop, List.length_take]; rfl)) ?_; (with_reducible refine (laws_toBoard.calls k a0_0 a0_1 _ _ l0_2 t1213 t1214 t1215 _ (Kd.C_mv (Kd.C_below HR0_2.out HB.out)) HC0_2.out A7.out).mono ?_); rintro e w16 ⟨v1216, rfl, ho0, hb⟩; refine ⟨_, rfl, ?_⟩; refine ev3 (Kd.R_lower ho0 (below_size (bm HB))) (kb BK1211 hb) (bs HB hb) ?_; clear BK1211 HB; intro HO1217 BK1211 HB; (try clear hb); (try clear hb2); (try clear hk); (try clear hi); (try clear ho0); obtain ⟨Ao17, co17, eo17⟩ := Kd.R_slice HO1217.out; subst eo17) | ((with_reducible refine gate_callee (f := 42) rfl ?_); refine goesL_ (some 22) rfl rfl Try.func42 (by kernel_rfl) rfl #[.agg #[.int .i64 t1213, .int .i64 t1214, .slice Ao17 t1215.length co17]] rfl (by (try simp only [ma_, mb_, mc_]); first | done | rfl | (simp only [List.length_drop, List.length_take]; rfl)) ?_; (with_reducible refine (spec_WithoutUnused.calls k t1213 t1214 _ _ t1215 t1218 t1219 t1220 t1223 _ (Kd.C_mv (Kd.R_reads' HO1217.out).2.2) ((Kd.R_reads' HO1217.out).2.1) A8.out).mono ?_); rintro e w18 ⟨v1221, rfl, ho0, hb⟩; refine ⟨_, rfl, ?_⟩; refine ev4 (Kd.R_elder' (Kd.R_mv HO1217.out) (Kd.R_base ho0) hb) (Kd.R_lower (Kd.R_new' ho0 (Kd.R_lt (Kd.R_mv HO1217.out))) (below_size (bm HB))) (kb BK1211 hb) (bs HB hb) ?_; clear HO1217 BK1211 HB; intro HO1217 HO1222 BK1211 HB; (try clear hb); (try clear hb2); (try clear hk); (try clear hi); (try clear ho0)) | ((with_reducible refine gate_dst (N := 4) rfl ?_); refine box_event ?hg (N := 4) ?hd (cs := #[.int .i64 0, .int .i64 0, .slice none 0 0]) (t := 48) ?hr ?_; (case hd => rfl); (case hg => rfl); (case hr => first | (go_simp; done) | (go_simp; rfl)); intro gb1224 hg w19 hbox hb; refine ev9 (Kd.R_below (Kd.R_mv HO1217.out) hb) (Kd.R_below (Kd.R_mv HO1222.out) hb) (kb BK1211 hb) (bs HB hb) (hbox) (gle hg HB) (gle hg HB) (gnf hg BK1211) (gne hg BK1211) ?_; clear HO1217 HO1222 BK1211 HB; intro HO1217 HO1222 BK1211 HB BK1224 GW1224 GE1224 NB1211_1224 NB1224_1211; clear hb hbox hg; have hnb20 := NB1224_1211.out; have hnc20 := NB1211_1224.out; obtain ⟨hcz21_0, hcz21_1, hcz21_2, hfz21_0, hfz21_1, hfz21_2⟩ := bt3 BK1224; obtain ⟨Ao22, co22, eo22⟩ := Kd.R_slice HO1222.out; subst eo22; obtain ⟨hcz23_0, hcz23_1, hcz23_2, hfz23_0, hfz23_1, hfz23_2⟩ := bt3 BK1211) | ((with_reducible refine gate_callee (f := 32) rfl ?_); refine goesL_ (some 26) rfl rfl Try.func32 (by kernel_rfl) rfl #[.agg #[.int .i64 a0_0, .int .i64 a0_1, .slice A0_2 l0_2.length c0_2]] rfl (by (try simp only [ma_, mb_, mc_]); first | done | rfl | (simp only [List.length_drop, List.length_take]; rfl)) ?_; (with_reducible refine (laws_toBoard.calls k a0_0 a0_1 _ _ l0_2 t1225 t1226 t1227 _ (Kd.C_below HR0_2.out (bm HB)) HC0_2.out A9.out).mono ?_); rintro e w24 ⟨v1228, rfl, ho0, hb⟩; refine ⟨_, rfl, ?_⟩; refine ev6 (Kd.R_elder' (Kd.R_mv (Kd.R_mono (Kd.R_far (p := ⟨gb1224, 2, none⟩) (Kd.R_far (p := ⟨gb1224, 1, none⟩) (Kd.R_far (p := ⟨gb1224, 0, none⟩) (Kd.R_types HO1217.out BK1224.out (by decide)) (fun _ hk => hk.2) (.int .i64 t1218)) (fun _ hk => hk.2) (.int .i64 t1219)) (fun _ hk => hk.2) (.slice Ao22 t1220.length co22)) (fun _ h_ => h_.1))) (Kd.R_base ho0) hb) (Kd.R_elder' (Kd.R_mv (Kd.R_mono (Kd.R_far (p := ⟨gb1224, 2, none⟩) (Kd.R_far (p := ⟨gb1224, 1, none⟩) (Kd.R_far (p := ⟨gb1224, 0, none⟩) (Kd.R_types HO1222.out BK1224.out (by decide)) (fun _ hk => hk.2) (.int .i64 t1218)) (fun _ hk => hk.2) (.int .i64 t1219)) (fun _ hk => hk.2) (.slice Ao22 t1220.length co22)) (fun _ h_ => h_.1))) (Kd.R_base ho0) hb) (Kd.R_lower (Kd.R_new' (Kd.R_new' ho0 (Kd.R_lt (Kd.R_mv (Kd.R_mono (Kd.R_far (p := ⟨gb1224, 2, none⟩) (Kd.R_far (p := ⟨gb1224, 1, none⟩) (Kd.R_far (p := ⟨gb1224, 0, none⟩) (Kd.R_types HO1217.out BK1224.out (by decide)) (fun _ hk => hk.2) (.int .i64 t1218)) (fun _ hk => hk.2) (.int .i64 t1219)) (fun _ hk => hk.2) (.slice Ao22 t1220.length co22)) (fun _ h_ => h_.1))))) (Kd.R_lt (Kd.R_mv (Kd.R_mono (Kd.R_far (p := ⟨gb1224, 2, none⟩) (Kd.R_far (p := ⟨gb1224, 1, none⟩) (Kd.R_far (p := ⟨gb1224, 0, none⟩) (Kd.R_types HO1222.out BK1224.out (by decide)) (fun _ hk => hk.2) (.int .i64 t1218)) (fun _ hk => hk.2) (.int .i64 t1219)) (fun _ hk => hk.2) (.slice Ao22 t1220.length co22)) (fun _ h_ => h_.1))))) (below_size (bm HB))) (blk_below (g := gb1211) (o := .cells #[.int .i64 a0_0, .int .i64 a0_1, .slice A0_2 l0_2.length c0_2] 44 (0, 0)) (fp BK1211 rfl) hb) (blk_below (g := gb1224) (o := .cells #[.int .i64 t1218, .int .i64 t1219, .slice Ao22 t1220.length co22] 48 (0, 0)) (fp BK1224 rfl) hb) (bs HB hb) ?_; clear HO1217 HO1222 BK1211 BK1224 HB; intro HO1217 HO1222 HO1229 BK1211 BK1224 HB; (try clear hb); (try clear hb2); (try clear hk); (try clear hi); (try clear ho0)) | ((with_reducible refine gate_dst (N := 6) rfl ?_); refine box_event ?hg (N := 6) ?hd (cs := #[.int .i64 0, .int .i64 0, .slice none 0 0]) (t := 48) ?hr ?_; (case hd => rfl); (case hg => rfl); (case hr => first | (go_simp; done) | (go_simp; rfl)); intro gb1230 hg w25 hbox hb; refine ev12 (Kd.R_below (Kd.R_mv HO1217.out) hb) (Kd.R_below (Kd.R_mv HO1222.out) hb) (Kd.R_below (Kd.R_mv HO1229.out) hb) (kb BK1211 hb) (kb BK1224 hb) (bs HB hb) (hbox) (gle hg HB) (gle hg HB) (gnf hg BK1211) (gne hg BK1211) (gnf hg BK1224) ?_; intro n0_ n1_ n2_ n3_ n4_ n5_ n6_ n7_ n8_ n9_ n10_ n11_; refine ev1 (gne hg BK1224) ?_; intro n12_; clear HO1217 HO1222 HO1229 BK1211 BK1224 HB; revert n0_ n1_ n2_ n3_ n4_ n5_ n6_ n7_ n8_ n9_ n10_ n11_ n12_; intro HO1217 HO1222 HO1229 BK1211 BK1224 HB BK1230 GW1230 GE1230 NB1211_1230 NB1230_1211 NB1224_1230 NB1230_1224; clear hb hbox hg; have hnb26 := NB1230_1211.out; have hnc26 := NB1211_1230.out; have hnb27 := NB1230_1224.out; have hnc27 := NB1224_1230.out; obtain ⟨hcz28_0, hcz28_1, hcz28_2, hfz28_0, hfz28_1, hfz28_2⟩ := bt3 BK1230; obtain ⟨Ao29, co29, eo29⟩ := Kd.R_slice HO1229.out; subst eo29) | ((with_reducible refine gate_callee (f := 43) rfl ?_); refine goesL_ (some 29) rfl rfl Try.func43 (by kernel_rfl) rfl #[.agg #[.int .i64 t1225, .int .i64 t1226, .slice Ao29 t1227.length co29]] rfl (by (try simp only [ma_, mb_, mc_]); first | done | rfl | (simp only [List.length_drop, List.length_take]; rfl)) ?_; (with_reducible refine (impl_WithoutUnused.calls k t1225 t1226 _ _ t1227 t1231 t1232 t1233 t1236 _ ?side1 ((Kd.R_reads' HO1229.out).2.1) A10.out).mono ?_); (case side1 => refine (Kd.R_reads' (e := 78) (base := w.heap.size) (ok := fun k_ => ((True ∧ some k_ ≠ (.slice Ao17 t1215.length co17 : Value).ownBlock) ∧ some k_ ≠ (.slice Ao22 t1220.length co22 : Value).ownBlock)) (n := t1227.length) (c := co29) ?_).2.2; exact (Kd.R_mv (Kd.R_mono (Kd.R_far (p := ⟨gb1230, 2, none⟩) (Kd.R_far (p := ⟨gb1230, 1, none⟩) (Kd.R_far (p := ⟨gb1230, 0, none⟩) (Kd.R_types HO1229.out BK1230.out (by decide)) (fun _ hk => hk.2) (.int .i64 t1225)) (fun _ hk => hk.2) (.int .i64 t1226)) (fun _ hk => hk.2) (.slice Ao29 t1227.length co29)) (fun _ h_ => h_.1)))); rintro e w30 ⟨v1234, rfl, ho0, hb⟩; refine ⟨_, rfl, ?_⟩; refine ev8 (Kd.R_elder' (Kd.R_mv (Kd.R_mono (Kd.R_far (p := ⟨gb1230, 2, none⟩) (Kd.R_far (p := ⟨gb1230, 1, none⟩) (Kd.R_far (p := ⟨gb1230, 0, none⟩) (Kd.R_types HO1217.out BK1230.out (by decide)) (fun _ hk => hk.2) (.int .i64 t1225)) (fun _ hk => hk.2) (.int .i64 t1226)) (fun _ hk => hk.2) (.slice Ao29 t1227.length co29)) (fun _ h_ => h_.1))) (Kd.R_base ho0) hb) (Kd.R_elder' (Kd.R_mv (Kd.R_mono (Kd.R_far (p := ⟨gb1230, 2, none⟩) (Kd.R_far (p := ⟨gb1230, 1, none⟩) (Kd.R_far (p := ⟨gb1230, 0, none⟩) (Kd.R_types HO1222.out BK1230.out (by decide)) (fun _ hk => hk.2) (.int .i64 t1225)) (fun _ hk => hk.2) (.int .i64 t1226)) (fun _ hk => hk.2) (.slice Ao29 t1227.length co29)) (fun _ h_ => h_.1))) (Kd.R_base ho0) hb) (Kd.R_elder' (Kd.R_mv (Kd.R_mono (Kd.R_far (p := ⟨gb1230, 2, none⟩) (Kd.R_far (p := ⟨gb1230, 1, none⟩) (Kd.R_far (p := ⟨gb1230, 0, none⟩) (Kd.R_types HO1229.out BK1230.out (by decide)) (fun _ hk => hk.2) (.int .i64 t1225)) (fun _ hk => hk.2) (.int .i64 t1226)) (fun _ hk => hk.2) (.slice Ao29 t1227.length co29)) (fun _ h_ => h_.1))) (Kd.R_base ho0) hb) (Kd.R_lower (Kd.R_new' (Kd.R_new' (Kd.R_new' ho0 (Kd.R_lt (Kd.R_mv (Kd.R_mono (Kd.R_far (p := ⟨gb1230, 2, none⟩) (Kd.R_far (p := ⟨gb1230, 1, none⟩) (Kd.R_far (p := ⟨gb1230, 0, none⟩) (Kd.R_types HO1217.out BK1230.out (by decide)) (fun _ hk => hk.2) (.int .i64 t1225)) (fun _ hk => hk.2) (.int .i64 t1226)) (fun _ hk => hk.2) (.slice Ao29 t1227.length co29)) (fun _ h_ => h_.1))))) (Kd.R_lt (Kd.R_mv (Kd.R_mono (Kd.R_far (p := ⟨gb1230, 2, none⟩) (Kd.R_far (p := ⟨gb1230, 1, none⟩) (Kd.R_far (p := ⟨gb1230, 0, none⟩) (Kd.R_types HO1222.out BK1230.out (by decide)) (fun _ hk => hk.2) (.int .i64 t1225)) (fun _ hk => hk.2) (.int .i64 t1226)) (fun _ hk => hk.2) (.slice Ao29 t1227.length co29)) (fun _ h_ => h_.1))))) (Kd.R_lt (Kd.R_mv (Kd.R_mono (Kd.R_far (p := ⟨gb1230, 2, none⟩) (Kd.R_far (p := ⟨gb1230, 1, none⟩) (Kd.R_far (p := ⟨gb1230, 0, none⟩) (Kd.R_types HO1229.out BK1230.out (by decide)) (fun _ hk => hk.2) (.int .i64 t1225)) (fun _ hk => hk.2) (.int .i64 t1226)) (fun _ hk => hk.2) (.slice Ao29 t1227.length co29)) (fun _ h_ => h_.1))))) (below_size (bm HB))) (blk_below (g := gb1211) (o := .cells #[.int .i64 a0_0, .int .i64 a0_1, .slice A0_2 l0_2.length c0_2] 44 (0, 0)) (fp BK1211 rfl) hb) (blk_below (g := gb1224) (o := .cells #[.int .i64 t1218, .int .i64 t1219, .slice Ao22 t1220.length co22] 48 (0, 0)) (fp BK1224 rfl) hb) (blk_below (g := gb1230) (o := .cells #[.int .i64 t1225, .int .i64 t1226, .slice Ao29 t1227.length co29] 48 (0, 0)) (fp BK1230 rfl) hb) (bs HB hb) ?_; clear HO1217 HO1222 HO1229 BK1211 BK1224 BK1230 HB; intro HO1217 HO1222 HO1229 HO1235 BK1211 BK1224 BK1230 HB; (try clear hb); (try clear hb2); (try clear hk); (try clear hi); (try clear ho0)) | ((with_reducible refine gate_dst (N := 7) rfl ?_); refine box_event ?hg (N := 7) ?hd (cs := #[.int .i64 0, .int .i64 0, .slice none 0 0]) (t := 48) ?hr ?_; (case hd => rfl); (case hg => rfl); (case hr => first | (go_simp; done) | (go_simp; rfl)); intro gb1237 hg w31 hbox hb; refine ev12 (Kd.R_below (Kd.R_mv HO1217.out) hb) (Kd.R_below (Kd.R_mv HO1222.out) hb) (Kd.R_below (Kd.R_mv HO1229.out) hb) (Kd.R_below (Kd.R_mv HO1235.out) hb) (kb BK1211 hb) (kb BK1224 hb) (kb BK1230 hb) (bs HB hb) (hbox) (gle hg HB) (gle hg HB) (gnf hg BK1211) ?_; intro n0_ n1_ n2_ n3_ n4_ n5_ n6_ n7_ n8_ n9_ n10_ n11_; refine ev5 (gne hg BK1211) (gnf hg BK1224) (gne hg BK1224) (gnf hg BK1230) (gne hg BK1230) ?_; intro n12_ n13_ n14_ n15_ n16_; clear HO1217 HO1222 HO1229 HO1235 BK1211 BK1224 BK1230 HB; revert n0_ n1_ n2_ n3_ n4_ n5_ n6_ n7_ n8_ n9_ n10_ n11_ n12_ n13_ n14_ n15_ n16_; intro HO1217 HO1222 HO1229 HO1235 BK1211 BK1224 BK1230 HB BK1237 GW1237 GE1237 NB1211_1237 NB1237_1211 NB1224_1237 NB1237_1224 NB1230_1237 NB1237_1230; clear hb hbox hg; have hnb32 := NB1237_1211.out; have hnc32 := NB1211_1237.out; have hnb33 := NB1237_1224.out; have hnc33 := NB1224_1237.out; have hnb34 := NB1237_1230.out; have hnc34 := NB1230_1237.out; obtain ⟨hcz35_0, hcz35_1, hcz35_2, hfz35_0, hfz35_1, hfz35_2⟩ := bt3 BK1237; obtain ⟨Ao36, co36, eo36⟩ := Kd.R_slice HO1235.out; subst eo36))
  (try simp only [Act.put, za_, zb_, zc_])
  go_cut [40] (fun v40 wc => ∃ (kq : Nat) (x40_10 : Bool), v40 = .bool x40_10 ∧ Aside0 (laws_FnExactWithoutUnused.j0 kq t1223 t1236 x40_10 a0_0 a0_1 l0_2 t1218 t1219 t1220 t1225 t1226 t1227 t1231 t1232 t1233 = some r) ∧ Aside0 (kq ≤ k) ∧ Aside0 (Kd.R k78 78 wc w.heap.size (fun k_ => some k_ ≠ ((.slice Ao29 t1227.length co29) : Value).ownBlock ∧ some k_ ≠ ((.slice Ao36 t1233.length co36) : Value).ownBlock) (.slice Ao22 t1220.length co22) t1220) ∧ Aside0 (Kd.R k78 78 wc w.heap.size (fun k_ => some k_ ≠ ((.slice Ao22 t1220.length co22) : Value).ownBlock ∧ some k_ ≠ ((.slice Ao36 t1233.length co36) : Value).ownBlock) (.slice Ao29 t1227.length co29) t1227) ∧ Aside0 (Kd.R k78 78 wc w.heap.size (fun k_ => some k_ ≠ ((.slice Ao22 t1220.length co22) : Value).ownBlock ∧ some k_ ≠ ((.slice Ao29 t1227.length co29) : Value).ownBlock) (.slice Ao36 t1233.length co36) t1233) ∧ Aside0 (wc.heap[gb1211]? = some (.cells #[.int .i64 a0_0, .int .i64 a0_1, (.slice A0_2 l0_2.length c0_2)] 44 (0, 0))) ∧ Aside0 (wc.heap[gb1224]? = some (.cells #[.int .i64 t1218, .int .i64 t1219, (.slice Ao22 t1220.length co22)] 48 (0, 0))) ∧ Aside0 (wc.heap[gb1230]? = some (.cells #[.int .i64 t1225, .int .i64 t1226, (.slice Ao29 t1227.length co29)] 48 (0, 0))) ∧ Aside0 (wc.heap[gb1237]? = some (.cells #[.int .i64 t1231, .int .i64 t1232, (.slice Ao36 t1233.length co36)] 48 (0, 0))) ∧ Aside0 (Below w.heap.size w wc))
  case first =>
   have H := HC11.out
   clear HC11
   replace H := Option.bind_eq_some_iff.mp H
   obtain ⟨t1238, A370, H⟩ := H
   replace H : (if t1238 = true then (laws_FnExactWithoutUnused.j0 k t1223 t1236 (t1236 != t1223) a0_0 a0_1 l0_2 t1218 t1219 t1220 t1225 t1226 t1227 t1231 t1232 t1233) else (laws_FnExactWithoutUnused.j0 k t1223 t1236 true a0_0 a0_1 l0_2 t1218 t1219 t1220 t1225 t1226 t1227 t1231 t1232 t1233)) = some r := H
   have A37 := Aside0.mk A370
   clear A370
   by_cases c38 : t1238 = true
   ·subst c38
    have H1 : (laws_FnExactWithoutUnused.j0 k t1223 t1236 (t1236 != t1223) a0_0 a0_1 l0_2 t1218 t1219 t1220 t1225 t1226 t1227 t1231 t1232 t1233) = some r := by rw [if_pos rfl] at H; exact H
    clear H
    have H := H1
    clear H1
    have H' := Aside0.mk H
    clear H
    have hnb39 := NB1237_1211.out
    have hnc39 := NB1211_1237.out
    have hnb40 := NB1237_1224.out
    have hnc40 := NB1224_1237.out
    have hnb41 := NB1237_1230.out
    have hnc41 := NB1230_1237.out
    obtain ⟨hcz42_0, hcz42_1, hcz42_2, hfz42_0, hfz42_1, hfz42_2⟩ := bt3 BK1237
    have hnb43 := NB1224_1211.out
    have hnc43 := NB1211_1224.out
    have hnb44 := NB1224_1230.out
    have hnc44 := NB1230_1224.out
    obtain ⟨hcz45_0, hcz45_1, hcz45_2, hfz45_0, hfz45_1, hfz45_2⟩ := bt3 BK1224
    go_wp2_with (first | ((with_reducible refine gate_callee (f := 34) rfl ?_); refine goesL_ (some 34) rfl rfl Try.func34 (by kernel_rfl) rfl #[.agg #[.int .i64 t1231, .int .i64 t1232, .slice Ao36 t1233.length co36], .agg #[.int .i64 t1218, .int .i64 t1219, .slice Ao22 t1220.length co22]] rfl (by (try simp only [ma_, mb_, mc_]); first | done | rfl | (simp only [List.length_drop, List.length_take]; rfl)) ?_; (with_reducible refine (laws_eqBoard.calls k t1231 t1232 _ _ t1233 t1218 t1219 _ _ t1220 true _ ?side1 ((Kd.R_reads' HO1235.out).2.1) ?side3 ((Kd.R_reads' HO1222.out).2.1) A37.out).mono ?_); (case side1 => refine (Kd.R_reads' (e := 78) (base := w.heap.size) (ok := fun k_ => (((True ∧ some k_ ≠ (.slice Ao17 t1215.length co17 : Value).ownBlock) ∧ some k_ ≠ (.slice Ao22 t1220.length co22 : Value).ownBlock) ∧ some k_ ≠ (.slice Ao29 t1227.length co29 : Value).ownBlock)) (n := t1233.length) (c := co36) ?_).2.2; exact (Kd.R_mv (Kd.R_mono (Kd.R_far (p := ⟨gb1237, 2, none⟩) (Kd.R_far (p := ⟨gb1237, 1, none⟩) (Kd.R_far (p := ⟨gb1237, 0, none⟩) (Kd.R_types HO1235.out BK1237.out (by decide)) (fun _ hk => hk.2) (.int .i64 t1231)) (fun _ hk => hk.2) (.int .i64 t1232)) (fun _ hk => hk.2) (.slice Ao36 t1233.length co36)) (fun _ h_ => h_.1)))); (case side3 => refine (Kd.R_reads' (e := 78) (base := w.heap.size) (ok := fun k_ => (((True ∧ some k_ ≠ (.slice Ao17 t1215.length co17 : Value).ownBlock) ∧ some k_ ≠ (.slice Ao29 t1227.length co29 : Value).ownBlock) ∧ some k_ ≠ (.slice Ao36 t1233.length co36 : Value).ownBlock)) (n := t1220.length) (c := co22) ?_).2.2; exact (Kd.R_mv (Kd.R_mono (Kd.R_far (p := ⟨gb1237, 2, none⟩) (Kd.R_far (p := ⟨gb1237, 1, none⟩) (Kd.R_far (p := ⟨gb1237, 0, none⟩) (Kd.R_types HO1222.out BK1237.out (by decide)) (fun _ hk => hk.2) (.int .i64 t1231)) (fun _ hk => hk.2) (.int .i64 t1232)) (fun _ hk => hk.2) (.slice Ao36 t1233.length co36)) (fun _ h_ => h_.1)))); rintro e w46 ⟨rfl, hb⟩; refine ⟨_, rfl, ?_⟩; refine ev9 (Kd.R_below (Kd.R_mv (Kd.R_mono (Kd.R_far (p := ⟨gb1237, 2, none⟩) (Kd.R_far (p := ⟨gb1237, 1, none⟩) (Kd.R_far (p := ⟨gb1237, 0, none⟩) (Kd.R_types HO1217.out BK1237.out (by decide)) (fun _ hk => hk.2) (.int .i64 t1231)) (fun _ hk => hk.2) (.int .i64 t1232)) (fun _ hk => hk.2) (.slice Ao36 t1233.length co36)) (fun _ h_ => h_.1))) hb) (Kd.R_below (Kd.R_mv (Kd.R_mono (Kd.R_far (p := ⟨gb1237, 2, none⟩) (Kd.R_far (p := ⟨gb1237, 1, none⟩) (Kd.R_far (p := ⟨gb1237, 0, none⟩) (Kd.R_types HO1222.out BK1237.out (by decide)) (fun _ hk => hk.2) (.int .i64 t1231)) (fun _ hk => hk.2) (.int .i64 t1232)) (fun _ hk => hk.2) (.slice Ao36 t1233.length co36)) (fun _ h_ => h_.1))) hb) (Kd.R_below (Kd.R_mv (Kd.R_mono (Kd.R_far (p := ⟨gb1237, 2, none⟩) (Kd.R_far (p := ⟨gb1237, 1, none⟩) (Kd.R_far (p := ⟨gb1237, 0, none⟩) (Kd.R_types HO1229.out BK1237.out (by decide)) (fun _ hk => hk.2) (.int .i64 t1231)) (fun _ hk => hk.2) (.int .i64 t1232)) (fun _ hk => hk.2) (.slice Ao36 t1233.length co36)) (fun _ h_ => h_.1))) hb) (Kd.R_below (Kd.R_mv (Kd.R_mono (Kd.R_far (p := ⟨gb1237, 2, none⟩) (Kd.R_far (p := ⟨gb1237, 1, none⟩) (Kd.R_far (p := ⟨gb1237, 0, none⟩) (Kd.R_types HO1235.out BK1237.out (by decide)) (fun _ hk => hk.2) (.int .i64 t1231)) (fun _ hk => hk.2) (.int .i64 t1232)) (fun _ hk => hk.2) (.slice Ao36 t1233.length co36)) (fun _ h_ => h_.1))) hb) (blk_below (g := gb1211) (o := .cells #[.int .i64 a0_0, .int .i64 a0_1, .slice A0_2 l0_2.length c0_2] 44 (0, 0)) (fp BK1211 rfl) hb) (blk_below (g := gb1224) (o := .cells #[.int .i64 t1218, .int .i64 t1219, .slice Ao22 t1220.length co22] 48 (0, 0)) (fp BK1224 rfl) hb) (blk_below (g := gb1230) (o := .cells #[.int .i64 t1225, .int .i64 t1226, .slice Ao29 t1227.length co29] 48 (0, 0)) (fp BK1230 rfl) hb) (blk_below (g := gb1237) (o := .cells #[.int .i64 t1231, .int .i64 t1232, .slice Ao36 t1233.length co36] 48 (0, 0)) (fp BK1237 rfl) hb) (bs HB hb) ?_; clear HO1217 HO1222 HO1229 HO1235 BK1211 BK1224 BK1230 BK1237 HB; intro HO1217 HO1222 HO1229 HO1235 BK1211 BK1224 BK1230 BK1237 HB; (try clear hb); (try clear hb2); (try clear hk); (try clear hi)))
    go_meet
    case rel => exact ⟨_, ((t1236 != t1223)), (by first | rfl | (simp; done) | (simp [*]; done)), H', ⟨by first | omega | exact Nat.le_refl _⟩, ⟨Kd.R_mv (Kd.R_mono HO1222.out (fun _ hk => ⟨hk.1.2, hk.2⟩))⟩, ⟨Kd.R_mv (Kd.R_mono HO1229.out (fun _ hk => ⟨hk.1.2, hk.2⟩))⟩, ⟨Kd.R_mv (Kd.R_mono HO1235.out (fun _ hk => ⟨hk.1.2, hk.2⟩))⟩, ⟨km_ BK1211⟩, ⟨km_ BK1224⟩, ⟨km_ BK1230⟩, ⟨km_ BK1237⟩, ⟨bm HB⟩⟩
   ·replace c38 := Bool.eq_false_iff.mpr c38
    subst c38
    have H1 : (laws_FnExactWithoutUnused.j0 k t1223 t1236 true a0_0 a0_1 l0_2 t1218 t1219 t1220 t1225 t1226 t1227 t1231 t1232 t1233) = some r := by rw [if_neg (show ¬ (false = true) by decide)] at H; exact H
    clear H
    have H := H1
    clear H1
    have H' := Aside0.mk H
    clear H
    have hnb47 := NB1237_1211.out
    have hnc47 := NB1211_1237.out
    have hnb48 := NB1237_1224.out
    have hnc48 := NB1224_1237.out
    have hnb49 := NB1237_1230.out
    have hnc49 := NB1230_1237.out
    obtain ⟨hcz50_0, hcz50_1, hcz50_2, hfz50_0, hfz50_1, hfz50_2⟩ := bt3 BK1237
    have hnb51 := NB1224_1211.out
    have hnc51 := NB1211_1224.out
    have hnb52 := NB1224_1230.out
    have hnc52 := NB1230_1224.out
    obtain ⟨hcz53_0, hcz53_1, hcz53_2, hfz53_0, hfz53_1, hfz53_2⟩ := bt3 BK1224
    go_wp2_with (first | ((with_reducible refine gate_callee (f := 34) rfl ?_); refine goesL_ (some 34) rfl rfl Try.func34 (by kernel_rfl) rfl #[.agg #[.int .i64 t1231, .int .i64 t1232, .slice Ao36 t1233.length co36], .agg #[.int .i64 t1218, .int .i64 t1219, .slice Ao22 t1220.length co22]] rfl (by (try simp only [ma_, mb_, mc_]); first | done | rfl | (simp only [List.length_drop, List.length_take]; rfl)) ?_; (with_reducible refine (laws_eqBoard.calls k t1231 t1232 _ _ t1233 t1218 t1219 _ _ t1220 false _ ?side1 ((Kd.R_reads' HO1235.out).2.1) ?side3 ((Kd.R_reads' HO1222.out).2.1) A37.out).mono ?_); (case side1 => refine (Kd.R_reads' (e := 78) (base := w.heap.size) (ok := fun k_ => (((True ∧ some k_ ≠ (.slice Ao17 t1215.length co17 : Value).ownBlock) ∧ some k_ ≠ (.slice Ao22 t1220.length co22 : Value).ownBlock) ∧ some k_ ≠ (.slice Ao29 t1227.length co29 : Value).ownBlock)) (n := t1233.length) (c := co36) ?_).2.2; exact (Kd.R_mv (Kd.R_mono (Kd.R_far (p := ⟨gb1237, 2, none⟩) (Kd.R_far (p := ⟨gb1237, 1, none⟩) (Kd.R_far (p := ⟨gb1237, 0, none⟩) (Kd.R_types HO1235.out BK1237.out (by decide)) (fun _ hk => hk.2) (.int .i64 t1231)) (fun _ hk => hk.2) (.int .i64 t1232)) (fun _ hk => hk.2) (.slice Ao36 t1233.length co36)) (fun _ h_ => h_.1)))); (case side3 => refine (Kd.R_reads' (e := 78) (base := w.heap.size) (ok := fun k_ => (((True ∧ some k_ ≠ (.slice Ao17 t1215.length co17 : Value).ownBlock) ∧ some k_ ≠ (.slice Ao29 t1227.length co29 : Value).ownBlock) ∧ some k_ ≠ (.slice Ao36 t1233.length co36 : Value).ownBlock)) (n := t1220.length) (c := co22) ?_).2.2; exact (Kd.R_mv (Kd.R_mono (Kd.R_far (p := ⟨gb1237, 2, none⟩) (Kd.R_far (p := ⟨gb1237, 1, none⟩) (Kd.R_far (p := ⟨gb1237, 0, none⟩) (Kd.R_types HO1222.out BK1237.out (by decide)) (fun _ hk => hk.2) (.int .i64 t1231)) (fun _ hk => hk.2) (.int .i64 t1232)) (fun _ hk => hk.2) (.slice Ao36 t1233.length co36)) (fun _ h_ => h_.1)))); rintro e w54 ⟨rfl, hb⟩; refine ⟨_, rfl, ?_⟩; refine ev9 (Kd.R_below (Kd.R_mv (Kd.R_mono (Kd.R_far (p := ⟨gb1237, 2, none⟩) (Kd.R_far (p := ⟨gb1237, 1, none⟩) (Kd.R_far (p := ⟨gb1237, 0, none⟩) (Kd.R_types HO1217.out BK1237.out (by decide)) (fun _ hk => hk.2) (.int .i64 t1231)) (fun _ hk => hk.2) (.int .i64 t1232)) (fun _ hk => hk.2) (.slice Ao36 t1233.length co36)) (fun _ h_ => h_.1))) hb) (Kd.R_below (Kd.R_mv (Kd.R_mono (Kd.R_far (p := ⟨gb1237, 2, none⟩) (Kd.R_far (p := ⟨gb1237, 1, none⟩) (Kd.R_far (p := ⟨gb1237, 0, none⟩) (Kd.R_types HO1222.out BK1237.out (by decide)) (fun _ hk => hk.2) (.int .i64 t1231)) (fun _ hk => hk.2) (.int .i64 t1232)) (fun _ hk => hk.2) (.slice Ao36 t1233.length co36)) (fun _ h_ => h_.1))) hb) (Kd.R_below (Kd.R_mv (Kd.R_mono (Kd.R_far (p := ⟨gb1237, 2, none⟩) (Kd.R_far (p := ⟨gb1237, 1, none⟩) (Kd.R_far (p := ⟨gb1237, 0, none⟩) (Kd.R_types HO1229.out BK1237.out (by decide)) (fun _ hk => hk.2) (.int .i64 t1231)) (fun _ hk => hk.2) (.int .i64 t1232)) (fun _ hk => hk.2) (.slice Ao36 t1233.length co36)) (fun _ h_ => h_.1))) hb) (Kd.R_below (Kd.R_mv (Kd.R_mono (Kd.R_far (p := ⟨gb1237, 2, none⟩) (Kd.R_far (p := ⟨gb1237, 1, none⟩) (Kd.R_far (p := ⟨gb1237, 0, none⟩) (Kd.R_types HO1235.out BK1237.out (by decide)) (fun _ hk => hk.2) (.int .i64 t1231)) (fun _ hk => hk.2) (.int .i64 t1232)) (fun _ hk => hk.2) (.slice Ao36 t1233.length co36)) (fun _ h_ => h_.1))) hb) (blk_below (g := gb1211) (o := .cells #[.int .i64 a0_0, .int .i64 a0_1, .slice A0_2 l0_2.length c0_2] 44 (0, 0)) (fp BK1211 rfl) hb) (blk_below (g := gb1224) (o := .cells #[.int .i64 t1218, .int .i64 t1219, .slice Ao22 t1220.length co22] 48 (0, 0)) (fp BK1224 rfl) hb) (blk_below (g := gb1230) (o := .cells #[.int .i64 t1225, .int .i64 t1226, .slice Ao29 t1227.length co29] 48 (0, 0)) (fp BK1230 rfl) hb) (blk_below (g := gb1237) (o := .cells #[.int .i64 t1231, .int .i64 t1232, .slice Ao36 t1233.length co36] 48 (0, 0)) (fp BK1237 rfl) hb) (bs HB hb) ?_; clear HO1217 HO1222 HO1229 HO1235 BK1211 BK1224 BK1230 BK1237 HB; intro HO1217 HO1222 HO1229 HO1235 BK1211 BK1224 BK1230 BK1237 HB; (try clear hb); (try clear hb2); (try clear hk); (try clear hi)))
    go_meet
    case rel => exact ⟨_, (true), (by first | rfl | (simp; done) | (simp [*]; done)), H', ⟨by first | omega | exact Nat.le_refl _⟩, ⟨Kd.R_mv (Kd.R_mono HO1222.out (fun _ hk => ⟨hk.1.2, hk.2⟩))⟩, ⟨Kd.R_mv (Kd.R_mono HO1229.out (fun _ hk => ⟨hk.1.2, hk.2⟩))⟩, ⟨Kd.R_mv (Kd.R_mono HO1235.out (fun _ hk => ⟨hk.1.2, hk.2⟩))⟩, ⟨km_ BK1211⟩, ⟨km_ BK1224⟩, ⟨km_ BK1230⟩, ⟨km_ BK1237⟩, ⟨bm HB⟩⟩
  case rest =>
   clear HC11
   try clear c1
   try clear c2
   try clear c3
   try clear c3b0
   try clear c4
   try clear c10
   try clear c20
   try clear c26
   try clear c27
   try clear c30
   try clear c32
   try clear c33
   try clear c34
   try clear c42
   try clear c43
   try clear hcz13_0
   try clear hcz13_1
   try clear hcz13_2
   try clear hcz15_0
   try clear hcz15_1
   try clear hcz15_2
   try clear hcz21_0
   try clear hcz21_1
   try clear hcz21_2
   try clear hcz23_0
   try clear hcz23_1
   try clear hcz23_2
   try clear hcz28_0
   try clear hcz28_1
   try clear hcz28_2
   try clear hcz35_0
   try clear hcz35_1
   try clear hcz35_2
   try clear hfz13_0
   try clear hfz13_1
   try clear hfz13_2
   try clear hfz15_0
   try clear hfz15_1
   try clear hfz15_2
   try clear hfz21_0
   try clear hfz21_1
   try clear hfz21_2
   try clear hfz23_0
   try clear hfz23_1
   try clear hfz23_2
   try clear hfz28_0
   try clear hfz28_1
   try clear hfz28_2
   try clear hfz35_0
   try clear hfz35_1
   try clear hfz35_2
   obtain ⟨kq, x40_10, rfl, HA, HJ10, HO_1225002, HO_1231002, HO_1238002, BK1211, BK1224, BK1230, BK1237, HB⟩ := hcut
   cases kq with
   | zero => exact absurd HA.out (by simp [laws_FnExactWithoutUnused.j0])
   | succ kj10 =>
    have H := HA.out
    clear HA
    simp only [laws_FnExactWithoutUnused.j0] at H
    by_cases c55 : x40_10 = true
    ·subst c55
     have H1 : (some false) = some r := by rw [if_pos rfl] at H; exact H
     clear H
     have H := H1
     clear H1
     exact absurd (H.trans (congrArg some HRT.out)) (by simp)
    ·replace c55 := Bool.eq_false_iff.mpr c55
     subst c55
     have H1 : ((laws_toBoard.f kj10 a0_0 a0_1 l0_2).bind fun bt1239 => ((laws_eqBoard.f kj10 t1225 t1226 t1227 bt1239.1 bt1239.2.1 bt1239.2.2).bind fun t1244 => (if t1244 = true then ((laws_markBoard.f kj10 t1225 t1226 t1227 1).bind fun bt1245 => (if bt1245.1 < 0 then (laws_FnExactWithoutUnused.j1 kj10 t1223 true a0_0 a0_1 l0_2 t1218 t1219 t1220 t1231 t1232 t1233) else ((laws_eqBoard.f kj10 t1231 t1232 t1233 t1218 t1219 t1220).bind fun t1247 => (if t1247 = true then (laws_FnExactWithoutUnused.j1 kj10 t1223 (t1236 != t1223) a0_0 a0_1 l0_2 t1218 t1219 t1220 t1231 t1232 t1233) else (laws_FnExactWithoutUnused.j1 kj10 t1223 true a0_0 a0_1 l0_2 t1218 t1219 t1220 t1231 t1232 t1233))))) else (some false)))) = some r := by rw [if_neg (show ¬ (false = true) by decide)] at H; exact H
     clear H
     have H := H1
     clear H1
     replace H := Option.bind_eq_some_iff.mp H
     obtain ⟨⟨t1239, t1240, t1241⟩, A560, H⟩ := H
     replace H : ((laws_eqBoard.f kj10 t1225 t1226 t1227 t1239 t1240 t1241).bind fun t1244 => (if t1244 = true then ((laws_markBoard.f kj10 t1225 t1226 t1227 1).bind fun bt1245 => (if bt1245.1 < 0 then (laws_FnExactWithoutUnused.j1 kj10 t1223 true a0_0 a0_1 l0_2 t1218 t1219 t1220 t1231 t1232 t1233) else ((laws_eqBoard.f kj10 t1231 t1232 t1233 t1218 t1219 t1220).bind fun t1247 => (if t1247 = true then (laws_FnExactWithoutUnused.j1 kj10 t1223 (t1236 != t1223) a0_0 a0_1 l0_2 t1218 t1219 t1220 t1231 t1232 t1233) else (laws_FnExactWithoutUnused.j1 kj10 t1223 true a0_0 a0_1 l0_2 t1218 t1219 t1220 t1231 t1232 t1233))))) else (some false))) = some r := H
     have A56 := Aside0.mk A560
     clear A560
     replace H := Option.bind_eq_some_iff.mp H
     obtain ⟨t1244, A570, H⟩ := H
     replace H : (if t1244 = true then ((laws_markBoard.f kj10 t1225 t1226 t1227 1).bind fun bt1245 => (if bt1245.1 < 0 then (laws_FnExactWithoutUnused.j1 kj10 t1223 true a0_0 a0_1 l0_2 t1218 t1219 t1220 t1231 t1232 t1233) else ((laws_eqBoard.f kj10 t1231 t1232 t1233 t1218 t1219 t1220).bind fun t1247 => (if t1247 = true then (laws_FnExactWithoutUnused.j1 kj10 t1223 (t1236 != t1223) a0_0 a0_1 l0_2 t1218 t1219 t1220 t1231 t1232 t1233) else (laws_FnExactWithoutUnused.j1 kj10 t1223 true a0_0 a0_1 l0_2 t1218 t1219 t1220 t1231 t1232 t1233))))) else (some false)) = some r := H
     have A57 := Aside0.mk A570
     clear A570
     by_cases c58 : t1244 = true
     ·subst c58
      have H1 : ((laws_markBoard.f kj10 t1225 t1226 t1227 1).bind fun bt1245 => (if bt1245.1 < 0 then (laws_FnExactWithoutUnused.j1 kj10 t1223 true a0_0 a0_1 l0_2 t1218 t1219 t1220 t1231 t1232 t1233) else ((laws_eqBoard.f kj10 t1231 t1232 t1233 t1218 t1219 t1220).bind fun t1247 => (if t1247 = true then (laws_FnExactWithoutUnused.j1 kj10 t1223 (t1236 != t1223) a0_0 a0_1 l0_2 t1218 t1219 t1220 t1231 t1232 t1233) else (laws_FnExactWithoutUnused.j1 kj10 t1223 true a0_0 a0_1 l0_2 t1218 t1219 t1220 t1231 t1232 t1233))))) = some r := by rw [if_pos rfl] at H; exact H
      clear H
      have H := H1
      clear H1
      replace H := Option.bind_eq_some_iff.mp H
      obtain ⟨⟨t1245, t1246⟩, A590, H⟩ := H
      replace H : (if t1245 < 0 then (laws_FnExactWithoutUnused.j1 kj10 t1223 true a0_0 a0_1 l0_2 t1218 t1219 t1220 t1231 t1232 t1233) else ((laws_eqBoard.f kj10 t1231 t1232 t1233 t1218 t1219 t1220).bind fun t1247 => (if t1247 = true then (laws_FnExactWithoutUnused.j1 kj10 t1223 (t1236 != t1223) a0_0 a0_1 l0_2 t1218 t1219 t1220 t1231 t1232 t1233) else (laws_FnExactWithoutUnused.j1 kj10 t1223 true a0_0 a0_1 l0_2 t1218 t1219 t1220 t1231 t1232 t1233)))) = some r := H
      have A59 := Aside0.mk A590
      clear A590
      have HC60 := Aside0.mk H
      clear H
      try go_wp2
      refine ev8 (Kd.R_drew HO_1225002.out) (Kd.R_drew HO_1231002.out) (Kd.R_drew HO_1238002.out) (blk_drew BK1211.out) (blk_drew BK1224.out) (blk_drew BK1230.out) (blk_drew BK1237.out) (below_drew1 HB.out) ?_
      clear HO_1225002 HO_1231002 HO_1238002 BK1211 BK1224 BK1230 BK1237 HB
      intro HO_1225002 HO_1231002 HO_1238002 BK1211 BK1224 BK1230 BK1237 HB
      refine start_ (n := 5) (S := fun w' => w'.cell? ⟨gb1230, 0, none⟩ = some (.int .i64 t1225) ∧ w'.cell? ⟨gb1230, 1, none⟩ = some (.int .i64 t1226) ∧ w'.cell? ⟨gb1230, 2, none⟩ = some (.slice Ao29 t1227.length co29) ∧ w'.cell? ⟨gb1211, 0, none⟩ = some (.int .i64 a0_0) ∧ w'.cell? ⟨gb1211, 1, none⟩ = some (.int .i64 a0_1) ∧ w'.cell? ⟨gb1211, 2, none⟩ = some (.slice A0_2 l0_2.length c0_2)) (ds := []) #[false, false, false, false, false] (by kernel_rfl) rfl rfl ⟨(blk_cell BK1230.out 0).trans rfl, (blk_cell BK1230.out 1).trans rfl, (blk_cell BK1230.out 2).trans rfl, (blk_cell BK1211.out 0).trans rfl, (blk_cell BK1211.out 1).trans rfl, (blk_cell BK1211.out 2).trans rfl⟩ (fun hHeld => ?_)
      generalize wc.drew = w61 at HO_1225002 HO_1231002 HO_1238002 BK1211 BK1224 BK1230 BK1237 HB hHeld ⊢
      refine take_ (i := 0) (N := some 41) (v := ?_) (a' := ?_) #[true, false, false, false, false] rfl rfl (by kernel_rfl) (fun _ _ _ h => h) (Or.inl ⟨by rfl, ?_⟩) hHeld ?_ ?_
      rotate_left
      ·rintro w' ⟨s0, s1, s2, s3, s4, s5⟩
       go_simp
       with_reducible rfl
      rotate_left
      ·simp only [Act.put, za_, zb_, zc_, i64_w, i32_w]
       rfl
      refine take_ (i := 1) (N := some 42) (v := ?_) (a' := ?_) #[true, true, false, false, false] rfl rfl (by kernel_rfl) (fun _ _ _ h => h) (Or.inl ⟨by rfl, ?_⟩) hHeld ?_ ?_
      rotate_left
      ·rintro w' ⟨s0, s1, s2, s3, s4, s5⟩
       go_simp
       with_reducible rfl
      rotate_left
      ·simp only [Act.put, za_, zb_, zc_, i64_w, i32_w]
       rfl
      refine one_ (i := 2) (N := some 43) #[true, true, true, false, false] rfl rfl (by kernel_rfl) (by decide) (fun K hK => ?_)
      refine goes_ Try.func32 (by kernel_rfl) rfl #[.agg #[.int .i64 a0_0, .int .i64 a0_1, .slice A0_2 l0_2.length c0_2]] (by rfl) rfl rfl (by (try simp only [ma_, mb_, mc_]); first | done | rfl | (simp only [List.length_drop, List.length_take]; rfl)) ?_
      with_reducible refine (laws_toBoard.calls kj10 a0_0 a0_1 _ _ l0_2 t1239 t1240 t1241 _ ?side1 ?side2 A56.out).mono ?_
      (case side1 => exact Kd.C_mv (Kd.C_below HR0_2.out HB.out))
      (case side2 => exact HC0_2.out)
      rintro e w62 ⟨v1242, rfl, ho0, hb⟩
      refine ⟨_, rfl, ?_⟩
      refine ev9 (Kd.R_elder' (Kd.R_mv HO_1225002.out) (Kd.R_base ho0) hb) (Kd.R_elder' (Kd.R_mv HO_1231002.out) (Kd.R_base ho0) hb) (Kd.R_elder' (Kd.R_mv HO_1238002.out) (Kd.R_base ho0) hb) (Kd.R_lower (Kd.R_new' (Kd.R_new' (Kd.R_new' ho0 (Kd.R_lt (Kd.R_mv HO_1225002.out))) (Kd.R_lt (Kd.R_mv HO_1231002.out))) (Kd.R_lt (Kd.R_mv HO_1238002.out))) (below_size (bm HB))) (kb BK1211 hb) (kb BK1224 hb) (kb BK1230 hb) (kb BK1237 hb) (bs HB hb) ?_
      clear HO_1225002 HO_1231002 HO_1238002 BK1211 BK1224 BK1230 BK1237 HB
      intro HO_1225002 HO_1231002 HO_1238002 HO1243 BK1211 BK1224 BK1230 BK1237 HB
      (try clear hb)
      (try clear hb2)
      (try clear hk)
      (try clear hi)
      (try clear ho0)
      obtain ⟨Ao63, co63, eo63⟩ := Kd.R_slice HO1243.out
      (first | subst eo63 | (injection eo63 with f1_ f2_ f3_; have f4_ := f1_.symm; have f5_ := f3_.symm; clear f1_ f2_ f3_; subst f4_; subst f5_))
      refine hK.out _ _ ⟨(blk_cell BK1230.out 0).trans rfl, (blk_cell BK1230.out 1).trans rfl, (blk_cell BK1230.out 2).trans rfl, (blk_cell BK1211.out 0).trans rfl, (blk_cell BK1211.out 1).trans rfl, (blk_cell BK1211.out 2).trans rfl⟩ (fun hHeld => ?_)
      clear hK K
      refine norm_ (a' := ?_) ?_ ?_
      rotate_left
      ·show Act.put _ (some 43) _ = _
       simp only [Act.put, za_, zb_, zc_, i64_w, i32_w]
       rfl
      refine one_ (i := 3) (N := some 44) #[true, true, true, true, false] rfl rfl (by kernel_rfl) (by decide) (fun K hK => ?_)
      refine goes_ Try.func34 (by kernel_rfl) rfl #[.agg #[.int .i64 t1225, .int .i64 t1226, .slice Ao29 t1227.length co29], .agg #[.int .i64 t1239, .int .i64 t1240, .slice Ao63 t1241.length co63]] (by rfl) rfl rfl (by (try simp only [ma_, mb_, mc_]); first | done | rfl | (simp only [List.length_drop, List.length_take]; rfl)) ?_
      with_reducible refine (laws_eqBoard.calls kj10 t1225 t1226 _ _ t1227 t1239 t1240 _ _ t1241 true _ ?side1 ?side2 ?side3 ?side4 A57.out).mono ?_
      (case side1 => exact Kd.C_mv (Kd.R_reads' HO_1231002.out).2.2)
      (case side2 => exact (Kd.R_reads' HO_1231002.out).2.1)
      (case side3 => exact Kd.C_mv (Kd.R_reads' HO1243.out).2.2)
      (case side4 => exact (Kd.R_reads' HO1243.out).2.1)
      rintro e w64 ⟨rfl, hb⟩
      refine ⟨_, rfl, ?_⟩
      refine ev9 (Kd.R_below (Kd.R_mv HO_1225002.out) hb) (Kd.R_below (Kd.R_mv HO_1231002.out) hb) (Kd.R_below (Kd.R_mv HO_1238002.out) hb) (Kd.R_below (Kd.R_mv HO1243.out) hb) (kb BK1211 hb) (kb BK1224 hb) (kb BK1230 hb) (kb BK1237 hb) (bs HB hb) ?_
      clear HO_1225002 HO_1231002 HO_1238002 HO1243 BK1211 BK1224 BK1230 BK1237 HB
      intro HO_1225002 HO_1231002 HO_1238002 HO1243 BK1211 BK1224 BK1230 BK1237 HB
      (try clear hb)
      (try clear hb2)
      (try clear hk)
      (try clear hi)
      refine hK.out _ _ ⟨(blk_cell BK1230.out 0).trans rfl, (blk_cell BK1230.out 1).trans rfl, (blk_cell BK1230.out 2).trans rfl, (blk_cell BK1211.out 0).trans rfl, (blk_cell BK1211.out 1).trans rfl, (blk_cell BK1211.out 2).trans rfl⟩ (fun hHeld => ?_)
      clear hK K
      refine norm_ (a' := ?_) ?_ ?_
      rotate_left
      ·show Act.put _ (some 44) _ = _
       simp only [Act.put, za_, zb_, zc_, i64_w, i32_w]
       rfl
      refine pure_ (i := 4) (N := some 45) (v := ?_) (a' := ?_) #[true, true, true, true, true] rfl rfl (by kernel_rfl) (fun _ _ _ h => h) (Or.inl ⟨by rfl, ?_⟩) ?_ ?_
      rotate_left
      ·intro w'
       go_simp
       with_reducible rfl
      rotate_left
      ·simp only [Act.put, za_, zb_, zc_, i64_w, i32_w]
       rfl
      refine done_ (by kernel_rfl) ?_
      have hnb65 := NB1230_1211.out
      have hnc65 := NB1211_1230.out
      have hnb66 := NB1230_1224.out
      have hnc66 := NB1224_1230.out
      have hnb67 := NB1230_1237.out
      have hnc67 := NB1237_1230.out
      obtain ⟨hcz68_0, hcz68_1, hcz68_2, hfz68_0, hfz68_1, hfz68_2⟩ := bt3 BK1230
      go_upto_region 14 with (first | ((with_reducible refine gate_callee (f := 39) rfl ?_); refine goesL_ (some 48) rfl rfl Try.func39 (by kernel_rfl) rfl #[.agg #[.int .i64 t1225, .int .i64 t1226, .slice Ao29 t1227.length co29], .int .i64 1] rfl (by (try simp only [ma_, mb_, mc_]); first | done | rfl | (simp only [List.length_drop, List.length_take]; rfl)) ?_; (with_reducible refine (laws_markBoard.calls kj10 t1225 t1226 (fun k_ => some k_ = (.slice Ao29 t1227.length co29 : Value).ownBlock) (.slice Ao29 t1227.length co29) t1227 1 t1245 t1246 w _ (bm HB) ?side2 A59.out).mono ?_); (case side2 => exact Kd.R_tight rfl HO_1231002.out); rintro e w69 ⟨rfl, hy0, hb, hkp⟩; refine ⟨_, rfl, ?_⟩; refine ev9 (Kd.R_mono (ok' := fun k_ => some k_ ≠ (.slice Ao29 t1227.length co29 : Value).ownBlock ∧ some k_ ≠ (.slice Ao36 t1233.length co36 : Value).ownBlock ∧ some k_ ≠ (.slice Ao63 t1241.length co63 : Value).ownBlock) (Kd.R_keptB (HO_1225002.out) hkp (fun k_ hk_ hs_ => (hk_.1.1) hs_)) (fun k_ hk_ => ⟨hk_.1.1.1, hk_.1.1.2, hk_.1.2⟩)) (Kd.R_reok rfl hy0 (fun k_ e_ => HO_1231002.out.1 k_ e_)) (Kd.R_mono (ok' := fun k_ => some k_ ≠ (.slice Ao22 t1220.length co22 : Value).ownBlock ∧ some k_ ≠ (.slice Ao29 t1227.length co29 : Value).ownBlock ∧ some k_ ≠ (.slice Ao63 t1241.length co63 : Value).ownBlock) (Kd.R_keptB (HO_1238002.out) hkp (fun k_ hk_ hs_ => (hk_.1.2) hs_)) (fun k_ hk_ => ⟨hk_.1.1.1, hk_.1.1.2, hk_.1.2⟩)) (blk_kept (km_ BK1211) hkp (fun hs_ => (fun e_ => (Kd.R_ne HO_1231002.out BK1211.out (by decide)) e_) hs_)) (blk_kept (km_ BK1224) hkp (fun hs_ => (fun e_ => (Kd.R_ne HO_1231002.out BK1224.out (by decide)) e_) hs_)) (blk_kept (km_ BK1230) hkp (fun hs_ => (fun e_ => (Kd.R_ne HO_1231002.out BK1230.out (by decide)) e_) hs_)) (blk_kept (km_ BK1237) hkp (fun hs_ => (fun e_ => (Kd.R_ne HO_1231002.out BK1237.out (by decide)) e_) hs_)) (Kd.R_mono (ok' := fun k_ => some k_ ≠ (.slice Ao22 t1220.length co22 : Value).ownBlock ∧ some k_ ≠ (.slice Ao29 t1227.length co29 : Value).ownBlock ∧ some k_ ≠ (.slice Ao36 t1233.length co36 : Value).ownBlock) (Kd.R_keptB (HO1243.out) hkp (fun k_ hk_ hs_ => (hk_.1.2) hs_)) (fun k_ hk_ => ⟨hk_.1.1.1.2, hk_.1.1.2, hk_.1.2⟩)) (hb) ?_; clear HO_1225002 HO_1231002 HO_1238002 BK1211 BK1224 BK1230 BK1237 HO1243 HB; intro HO_1225002 HO_1231002 HO_1238002 BK1211 BK1224 BK1230 BK1237 HO1243 HB; (try clear hb); (try clear hkp); (try clear hy0)))
      (try simp only [Act.put, za_, zb_, zc_])
      go_cut [61] (fun v61 wc => ∃ (kq : Nat) (x61_59 : Bool), v61 = .bool x61_59 ∧ Aside0 (laws_FnExactWithoutUnused.j1 kq t1223 x61_59 a0_0 a0_1 l0_2 t1218 t1219 t1220 t1231 t1232 t1233 = some r) ∧ Aside0 (kq ≤ kj10) ∧ Aside0 (Kd.R k78 78 wc w.heap.size (fun k_ => some k_ ≠ ((.slice Ao29 t1227.length co29) : Value).ownBlock ∧ some k_ ≠ ((.slice Ao36 t1233.length co36) : Value).ownBlock) (.slice Ao22 t1220.length co22) t1220) ∧ Aside0 (Kd.R k78 78 wc w.heap.size (fun k_ => some k_ ≠ ((.slice Ao22 t1220.length co22) : Value).ownBlock ∧ some k_ ≠ ((.slice Ao36 t1233.length co36) : Value).ownBlock) (.slice Ao29 t1227.length co29) t1246) ∧ Aside0 (Kd.R k78 78 wc w.heap.size (fun k_ => some k_ ≠ ((.slice Ao22 t1220.length co22) : Value).ownBlock ∧ some k_ ≠ ((.slice Ao29 t1227.length co29) : Value).ownBlock) (.slice Ao36 t1233.length co36) t1233) ∧ Aside0 (wc.heap[gb1211]? = some (.cells #[.int .i64 a0_0, .int .i64 a0_1, (.slice A0_2 l0_2.length c0_2)] 44 (0, 0))) ∧ Aside0 (wc.heap[gb1224]? = some (.cells #[.int .i64 t1218, .int .i64 t1219, (.slice Ao22 t1220.length co22)] 48 (0, 0))) ∧ Aside0 (wc.heap[gb1230]? = some (.cells #[.int .i64 t1225, .int .i64 t1226, (.slice Ao29 t1227.length co29)] 48 (0, 0))) ∧ Aside0 (wc.heap[gb1237]? = some (.cells #[.int .i64 t1231, .int .i64 t1232, (.slice Ao36 t1233.length co36)] 48 (0, 0))) ∧ Aside0 (Below w.heap.size w wc))
      case first =>
       have H := HC60.out
       clear HC60
       by_cases c70 : t1245 < 0
       ·rw [if_pos c70] at H
        have c70b0 : decide (t1245 < 0) = true := decide_eq_true c70
        clear c70
        (first | rw [c70b0] | (simp only [i64_w, i32_w]; rw [c70b0]) | skip)
        have H' := Aside0.mk H
        clear H
        go_wp2
        go_meet
        case rel => exact ⟨_, (true), (by first | rfl | (simp; done) | (simp [*]; done)), H', ⟨by have := HJ10.out; first | omega | exact Nat.le_refl _⟩, ⟨Kd.R_mv (Kd.R_mono HO_1225002.out (fun _ hk => ⟨hk.1, hk.2.1⟩))⟩, ⟨Kd.R_mv (Kd.R_mono HO_1231002.out (fun _ hk => ⟨hk.1.1, hk.1.2⟩))⟩, ⟨Kd.R_mv (Kd.R_mono HO_1238002.out (fun _ hk => ⟨hk.1, hk.2.1⟩))⟩, ⟨km_ BK1211⟩, ⟨km_ BK1224⟩, ⟨km_ BK1230⟩, ⟨km_ BK1237⟩, ⟨bm HB⟩⟩
       ·rw [if_neg c70] at H
        have c70b0 : decide (t1245 < 0) = false := decide_eq_false c70
        clear c70
        (first | rw [c70b0] | (simp only [i64_w, i32_w]; rw [c70b0]) | skip)
        replace H := Option.bind_eq_some_iff.mp H
        obtain ⟨t1247, A710, H⟩ := H
        replace H : (if t1247 = true then (laws_FnExactWithoutUnused.j1 kj10 t1223 (t1236 != t1223) a0_0 a0_1 l0_2 t1218 t1219 t1220 t1231 t1232 t1233) else (laws_FnExactWithoutUnused.j1 kj10 t1223 true a0_0 a0_1 l0_2 t1218 t1219 t1220 t1231 t1232 t1233)) = some r := H
        have A71 := Aside0.mk A710
        clear A710
        by_cases c72 : t1247 = true
        ·subst c72
         have H1 : (laws_FnExactWithoutUnused.j1 kj10 t1223 (t1236 != t1223) a0_0 a0_1 l0_2 t1218 t1219 t1220 t1231 t1232 t1233) = some r := by rw [if_pos rfl] at H; exact H
         clear H
         have H := H1
         clear H1
         have H' := Aside0.mk H
         clear H
         have hnb73 := NB1237_1211.out
         have hnc73 := NB1211_1237.out
         have hnb74 := NB1237_1224.out
         have hnc74 := NB1224_1237.out
         have hnb75 := NB1237_1230.out
         have hnc75 := NB1230_1237.out
         obtain ⟨hcz76_0, hcz76_1, hcz76_2, hfz76_0, hfz76_1, hfz76_2⟩ := bt3 BK1237
         have hnb77 := NB1224_1211.out
         have hnc77 := NB1211_1224.out
         have hnb78 := NB1224_1230.out
         have hnc78 := NB1230_1224.out
         obtain ⟨hcz79_0, hcz79_1, hcz79_2, hfz79_0, hfz79_1, hfz79_2⟩ := bt3 BK1224
         go_wp2_with (first | (go_at_call 34; (with_reducible refine (laws_eqBoard.calls kj10 t1231 t1232 _ _ t1233 t1218 t1219 _ _ t1220 true _ (Kd.C_mv (Kd.R_reads' HO_1238002.out).2.2) ((Kd.R_reads' HO_1238002.out).2.1) (Kd.C_mv (Kd.R_reads' HO_1225002.out).2.2) ((Kd.R_reads' HO_1225002.out).2.1) A71.out).mono ?_); rintro e w80 ⟨rfl, hb⟩; refine ev9 (Kd.R_below (Kd.R_mv HO_1225002.out) hb) (Kd.R_below (Kd.R_mv HO_1231002.out) hb) (Kd.R_below (Kd.R_mv HO_1238002.out) hb) (Kd.R_below (Kd.R_mv HO1243.out) hb) (kb BK1211 hb) (kb BK1224 hb) (kb BK1230 hb) (kb BK1237 hb) (bs HB hb) ?_; clear HO_1225002 HO_1231002 HO_1238002 HO1243 BK1211 BK1224 BK1230 BK1237 HB; intro HO_1225002 HO_1231002 HO_1238002 HO1243 BK1211 BK1224 BK1230 BK1237 HB; (try clear hb); (try clear hb2); (try clear hk); (try clear hi)))
         go_meet
         case rel => exact ⟨_, ((t1236 != t1223)), (by first | rfl | (simp; done) | (simp [*]; done)), H', ⟨by have := HJ10.out; first | omega | exact Nat.le_refl _⟩, ⟨Kd.R_mv (Kd.R_mono HO_1225002.out (fun _ hk => ⟨hk.1, hk.2.1⟩))⟩, ⟨Kd.R_mv (Kd.R_mono HO_1231002.out (fun _ hk => ⟨hk.1.1, hk.1.2⟩))⟩, ⟨Kd.R_mv (Kd.R_mono HO_1238002.out (fun _ hk => ⟨hk.1, hk.2.1⟩))⟩, ⟨km_ BK1211⟩, ⟨km_ BK1224⟩, ⟨km_ BK1230⟩, ⟨km_ BK1237⟩, ⟨bm HB⟩⟩
        ·replace c72 := Bool.eq_false_iff.mpr c72
         subst c72
         have H1 : (laws_FnExactWithoutUnused.j1 kj10 t1223 true a0_0 a0_1 l0_2 t1218 t1219 t1220 t1231 t1232 t1233) = some r := by rw [if_neg (show ¬ (false = true) by decide)] at H; exact H
         clear H
         have H := H1
         clear H1
         have H' := Aside0.mk H
         clear H
         have hnb81 := NB1237_1211.out
         have hnc81 := NB1211_1237.out
         have hnb82 := NB1237_1224.out
         have hnc82 := NB1224_1237.out
         have hnb83 := NB1237_1230.out
         have hnc83 := NB1230_1237.out
         obtain ⟨hcz84_0, hcz84_1, hcz84_2, hfz84_0, hfz84_1, hfz84_2⟩ := bt3 BK1237
         have hnb85 := NB1224_1211.out
         have hnc85 := NB1211_1224.out
         have hnb86 := NB1224_1230.out
         have hnc86 := NB1230_1224.out
         obtain ⟨hcz87_0, hcz87_1, hcz87_2, hfz87_0, hfz87_1, hfz87_2⟩ := bt3 BK1224
         go_wp2_with (first | (go_at_call 34; (with_reducible refine (laws_eqBoard.calls kj10 t1231 t1232 _ _ t1233 t1218 t1219 _ _ t1220 false _ (Kd.C_mv (Kd.R_reads' HO_1238002.out).2.2) ((Kd.R_reads' HO_1238002.out).2.1) (Kd.C_mv (Kd.R_reads' HO_1225002.out).2.2) ((Kd.R_reads' HO_1225002.out).2.1) A71.out).mono ?_); rintro e w88 ⟨rfl, hb⟩; refine ev9 (Kd.R_below (Kd.R_mv HO_1225002.out) hb) (Kd.R_below (Kd.R_mv HO_1231002.out) hb) (Kd.R_below (Kd.R_mv HO_1238002.out) hb) (Kd.R_below (Kd.R_mv HO1243.out) hb) (kb BK1211 hb) (kb BK1224 hb) (kb BK1230 hb) (kb BK1237 hb) (bs HB hb) ?_; clear HO_1225002 HO_1231002 HO_1238002 HO1243 BK1211 BK1224 BK1230 BK1237 HB; intro HO_1225002 HO_1231002 HO_1238002 HO1243 BK1211 BK1224 BK1230 BK1237 HB; (try clear hb); (try clear hb2); (try clear hk); (try clear hi)))
         go_meet
         case rel => exact ⟨_, (true), (by first | rfl | (simp; done) | (simp [*]; done)), H', ⟨by have := HJ10.out; first | omega | exact Nat.le_refl _⟩, ⟨Kd.R_mv (Kd.R_mono HO_1225002.out (fun _ hk => ⟨hk.1, hk.2.1⟩))⟩, ⟨Kd.R_mv (Kd.R_mono HO_1231002.out (fun _ hk => ⟨hk.1.1, hk.1.2⟩))⟩, ⟨Kd.R_mv (Kd.R_mono HO_1238002.out (fun _ hk => ⟨hk.1, hk.2.1⟩))⟩, ⟨km_ BK1211⟩, ⟨km_ BK1224⟩, ⟨km_ BK1230⟩, ⟨km_ BK1237⟩, ⟨bm HB⟩⟩
      case rest =>
       clear HC60
       try clear c1
       try clear c2
       try clear p2
       try clear c3
       try clear c3b0
       try clear c4
       try clear c5
       try clear c6
       try clear c10
       try clear c20
       try clear c26
       try clear c27
       try clear c30
       try clear c32
       try clear c33
       try clear c34
       try clear c39
       try clear c42
       try clear c43
       try clear c55
       try clear c58
       try clear c65
       try clear c66
       try clear c67
       try clear hcz13_0
       try clear hcz13_1
       try clear hcz13_2
       try clear hcz15_0
       try clear hcz15_1
       try clear hcz15_2
       try clear hcz21_0
       try clear hcz21_1
       try clear hcz21_2
       try clear hcz23_0
       try clear hcz23_1
       try clear hcz23_2
       try clear hcz28_0
       try clear hcz28_1
       try clear hcz28_2
       try clear hcz35_0
       try clear hcz35_1
       try clear hcz35_2
       try clear hcz68_0
       try clear hcz68_1
       try clear hcz68_2
       try clear hfz13_0
       try clear hfz13_1
       try clear hfz13_2
       try clear hfz15_0
       try clear hfz15_1
       try clear hfz15_2
       try clear hfz21_0
       try clear hfz21_1
       try clear hfz21_2
       try clear hfz23_0
       try clear hfz23_1
       try clear hfz23_2
       try clear hfz28_0
       try clear hfz28_1
       try clear hfz28_2
       try clear hfz35_0
       try clear hfz35_1
       try clear hfz35_2
       try clear hfz68_0
       try clear hfz68_1
       try clear hfz68_2
       obtain ⟨kq, x61_59, rfl, HA, HJ59, HO_1225002, HO_1231002, HO_1238002, BK1211, BK1224, BK1230, BK1237, HB⟩ := hcut
       have hl1231002_59 := (Kd.R_reads' HO_1231002.out).1
       rw [hl1231002_59] at HO_1231002
       (try simp only [hl1231002_59])
       (try simp only [hl1231002_59] at BK1211)
       (try simp only [hl1231002_59] at BK1224)
       (try simp only [hl1231002_59] at BK1230)
       (try simp only [hl1231002_59] at BK1237)
       (try simp only [hl1231002_59] at HO_1225002)
       (try simp only [hl1231002_59] at HO_1238002)
       cases kq with
       | zero => exact absurd HA.out (by simp [laws_FnExactWithoutUnused.j1])
       | succ kj59 =>
        have H := HA.out
        clear HA
        simp only [laws_FnExactWithoutUnused.j1] at H
        by_cases c89 : x61_59 = true
        ·subst c89
         have H1 : (some false) = some r := by rw [if_pos rfl] at H; exact H
         clear H
         have H := H1
         clear H1
         exact absurd (H.trans (congrArg some HRT.out)) (by simp)
        ·replace c89 := Bool.eq_false_iff.mpr c89
         subst c89
         have H1 : ((laws_markBoard.f kj59 t1231 t1232 t1233 1).bind fun bt1248 => ((laws_heldBoard.f kj59 t1231 t1232 bt1248.2 1).bind fun t1250 => (if t1250 < 0 then (some false) else (if t1250 = bt1248.1 then ((laws_toBoard.f kj59 a0_0 a0_1 l0_2).bind fun bt1251 => ((impl_WithoutUnused.f kj59 bt1251.1 bt1251.2.1 bt1251.2.2).bind fun bt1256 => ((laws_eqBoard.f kj59 bt1256.1 bt1256.2.1 bt1256.2.2.1 t1218 t1219 t1220).bind fun t1263 => (if t1263 = true then (laws_FnExactWithoutUnused.j2 kj59 bt1248.1 (bt1256.2.2.2 != t1223) t1231 t1232 bt1248.2) else (laws_FnExactWithoutUnused.j2 kj59 bt1248.1 true t1231 t1232 bt1248.2))))) else (some false))))) = some r := by rw [if_neg (show ¬ (false = true) by decide)] at H; exact H
         clear H
         have H := H1
         clear H1
         replace H := Option.bind_eq_some_iff.mp H
         obtain ⟨⟨t1248, t1249⟩, A900, H⟩ := H
         replace H : ((laws_heldBoard.f kj59 t1231 t1232 t1249 1).bind fun t1250 => (if t1250 < 0 then (some false) else (if t1250 = t1248 then ((laws_toBoard.f kj59 a0_0 a0_1 l0_2).bind fun bt1251 => ((impl_WithoutUnused.f kj59 bt1251.1 bt1251.2.1 bt1251.2.2).bind fun bt1256 => ((laws_eqBoard.f kj59 bt1256.1 bt1256.2.1 bt1256.2.2.1 t1218 t1219 t1220).bind fun t1263 => (if t1263 = true then (laws_FnExactWithoutUnused.j2 kj59 t1248 (bt1256.2.2.2 != t1223) t1231 t1232 t1249) else (laws_FnExactWithoutUnused.j2 kj59 t1248 true t1231 t1232 t1249))))) else (some false)))) = some r := H
         have A90 := Aside0.mk A900
         clear A900
         replace H := Option.bind_eq_some_iff.mp H
         obtain ⟨t1250, A910, H⟩ := H
         replace H : (if t1250 < 0 then (some false) else (if t1250 = t1248 then ((laws_toBoard.f kj59 a0_0 a0_1 l0_2).bind fun bt1251 => ((impl_WithoutUnused.f kj59 bt1251.1 bt1251.2.1 bt1251.2.2).bind fun bt1256 => ((laws_eqBoard.f kj59 bt1256.1 bt1256.2.1 bt1256.2.2.1 t1218 t1219 t1220).bind fun t1263 => (if t1263 = true then (laws_FnExactWithoutUnused.j2 kj59 t1248 (bt1256.2.2.2 != t1223) t1231 t1232 t1249) else (laws_FnExactWithoutUnused.j2 kj59 t1248 true t1231 t1232 t1249))))) else (some false))) = some r := H
         have A91 := Aside0.mk A910
         clear A910
         by_cases c92 : t1250 < 0
         ·rw [if_pos c92] at H
          have c92b0 : decide (t1250 < 0) = true := decide_eq_true c92
          clear c92
          exact absurd (H.trans (congrArg some HRT.out)) (by simp)
         ·rw [if_neg c92] at H
          have c92b0 : decide (t1250 < 0) = false := decide_eq_false c92
          clear c92
          by_cases c93 : t1250 = t1248
          ·rw [if_pos c93] at H
           have c93b0 : (t1250 == t1248) = true := beq_iff_eq.mpr c93
           have c93b1 : (t1250 != t1248) = false := bne_eq_false_iff_eq.mpr c93
           clear c93
           replace H := Option.bind_eq_some_iff.mp H
           obtain ⟨⟨t1251, t1252, t1253⟩, A940, H⟩ := H
           replace H : ((impl_WithoutUnused.f kj59 t1251 t1252 t1253).bind fun bt1256 => ((laws_eqBoard.f kj59 bt1256.1 bt1256.2.1 bt1256.2.2.1 t1218 t1219 t1220).bind fun t1263 => (if t1263 = true then (laws_FnExactWithoutUnused.j2 kj59 t1248 (bt1256.2.2.2 != t1223) t1231 t1232 t1249) else (laws_FnExactWithoutUnused.j2 kj59 t1248 true t1231 t1232 t1249)))) = some r := H
           have A94 := Aside0.mk A940
           clear A940
           replace H := Option.bind_eq_some_iff.mp H
           obtain ⟨⟨t1256, t1257, t1258, t1261⟩, A950, H⟩ := H
           replace H : ((laws_eqBoard.f kj59 t1256 t1257 t1258 t1218 t1219 t1220).bind fun t1263 => (if t1263 = true then (laws_FnExactWithoutUnused.j2 kj59 t1248 (t1261 != t1223) t1231 t1232 t1249) else (laws_FnExactWithoutUnused.j2 kj59 t1248 true t1231 t1232 t1249))) = some r := H
           have A95 := Aside0.mk A950
           clear A950
           have HC96 := Aside0.mk H
           clear H
           have hnb97 := NB1237_1211.out
           have hnc97 := NB1211_1237.out
           have hnb98 := NB1237_1224.out
           have hnc98 := NB1224_1237.out
           have hnb99 := NB1237_1230.out
           have hnc99 := NB1230_1237.out
           obtain ⟨hcz100_0, hcz100_1, hcz100_2, hfz100_0, hfz100_1, hfz100_2⟩ := bt3 BK1237
           go_upto_region 25 with (first | ((with_reducible refine gate_callee (f := 39) rfl ?_); refine goesL_ (some 64) rfl rfl Try.func39 (by kernel_rfl) rfl #[.agg #[.int .i64 t1231, .int .i64 t1232, .slice Ao36 t1233.length co36], .int .i64 1] rfl (by (try simp only [ma_, mb_, mc_]); first | done | rfl | (simp only [List.length_drop, List.length_take]; rfl)) ?_; (with_reducible refine (laws_markBoard.calls kj59 t1231 t1232 (fun k_ => some k_ = (.slice Ao36 t1233.length co36 : Value).ownBlock) (.slice Ao36 t1233.length co36) t1233 1 t1248 t1249 w _ (bm HB) ?side2 A90.out).mono ?_); (case side2 => exact Kd.R_tight rfl HO_1238002.out); rintro e w101 ⟨rfl, hy0, hb, hkp⟩; refine ⟨_, rfl, ?_⟩; refine ev8 (Kd.R_mono (ok' := fun k_ => some k_ ≠ (.slice Ao29 t1246.length co29 : Value).ownBlock ∧ some k_ ≠ (.slice Ao36 t1233.length co36 : Value).ownBlock) (Kd.R_keptB (HO_1225002.out) hkp (fun k_ hk_ hs_ => (hk_.2) hs_)) (fun k_ hk_ => ⟨hk_.1.1, hk_.1.2⟩)) (Kd.R_mono (ok' := fun k_ => some k_ ≠ (.slice Ao22 t1220.length co22 : Value).ownBlock ∧ some k_ ≠ (.slice Ao36 t1233.length co36 : Value).ownBlock) (Kd.R_keptB (HO_1231002.out) hkp (fun k_ hk_ hs_ => (hk_.2) hs_)) (fun k_ hk_ => ⟨hk_.1.1, hk_.1.2⟩)) (Kd.R_reok rfl hy0 (fun k_ e_ => HO_1238002.out.1 k_ e_)) (blk_kept (km_ BK1211) hkp (fun hs_ => (fun e_ => (Kd.R_ne HO_1238002.out BK1211.out (by decide)) e_) hs_)) (blk_kept (km_ BK1224) hkp (fun hs_ => (fun e_ => (Kd.R_ne HO_1238002.out BK1224.out (by decide)) e_) hs_)) (blk_kept (km_ BK1230) hkp (fun hs_ => (fun e_ => (Kd.R_ne HO_1238002.out BK1230.out (by decide)) e_) hs_)) (blk_kept (km_ BK1237) hkp (fun hs_ => (fun e_ => (Kd.R_ne HO_1238002.out BK1237.out (by decide)) e_) hs_)) (hb) ?_; clear HO_1225002 HO_1231002 HO_1238002 BK1211 BK1224 BK1230 BK1237 HB; intro HO_1225002 HO_1231002 HO_1238002 BK1211 BK1224 BK1230 BK1237 HB; (try clear hb); (try clear hkp); (try clear hy0); obtain ⟨hcz102_0, hcz102_1, hcz102_2, hfz102_0, hfz102_1, hfz102_2⟩ := bt3 BK1237) | ((with_reducible refine gate_callee (f := 44) rfl ?_); refine goesL_ (some 67) rfl rfl Try.func44 (by kernel_rfl) rfl #[.agg #[.int .i64 t1231, .int .i64 t1232, .slice Ao36 t1249.length co36], .int .i64 1] rfl (by (try simp only [ma_, mb_, mc_]); first | done | (rw [show t1249.length = t1233.length from (Kd.R_reads' HO_1238002.out).1.symm] <;> rfl) | rfl | (simp only [List.length_drop, List.length_take]; rfl)) ?_; (with_reducible refine (laws_heldBoard.calls kj59 t1231 t1232 _ _ t1249 1 t1250 _ (Kd.C_mv (Kd.R_reads' HO_1238002.out).2.2) ?side2 A91.out).mono ?_); (case side2 => rw [show t1249.length = t1233.length from (Kd.R_reads' HO_1238002.out).1.symm]; exact (Kd.R_reads' HO_1238002.out).2.1); rintro e w103 ⟨rfl, hb⟩; refine ⟨_, rfl, ?_⟩; refine ev8 (Kd.R_below (Kd.R_mv HO_1225002.out) hb) (Kd.R_below (Kd.R_mv HO_1231002.out) hb) (Kd.R_below (Kd.R_mv HO_1238002.out) hb) (kb BK1211 hb) (kb BK1224 hb) (kb BK1230 hb) (kb BK1237 hb) (bs HB hb) ?_; clear HO_1225002 HO_1231002 HO_1238002 BK1211 BK1224 BK1230 BK1237 HB; intro HO_1225002 HO_1231002 HO_1238002 BK1211 BK1224 BK1230 BK1237 HB; (try clear hb); (try clear hb2); (try clear hk); (try clear hi); have hnb104 := NB1211_1224.out; have hnc104 := NB1224_1211.out; have hnb105 := NB1211_1230.out; have hnc105 := NB1230_1211.out; obtain ⟨hcz106_0, hcz106_1, hcz106_2, hfz106_0, hfz106_1, hfz106_2⟩ := bt3 BK1211) | ((with_reducible refine gate_callee (f := 32) rfl ?_); refine goesL_ (some 75) rfl rfl Try.func32 (by kernel_rfl) rfl #[.agg #[.int .i64 a0_0, .int .i64 a0_1, .slice A0_2 l0_2.length c0_2]] rfl (by (try simp only [ma_, mb_, mc_]); first | done | rfl | (simp only [List.length_drop, List.length_take]; rfl)) ?_; (with_reducible refine (laws_toBoard.calls kj59 a0_0 a0_1 _ _ l0_2 t1251 t1252 t1253 _ (Kd.C_mv (Kd.C_below HR0_2.out HB.out)) HC0_2.out A94.out).mono ?_); rintro e w107 ⟨v1254, rfl, ho0, hb⟩; refine ⟨_, rfl, ?_⟩; refine ev9 (Kd.R_elder' (Kd.R_mv HO_1225002.out) (Kd.R_base ho0) hb) (Kd.R_elder' (Kd.R_mv HO_1231002.out) (Kd.R_base ho0) hb) (Kd.R_elder' (Kd.R_mv HO_1238002.out) (Kd.R_base ho0) hb) (Kd.R_lower (Kd.R_new' (Kd.R_new' (Kd.R_new' ho0 (Kd.R_lt (Kd.R_mv HO_1225002.out))) (Kd.R_lt (Kd.R_mv HO_1231002.out))) (Kd.R_lt (Kd.R_mv HO_1238002.out))) (below_size (bm HB))) (kb BK1211 hb) (kb BK1224 hb) (kb BK1230 hb) (kb BK1237 hb) (bs HB hb) ?_; clear HO_1225002 HO_1231002 HO_1238002 BK1211 BK1224 BK1230 BK1237 HB; intro HO_1225002 HO_1231002 HO_1238002 HO1255 BK1211 BK1224 BK1230 BK1237 HB; (try clear hb); (try clear hb2); (try clear hk); (try clear hi); (try clear ho0); obtain ⟨Ao108, co108, eo108⟩ := Kd.R_slice HO1255.out; subst eo108) | ((with_reducible refine gate_callee (f := 43) rfl ?_); refine goesL_ (some 76) rfl rfl Try.func43 (by kernel_rfl) rfl #[.agg #[.int .i64 t1251, .int .i64 t1252, .slice Ao108 t1253.length co108]] rfl (by (try simp only [ma_, mb_, mc_]); first | done | rfl | (simp only [List.length_drop, List.length_take]; rfl)) ?_; (with_reducible refine (impl_WithoutUnused.calls kj59 t1251 t1252 _ _ t1253 t1256 t1257 t1258 t1261 _ (Kd.C_mv (Kd.R_reads' HO1255.out).2.2) ((Kd.R_reads' HO1255.out).2.1) A95.out).mono ?_); rintro e w109 ⟨v1259, rfl, ho0, hb⟩; refine ⟨_, rfl, ?_⟩; refine ev10 (Kd.R_elder' (Kd.R_mv HO_1225002.out) (Kd.R_base ho0) hb) (Kd.R_elder' (Kd.R_mv HO_1231002.out) (Kd.R_base ho0) hb) (Kd.R_elder' (Kd.R_mv HO_1238002.out) (Kd.R_base ho0) hb) (Kd.R_elder' (Kd.R_mv HO1255.out) (Kd.R_base ho0) hb) (Kd.R_lower (Kd.R_new' (Kd.R_new' (Kd.R_new' (Kd.R_new' ho0 (Kd.R_lt (Kd.R_mv HO_1225002.out))) (Kd.R_lt (Kd.R_mv HO_1231002.out))) (Kd.R_lt (Kd.R_mv HO_1238002.out))) (Kd.R_lt (Kd.R_mv HO1255.out))) (below_size (bm HB))) (kb BK1211 hb) (kb BK1224 hb) (kb BK1230 hb) (kb BK1237 hb) (bs HB hb) ?_; clear HO_1225002 HO_1231002 HO_1238002 HO1255 BK1211 BK1224 BK1230 BK1237 HB; intro HO_1225002 HO_1231002 HO_1238002 HO1255 HO1260 BK1211 BK1224 BK1230 BK1237 HB; (try clear hb); (try clear hb2); (try clear hk); (try clear hi); (try clear ho0)) | ((with_reducible refine gate_dst (N := 12) rfl ?_); refine box_event ?hg (N := 12) ?hd (cs := #[.int .i64 0, .int .i64 0, .slice none 0 0]) (t := 48) ?hr ?_; (case hd => rfl); (case hg => rfl); (case hr => first | (go_simp; done) | (go_simp; rfl)); intro gb1262 hg w110 hbox hb; refine ev12 (Kd.R_below (Kd.R_mv HO_1225002.out) hb) (Kd.R_below (Kd.R_mv HO_1231002.out) hb) (Kd.R_below (Kd.R_mv HO_1238002.out) hb) (Kd.R_below (Kd.R_mv HO1255.out) hb) (Kd.R_below (Kd.R_mv HO1260.out) hb) (kb BK1211 hb) (kb BK1224 hb) (kb BK1230 hb) (kb BK1237 hb) (bs HB hb) (hbox) (gle hg HB) ?_; intro n0_ n1_ n2_ n3_ n4_ n5_ n6_ n7_ n8_ n9_ n10_ n11_; refine ev9 (gle hg HB) (gnf hg BK1211) (gne hg BK1211) (gnf hg BK1224) (gne hg BK1224) (gnf hg BK1230) (gne hg BK1230) (gnf hg BK1237) (gne hg BK1237) ?_; intro n12_ n13_ n14_ n15_ n16_ n17_ n18_ n19_ n20_; clear HO_1225002 HO_1231002 HO_1238002 HO1255 HO1260 BK1211 BK1224 BK1230 BK1237 HB; revert n0_ n1_ n2_ n3_ n4_ n5_ n6_ n7_ n8_ n9_ n10_ n11_ n12_ n13_ n14_ n15_ n16_ n17_ n18_ n19_ n20_; intro HO_1225002 HO_1231002 HO_1238002 HO1255 HO1260 BK1211 BK1224 BK1230 BK1237 HB BK1262 GW1262 GE1262 NB1211_1262 NB1262_1211 NB1224_1262 NB1262_1224 NB1230_1262 NB1262_1230 NB1237_1262 NB1262_1237; clear hb hbox hg; have hnb111 := NB1262_1211.out; have hnc111 := NB1211_1262.out; have hnb112 := NB1262_1224.out; have hnc112 := NB1224_1262.out; have hnb113 := NB1262_1230.out; have hnc113 := NB1230_1262.out; have hnb114 := NB1262_1237.out; have hnc114 := NB1237_1262.out; obtain ⟨hcz115_0, hcz115_1, hcz115_2, hfz115_0, hfz115_1, hfz115_2⟩ := bt3 BK1262; obtain ⟨Ao116, co116, eo116⟩ := Kd.R_slice HO1260.out; subst eo116))
           (try simp only [Act.put, za_, zb_, zc_])
           go_cut [87] (fun v87 wc => ∃ (kq : Nat) (x87_95 : Bool), v87 = .bool x87_95 ∧ Aside0 (laws_FnExactWithoutUnused.j2 kq t1248 x87_95 t1231 t1232 t1249 = some r) ∧ Aside0 (kq ≤ kj59) ∧ Aside0 (Kd.R k78 78 wc w.heap.size (fun k_ => some k_ ≠ ((.slice Ao29 t1246.length co29) : Value).ownBlock ∧ some k_ ≠ ((.slice Ao36 t1233.length co36) : Value).ownBlock ∧ some k_ ≠ ((.slice Ao116 t1258.length co116) : Value).ownBlock) (.slice Ao22 t1220.length co22) t1220) ∧ Aside0 (Kd.R k78 78 wc w.heap.size (fun k_ => some k_ ≠ ((.slice Ao22 t1220.length co22) : Value).ownBlock ∧ some k_ ≠ ((.slice Ao36 t1233.length co36) : Value).ownBlock ∧ some k_ ≠ ((.slice Ao116 t1258.length co116) : Value).ownBlock) (.slice Ao29 t1246.length co29) t1246) ∧ Aside0 (Kd.R k78 78 wc w.heap.size (fun k_ => some k_ ≠ ((.slice Ao22 t1220.length co22) : Value).ownBlock ∧ some k_ ≠ ((.slice Ao29 t1246.length co29) : Value).ownBlock ∧ some k_ ≠ ((.slice Ao116 t1258.length co116) : Value).ownBlock) (.slice Ao36 t1233.length co36) t1249) ∧ Aside0 (Kd.R k78 78 wc w.heap.size (fun k_ => some k_ ≠ ((.slice Ao22 t1220.length co22) : Value).ownBlock ∧ some k_ ≠ ((.slice Ao29 t1246.length co29) : Value).ownBlock ∧ some k_ ≠ ((.slice Ao36 t1233.length co36) : Value).ownBlock) (.slice Ao116 t1258.length co116) t1258) ∧ Aside0 (wc.heap[gb1211]? = some (.cells #[.int .i64 a0_0, .int .i64 a0_1, (.slice A0_2 l0_2.length c0_2)] 44 (0, 0))) ∧ Aside0 (wc.heap[gb1224]? = some (.cells #[.int .i64 t1218, .int .i64 t1219, (.slice Ao22 t1220.length co22)] 48 (0, 0))) ∧ Aside0 (wc.heap[gb1230]? = some (.cells #[.int .i64 t1225, .int .i64 t1226, (.slice Ao29 t1246.length co29)] 48 (0, 0))) ∧ Aside0 (wc.heap[gb1237]? = some (.cells #[.int .i64 t1231, .int .i64 t1232, (.slice Ao36 t1233.length co36)] 48 (0, 0))) ∧ Aside0 (wc.heap[gb1262]? = some (.cells #[.int .i64 t1256, .int .i64 t1257, (.slice Ao116 t1258.length co116)] 48 (0, 0))) ∧ Aside0 (Below w.heap.size w wc))
           case first =>
            have H := HC96.out
            clear HC96
            replace H := Option.bind_eq_some_iff.mp H
            obtain ⟨t1263, A1170, H⟩ := H
            replace H : (if t1263 = true then (laws_FnExactWithoutUnused.j2 kj59 t1248 (t1261 != t1223) t1231 t1232 t1249) else (laws_FnExactWithoutUnused.j2 kj59 t1248 true t1231 t1232 t1249)) = some r := H
            have A117 := Aside0.mk A1170
            clear A1170
            by_cases c118 : t1263 = true
            ·subst c118
             have H1 : (laws_FnExactWithoutUnused.j2 kj59 t1248 (t1261 != t1223) t1231 t1232 t1249) = some r := by rw [if_pos rfl] at H; exact H
             clear H
             have H := H1
             clear H1
             have H' := Aside0.mk H
             clear H
             have hnb119 := NB1262_1211.out
             have hnc119 := NB1211_1262.out
             have hnb120 := NB1262_1224.out
             have hnc120 := NB1224_1262.out
             have hnb121 := NB1262_1230.out
             have hnc121 := NB1230_1262.out
             have hnb122 := NB1262_1237.out
             have hnc122 := NB1237_1262.out
             obtain ⟨hcz123_0, hcz123_1, hcz123_2, hfz123_0, hfz123_1, hfz123_2⟩ := bt3 BK1262
             have hnb124 := NB1224_1211.out
             have hnc124 := NB1211_1224.out
             have hnb125 := NB1224_1230.out
             have hnc125 := NB1230_1224.out
             have hnb126 := NB1224_1237.out
             have hnc126 := NB1237_1224.out
             obtain ⟨hcz127_0, hcz127_1, hcz127_2, hfz127_0, hfz127_1, hfz127_2⟩ := bt3 BK1224
             go_wp2_with (first | ((with_reducible refine gate_callee (f := 34) rfl ?_); refine goesL_ (some 81) rfl rfl Try.func34 (by kernel_rfl) rfl #[.agg #[.int .i64 t1256, .int .i64 t1257, .slice Ao116 t1258.length co116], .agg #[.int .i64 t1218, .int .i64 t1219, .slice Ao22 t1220.length co22]] rfl (by (try simp only [ma_, mb_, mc_]); first | done | rfl | (simp only [List.length_drop, List.length_take]; rfl)) ?_; (with_reducible refine (laws_eqBoard.calls kj59 t1256 t1257 _ _ t1258 t1218 t1219 _ _ t1220 true _ ?side1 ((Kd.R_reads' HO1260.out).2.1) ?side3 ((Kd.R_reads' HO_1225002.out).2.1) A117.out).mono ?_); (case side1 => refine (Kd.R_reads' (e := 78) (base := w.heap.size) (ok := fun k_ => ((((True ∧ some k_ ≠ (.slice Ao22 t1220.length co22 : Value).ownBlock) ∧ some k_ ≠ (.slice Ao29 t1246.length co29 : Value).ownBlock) ∧ some k_ ≠ (.slice Ao36 t1233.length co36 : Value).ownBlock) ∧ some k_ ≠ (.slice Ao108 t1253.length co108 : Value).ownBlock)) (n := t1258.length) (c := co116) ?_).2.2; exact (Kd.R_mv (Kd.R_mono (Kd.R_far (p := ⟨gb1262, 2, none⟩) (Kd.R_far (p := ⟨gb1262, 1, none⟩) (Kd.R_far (p := ⟨gb1262, 0, none⟩) (Kd.R_types HO1260.out BK1262.out (by decide)) (fun _ hk => hk.2) (.int .i64 t1256)) (fun _ hk => hk.2) (.int .i64 t1257)) (fun _ hk => hk.2) (.slice Ao116 t1258.length co116)) (fun _ h_ => h_.1)))); (case side3 => refine (Kd.R_reads' (e := 78) (base := w.heap.size) (ok := fun k_ => (((some k_ ≠ (.slice Ao29 t1246.length co29 : Value).ownBlock ∧ some k_ ≠ (.slice Ao36 t1233.length co36 : Value).ownBlock) ∧ some k_ ≠ (.slice Ao108 t1253.length co108 : Value).ownBlock) ∧ some k_ ≠ (.slice Ao116 t1258.length co116 : Value).ownBlock)) (n := t1220.length) (c := co22) ?_).2.2; exact (Kd.R_mv (Kd.R_mono (Kd.R_far (p := ⟨gb1262, 2, none⟩) (Kd.R_far (p := ⟨gb1262, 1, none⟩) (Kd.R_far (p := ⟨gb1262, 0, none⟩) (Kd.R_types HO_1225002.out BK1262.out (by decide)) (fun _ hk => hk.2) (.int .i64 t1256)) (fun _ hk => hk.2) (.int .i64 t1257)) (fun _ hk => hk.2) (.slice Ao116 t1258.length co116)) (fun _ h_ => h_.1)))); rintro e w128 ⟨rfl, hb⟩; refine ⟨_, rfl, ?_⟩; refine ev11 (Kd.R_below (Kd.R_mv (Kd.R_mono (Kd.R_far (p := ⟨gb1262, 2, none⟩) (Kd.R_far (p := ⟨gb1262, 1, none⟩) (Kd.R_far (p := ⟨gb1262, 0, none⟩) (Kd.R_types HO_1225002.out BK1262.out (by decide)) (fun _ hk => hk.2) (.int .i64 t1256)) (fun _ hk => hk.2) (.int .i64 t1257)) (fun _ hk => hk.2) (.slice Ao116 t1258.length co116)) (fun _ h_ => h_.1))) hb) (Kd.R_below (Kd.R_mv (Kd.R_mono (Kd.R_far (p := ⟨gb1262, 2, none⟩) (Kd.R_far (p := ⟨gb1262, 1, none⟩) (Kd.R_far (p := ⟨gb1262, 0, none⟩) (Kd.R_types HO_1231002.out BK1262.out (by decide)) (fun _ hk => hk.2) (.int .i64 t1256)) (fun _ hk => hk.2) (.int .i64 t1257)) (fun _ hk => hk.2) (.slice Ao116 t1258.length co116)) (fun _ h_ => h_.1))) hb) (Kd.R_below (Kd.R_mv (Kd.R_mono (Kd.R_far (p := ⟨gb1262, 2, none⟩) (Kd.R_far (p := ⟨gb1262, 1, none⟩) (Kd.R_far (p := ⟨gb1262, 0, none⟩) (Kd.R_types HO_1238002.out BK1262.out (by decide)) (fun _ hk => hk.2) (.int .i64 t1256)) (fun _ hk => hk.2) (.int .i64 t1257)) (fun _ hk => hk.2) (.slice Ao116 t1258.length co116)) (fun _ h_ => h_.1))) hb) (Kd.R_below (Kd.R_mv (Kd.R_mono (Kd.R_far (p := ⟨gb1262, 2, none⟩) (Kd.R_far (p := ⟨gb1262, 1, none⟩) (Kd.R_far (p := ⟨gb1262, 0, none⟩) (Kd.R_types HO1255.out BK1262.out (by decide)) (fun _ hk => hk.2) (.int .i64 t1256)) (fun _ hk => hk.2) (.int .i64 t1257)) (fun _ hk => hk.2) (.slice Ao116 t1258.length co116)) (fun _ h_ => h_.1))) hb) (Kd.R_below (Kd.R_mv (Kd.R_mono (Kd.R_far (p := ⟨gb1262, 2, none⟩) (Kd.R_far (p := ⟨gb1262, 1, none⟩) (Kd.R_far (p := ⟨gb1262, 0, none⟩) (Kd.R_types HO1260.out BK1262.out (by decide)) (fun _ hk => hk.2) (.int .i64 t1256)) (fun _ hk => hk.2) (.int .i64 t1257)) (fun _ hk => hk.2) (.slice Ao116 t1258.length co116)) (fun _ h_ => h_.1))) hb) (blk_below (g := gb1211) (o := .cells #[.int .i64 a0_0, .int .i64 a0_1, .slice A0_2 l0_2.length c0_2] 44 (0, 0)) (fp BK1211 rfl) hb) (blk_below (g := gb1224) (o := .cells #[.int .i64 t1218, .int .i64 t1219, .slice Ao22 t1220.length co22] 48 (0, 0)) (fp BK1224 rfl) hb) (blk_below (g := gb1230) (o := .cells #[.int .i64 t1225, .int .i64 t1226, .slice Ao29 t1246.length co29] 48 (0, 0)) (fp BK1230 rfl) hb) (blk_below (g := gb1237) (o := .cells #[.int .i64 t1231, .int .i64 t1232, .slice Ao36 t1233.length co36] 48 (0, 0)) (fp BK1237 rfl) hb) (blk_below (g := gb1262) (o := .cells #[.int .i64 t1256, .int .i64 t1257, .slice Ao116 t1258.length co116] 48 (0, 0)) (fp BK1262 rfl) hb) (bs HB hb) ?_; clear HO_1225002 HO_1231002 HO_1238002 HO1255 HO1260 BK1211 BK1224 BK1230 BK1237 BK1262 HB; intro HO_1225002 HO_1231002 HO_1238002 HO1255 HO1260 BK1211 BK1224 BK1230 BK1237 BK1262 HB; (try clear hb); (try clear hb2); (try clear hk); (try clear hi)))
             go_meet
             case rel => exact ⟨_, ((t1261 != t1223)), (by first | rfl | (simp; done) | (simp [*]; done)), H', ⟨by have := HJ10.out; have := HJ59.out; first | omega | exact Nat.le_refl _⟩, ⟨by (try simp only [hl1231002_59]); exact Kd.R_mv (Kd.R_mono HO_1225002.out (fun _ hk => ⟨hk.1.1.1, ⟨hk.1.1.2, hk.2⟩⟩))⟩, ⟨by (try simp only [hl1231002_59]); exact Kd.R_mv (Kd.R_mono HO_1231002.out (fun _ hk => ⟨hk.1.1.1, ⟨hk.1.1.2, hk.2⟩⟩))⟩, ⟨by (try simp only [hl1231002_59]); exact Kd.R_mv (Kd.R_mono HO_1238002.out (fun _ hk => ⟨hk.1.1.1, ⟨hk.1.1.2, hk.2⟩⟩))⟩, ⟨by (try simp only [hl1231002_59]); exact Kd.R_mv (Kd.R_mono HO1260.out (fun _ hk => ⟨hk.1.1.1.2, ⟨hk.1.1.2, hk.1.2⟩⟩))⟩, ⟨by (try simp only [hl1231002_59]); exact km_ BK1211⟩, ⟨by (try simp only [hl1231002_59]); exact km_ BK1224⟩, ⟨by (try simp only [hl1231002_59]); exact km_ BK1230⟩, ⟨by (try simp only [hl1231002_59]); exact km_ BK1237⟩, ⟨by (try simp only [hl1231002_59]); exact km_ BK1262⟩, ⟨bm HB⟩⟩
            ·replace c118 := Bool.eq_false_iff.mpr c118
             subst c118
             have H1 : (laws_FnExactWithoutUnused.j2 kj59 t1248 true t1231 t1232 t1249) = some r := by rw [if_neg (show ¬ (false = true) by decide)] at H; exact H
             clear H
             have H := H1
             clear H1
             have H' := Aside0.mk H
             clear H
             have hnb129 := NB1262_1211.out
             have hnc129 := NB1211_1262.out
             have hnb130 := NB1262_1224.out
             have hnc130 := NB1224_1262.out
             have hnb131 := NB1262_1230.out
             have hnc131 := NB1230_1262.out
             have hnb132 := NB1262_1237.out
             have hnc132 := NB1237_1262.out
             obtain ⟨hcz133_0, hcz133_1, hcz133_2, hfz133_0, hfz133_1, hfz133_2⟩ := bt3 BK1262
             have hnb134 := NB1224_1211.out
             have hnc134 := NB1211_1224.out
             have hnb135 := NB1224_1230.out
             have hnc135 := NB1230_1224.out
             have hnb136 := NB1224_1237.out
             have hnc136 := NB1237_1224.out
             obtain ⟨hcz137_0, hcz137_1, hcz137_2, hfz137_0, hfz137_1, hfz137_2⟩ := bt3 BK1224
             go_wp2_with (first | ((with_reducible refine gate_callee (f := 34) rfl ?_); refine goesL_ (some 81) rfl rfl Try.func34 (by kernel_rfl) rfl #[.agg #[.int .i64 t1256, .int .i64 t1257, .slice Ao116 t1258.length co116], .agg #[.int .i64 t1218, .int .i64 t1219, .slice Ao22 t1220.length co22]] rfl (by (try simp only [ma_, mb_, mc_]); first | done | rfl | (simp only [List.length_drop, List.length_take]; rfl)) ?_; (with_reducible refine (laws_eqBoard.calls kj59 t1256 t1257 _ _ t1258 t1218 t1219 _ _ t1220 false _ ?side1 ((Kd.R_reads' HO1260.out).2.1) ?side3 ((Kd.R_reads' HO_1225002.out).2.1) A117.out).mono ?_); (case side1 => refine (Kd.R_reads' (e := 78) (base := w.heap.size) (ok := fun k_ => ((((True ∧ some k_ ≠ (.slice Ao22 t1220.length co22 : Value).ownBlock) ∧ some k_ ≠ (.slice Ao29 t1246.length co29 : Value).ownBlock) ∧ some k_ ≠ (.slice Ao36 t1233.length co36 : Value).ownBlock) ∧ some k_ ≠ (.slice Ao108 t1253.length co108 : Value).ownBlock)) (n := t1258.length) (c := co116) ?_).2.2; exact (Kd.R_mv (Kd.R_mono (Kd.R_far (p := ⟨gb1262, 2, none⟩) (Kd.R_far (p := ⟨gb1262, 1, none⟩) (Kd.R_far (p := ⟨gb1262, 0, none⟩) (Kd.R_types HO1260.out BK1262.out (by decide)) (fun _ hk => hk.2) (.int .i64 t1256)) (fun _ hk => hk.2) (.int .i64 t1257)) (fun _ hk => hk.2) (.slice Ao116 t1258.length co116)) (fun _ h_ => h_.1)))); (case side3 => refine (Kd.R_reads' (e := 78) (base := w.heap.size) (ok := fun k_ => (((some k_ ≠ (.slice Ao29 t1246.length co29 : Value).ownBlock ∧ some k_ ≠ (.slice Ao36 t1233.length co36 : Value).ownBlock) ∧ some k_ ≠ (.slice Ao108 t1253.length co108 : Value).ownBlock) ∧ some k_ ≠ (.slice Ao116 t1258.length co116 : Value).ownBlock)) (n := t1220.length) (c := co22) ?_).2.2; exact (Kd.R_mv (Kd.R_mono (Kd.R_far (p := ⟨gb1262, 2, none⟩) (Kd.R_far (p := ⟨gb1262, 1, none⟩) (Kd.R_far (p := ⟨gb1262, 0, none⟩) (Kd.R_types HO_1225002.out BK1262.out (by decide)) (fun _ hk => hk.2) (.int .i64 t1256)) (fun _ hk => hk.2) (.int .i64 t1257)) (fun _ hk => hk.2) (.slice Ao116 t1258.length co116)) (fun _ h_ => h_.1)))); rintro e w138 ⟨rfl, hb⟩; refine ⟨_, rfl, ?_⟩; refine ev11 (Kd.R_below (Kd.R_mv (Kd.R_mono (Kd.R_far (p := ⟨gb1262, 2, none⟩) (Kd.R_far (p := ⟨gb1262, 1, none⟩) (Kd.R_far (p := ⟨gb1262, 0, none⟩) (Kd.R_types HO_1225002.out BK1262.out (by decide)) (fun _ hk => hk.2) (.int .i64 t1256)) (fun _ hk => hk.2) (.int .i64 t1257)) (fun _ hk => hk.2) (.slice Ao116 t1258.length co116)) (fun _ h_ => h_.1))) hb) (Kd.R_below (Kd.R_mv (Kd.R_mono (Kd.R_far (p := ⟨gb1262, 2, none⟩) (Kd.R_far (p := ⟨gb1262, 1, none⟩) (Kd.R_far (p := ⟨gb1262, 0, none⟩) (Kd.R_types HO_1231002.out BK1262.out (by decide)) (fun _ hk => hk.2) (.int .i64 t1256)) (fun _ hk => hk.2) (.int .i64 t1257)) (fun _ hk => hk.2) (.slice Ao116 t1258.length co116)) (fun _ h_ => h_.1))) hb) (Kd.R_below (Kd.R_mv (Kd.R_mono (Kd.R_far (p := ⟨gb1262, 2, none⟩) (Kd.R_far (p := ⟨gb1262, 1, none⟩) (Kd.R_far (p := ⟨gb1262, 0, none⟩) (Kd.R_types HO_1238002.out BK1262.out (by decide)) (fun _ hk => hk.2) (.int .i64 t1256)) (fun _ hk => hk.2) (.int .i64 t1257)) (fun _ hk => hk.2) (.slice Ao116 t1258.length co116)) (fun _ h_ => h_.1))) hb) (Kd.R_below (Kd.R_mv (Kd.R_mono (Kd.R_far (p := ⟨gb1262, 2, none⟩) (Kd.R_far (p := ⟨gb1262, 1, none⟩) (Kd.R_far (p := ⟨gb1262, 0, none⟩) (Kd.R_types HO1255.out BK1262.out (by decide)) (fun _ hk => hk.2) (.int .i64 t1256)) (fun _ hk => hk.2) (.int .i64 t1257)) (fun _ hk => hk.2) (.slice Ao116 t1258.length co116)) (fun _ h_ => h_.1))) hb) (Kd.R_below (Kd.R_mv (Kd.R_mono (Kd.R_far (p := ⟨gb1262, 2, none⟩) (Kd.R_far (p := ⟨gb1262, 1, none⟩) (Kd.R_far (p := ⟨gb1262, 0, none⟩) (Kd.R_types HO1260.out BK1262.out (by decide)) (fun _ hk => hk.2) (.int .i64 t1256)) (fun _ hk => hk.2) (.int .i64 t1257)) (fun _ hk => hk.2) (.slice Ao116 t1258.length co116)) (fun _ h_ => h_.1))) hb) (blk_below (g := gb1211) (o := .cells #[.int .i64 a0_0, .int .i64 a0_1, .slice A0_2 l0_2.length c0_2] 44 (0, 0)) (fp BK1211 rfl) hb) (blk_below (g := gb1224) (o := .cells #[.int .i64 t1218, .int .i64 t1219, .slice Ao22 t1220.length co22] 48 (0, 0)) (fp BK1224 rfl) hb) (blk_below (g := gb1230) (o := .cells #[.int .i64 t1225, .int .i64 t1226, .slice Ao29 t1246.length co29] 48 (0, 0)) (fp BK1230 rfl) hb) (blk_below (g := gb1237) (o := .cells #[.int .i64 t1231, .int .i64 t1232, .slice Ao36 t1233.length co36] 48 (0, 0)) (fp BK1237 rfl) hb) (blk_below (g := gb1262) (o := .cells #[.int .i64 t1256, .int .i64 t1257, .slice Ao116 t1258.length co116] 48 (0, 0)) (fp BK1262 rfl) hb) (bs HB hb) ?_; clear HO_1225002 HO_1231002 HO_1238002 HO1255 HO1260 BK1211 BK1224 BK1230 BK1237 BK1262 HB; intro HO_1225002 HO_1231002 HO_1238002 HO1255 HO1260 BK1211 BK1224 BK1230 BK1237 BK1262 HB; (try clear hb); (try clear hb2); (try clear hk); (try clear hi)))
             go_meet
             case rel => exact ⟨_, (true), (by first | rfl | (simp; done) | (simp [*]; done)), H', ⟨by have := HJ10.out; have := HJ59.out; first | omega | exact Nat.le_refl _⟩, ⟨by (try simp only [hl1231002_59]); exact Kd.R_mv (Kd.R_mono HO_1225002.out (fun _ hk => ⟨hk.1.1.1, ⟨hk.1.1.2, hk.2⟩⟩))⟩, ⟨by (try simp only [hl1231002_59]); exact Kd.R_mv (Kd.R_mono HO_1231002.out (fun _ hk => ⟨hk.1.1.1, ⟨hk.1.1.2, hk.2⟩⟩))⟩, ⟨by (try simp only [hl1231002_59]); exact Kd.R_mv (Kd.R_mono HO_1238002.out (fun _ hk => ⟨hk.1.1.1, ⟨hk.1.1.2, hk.2⟩⟩))⟩, ⟨by (try simp only [hl1231002_59]); exact Kd.R_mv (Kd.R_mono HO1260.out (fun _ hk => ⟨hk.1.1.1.2, ⟨hk.1.1.2, hk.1.2⟩⟩))⟩, ⟨by (try simp only [hl1231002_59]); exact km_ BK1211⟩, ⟨by (try simp only [hl1231002_59]); exact km_ BK1224⟩, ⟨by (try simp only [hl1231002_59]); exact km_ BK1230⟩, ⟨by (try simp only [hl1231002_59]); exact km_ BK1237⟩, ⟨by (try simp only [hl1231002_59]); exact km_ BK1262⟩, ⟨bm HB⟩⟩
           case rest =>
            clear HC96
            try clear c1
            try clear c2
            try clear p2
            try clear c3
            try clear c3b0
            try clear c4
            try clear c5
            try clear c6
            try clear c8
            try clear c9
            try clear c10
            try clear c11
            try clear c20
            try clear c26
            try clear c27
            try clear c30
            try clear c32
            try clear c33
            try clear c34
            try clear c39
            try clear c42
            try clear c43
            try clear c44
            try clear c55
            try clear c58
            try clear c65
            try clear c66
            try clear c67
            try clear c89
            try clear c92
            try clear c92b0
            try clear c93
            try clear c93b0
            try clear c93b1
            try clear c97
            try clear c98
            try clear c99
            try clear c104
            try clear c105
            try clear c111
            try clear c112
            try clear c113
            try clear c114
            try clear hcz100_0
            try clear hcz100_1
            try clear hcz100_2
            try clear hcz102_0
            try clear hcz102_1
            try clear hcz102_2
            try clear hcz106_0
            try clear hcz106_1
            try clear hcz106_2
            try clear hcz115_0
            try clear hcz115_1
            try clear hcz115_2
            try clear hcz13_0
            try clear hcz13_1
            try clear hcz13_2
            try clear hcz15_0
            try clear hcz15_1
            try clear hcz15_2
            try clear hcz21_0
            try clear hcz21_1
            try clear hcz21_2
            try clear hcz23_0
            try clear hcz23_1
            try clear hcz23_2
            try clear hcz28_0
            try clear hcz28_1
            try clear hcz28_2
            try clear hcz35_0
            try clear hcz35_1
            try clear hcz35_2
            try clear hcz68_0
            try clear hcz68_1
            try clear hcz68_2
            try clear hfz100_0
            try clear hfz100_1
            try clear hfz100_2
            try clear hfz102_0
            try clear hfz102_1
            try clear hfz102_2
            try clear hfz106_0
            try clear hfz106_1
            try clear hfz106_2
            try clear hfz115_0
            try clear hfz115_1
            try clear hfz115_2
            try clear hfz13_0
            try clear hfz13_1
            try clear hfz13_2
            try clear hfz15_0
            try clear hfz15_1
            try clear hfz15_2
            try clear hfz21_0
            try clear hfz21_1
            try clear hfz21_2
            try clear hfz23_0
            try clear hfz23_1
            try clear hfz23_2
            try clear hfz28_0
            try clear hfz28_1
            try clear hfz28_2
            try clear hfz35_0
            try clear hfz35_1
            try clear hfz35_2
            try clear hfz68_0
            try clear hfz68_1
            try clear hfz68_2
            try clear p2
            obtain ⟨kq, x87_95, rfl, HA, HJ95, HO_1225002, HO_1231002, HO_1238002, HO_1263002, BK1211, BK1224, BK1230, BK1237, BK1262, HB⟩ := hcut
            have hl1238002_95 := (Kd.R_reads' HO_1238002.out).1
            rw [hl1238002_95] at HO_1238002
            (try simp only [hl1238002_95])
            (try simp only [hl1238002_95] at BK1211)
            (try simp only [hl1238002_95] at BK1224)
            (try simp only [hl1238002_95] at BK1230)
            (try simp only [hl1238002_95] at BK1237)
            (try simp only [hl1238002_95] at BK1262)
            (try simp only [hl1238002_95] at HO_1225002)
            (try simp only [hl1238002_95] at HO_1231002)
            (try simp only [hl1238002_95] at HO_1263002)
            cases kq with
            | zero => exact absurd HA.out (by simp [laws_FnExactWithoutUnused.j2])
            | succ kj95 =>
             have H := HA.out
             clear HA
             simp only [laws_FnExactWithoutUnused.j2] at H
             by_cases c139 : x87_95 = true
             ·subst c139
              have H1 : (some false) = some r := by rw [if_pos rfl] at H; exact H
              clear H
              have H := H1
              clear H1
              exact absurd (H.trans (congrArg some HRT.out)) (by simp)
             ·replace c139 := Bool.eq_false_iff.mpr c139
              subst c139
              have H1 : ((laws_heldBoard.f kj95 t1231 t1232 t1249 1).bind fun t1264 => (if t1264 < 0 then (some false) else (if t1264 = t1248 then (some true) else (some false)))) = some r := by rw [if_neg (show ¬ (false = true) by decide)] at H; exact H
              clear H
              have H := H1
              clear H1
              replace H := Option.bind_eq_some_iff.mp H
              obtain ⟨t1264, A1400, H⟩ := H
              replace H : (if t1264 < 0 then (some false) else (if t1264 = t1248 then (some true) else (some false))) = some r := H
              have A140 := Aside0.mk A1400
              clear A1400
              by_cases c141 : t1264 < 0
              ·rw [if_pos c141] at H
               have c141b0 : decide (t1264 < 0) = true := decide_eq_true c141
               clear c141
               exact absurd (H.trans (congrArg some HRT.out)) (by simp)
              ·rw [if_neg c141] at H
               have c141b0 : decide (t1264 < 0) = false := decide_eq_false c141
               clear c141
               by_cases c142 : t1264 = t1248
               ·rw [if_pos c142] at H
                have c142b0 : (t1264 == t1248) = true := beq_iff_eq.mpr c142
                have c142b1 : (t1264 != t1248) = false := bne_eq_false_iff_eq.mpr c142
                clear c142
                obtain rfl := Option.some.inj H
                have hnb143 := NB1237_1211.out
                have hnc143 := NB1211_1237.out
                have hnb144 := NB1237_1224.out
                have hnc144 := NB1224_1237.out
                have hnb145 := NB1237_1230.out
                have hnc145 := NB1230_1237.out
                have hnb146 := NB1237_1262.out
                have hnc146 := NB1262_1237.out
                obtain ⟨hcz147_0, hcz147_1, hcz147_2, hfz147_0, hfz147_1, hfz147_2⟩ := bt3 BK1237
                go_wp2_with (first | ((with_reducible refine gate_callee (f := 44) rfl ?_); refine goesL_ (some 90) rfl rfl Try.func44 (by kernel_rfl) rfl #[.agg #[.int .i64 t1231, .int .i64 t1232, .slice Ao36 t1249.length co36], .int .i64 1] rfl (by (try simp only [ma_, mb_, mc_]); first | done | rfl | (simp only [List.length_drop, List.length_take]; rfl)) ?_; (with_reducible refine (laws_heldBoard.calls kj95 t1231 t1232 _ _ t1249 1 t1264 _ (Kd.C_mv (Kd.R_reads' HO_1238002.out).2.2) ((Kd.R_reads' HO_1238002.out).2.1) A140.out).mono ?_); rintro e w148 ⟨rfl, hb⟩; refine ⟨_, rfl, ?_⟩; refine ev10 (Kd.R_below (Kd.R_mv HO_1225002.out) hb) (Kd.R_below (Kd.R_mv HO_1231002.out) hb) (Kd.R_below (Kd.R_mv HO_1238002.out) hb) (Kd.R_below (Kd.R_mv HO_1263002.out) hb) (kb BK1211 hb) (kb BK1224 hb) (kb BK1230 hb) (kb BK1237 hb) (kb BK1262 hb) (bs HB hb) ?_; clear HO_1225002 HO_1231002 HO_1238002 HO_1263002 BK1211 BK1224 BK1230 BK1237 BK1262 HB; intro HO_1225002 HO_1231002 HO_1238002 HO_1263002 BK1211 BK1224 BK1230 BK1237 BK1262 HB; (try clear hb); (try clear hb2); (try clear hk); (try clear hi)))
                go_ret
                exact ⟨by first | rfl | (simp [e0_, e1_] <;> rfl) | (simp [*, e0_, e1_] <;> rfl), bm HB⟩
               ·rw [if_neg c142] at H
                have c142b0 : (t1264 == t1248) = false := beq_eq_false_iff_ne.mpr c142
                have c142b1 : (t1264 != t1248) = true := bne_iff_ne.mpr c142
                exact absurd (H.trans (congrArg some HRT.out)) (by simp)
          ·rw [if_neg c93] at H
           have c93b0 : (t1250 == t1248) = false := beq_eq_false_iff_ne.mpr c93
           have c93b1 : (t1250 != t1248) = true := bne_iff_ne.mpr c93
           exact absurd (H.trans (congrArg some HRT.out)) (by simp)
     ·replace c58 := Bool.eq_false_iff.mpr c58
      subst c58
      have H1 : (some false) = some r := by rw [if_neg (show ¬ (false = true) by decide)] at H; exact H
      clear H
      have H := H1
      clear H1
      exact absurd (H.trans (congrArg some HRT.out)) (by simp)
end Go.Proofs.Ytjogiiobaakjkaa.F
