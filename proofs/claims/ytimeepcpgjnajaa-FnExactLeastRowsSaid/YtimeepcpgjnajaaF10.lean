-- Printed by a program; checked here.
import Derived.Test.YtimeepcpgjnajaaF0
import Derived.Test.YtimeepcpgjnajaaF2
import Derived.Test.YtimeepcpgjnajaaF4
import Derived.Test.YtimeepcpgjnajaaF5
import Derived.Test.YtimeepcpgjnajaaF7
import Derived.Test.YtimeepcpgjnajaaF8
namespace Go.Proofs.Ytimeepcpgjnajaa.F
open Go.RowKit Go.Proofs.YtimeepcpgjnajaaV.PrintWords Go.Proofs.YtimeepcpgjnajaaV.PrintLast Go.Proofs.YtimeepcpgjnajaaV.PrintMore Go.Proofs.YtimeepcpgjnajaaV.Sl Go.Proofs.YtimeepcpgjnajaaV.Rf
attribute [local go_sem] max2_int min2_int max_two min_two max_three min_three max_four min_four ia_opt
attribute [local go_sem] Try.underlying25 Try.underlying27 Try.underlying62 Try.underlying66 Try.underlying80 Try.underlying137
set_option maxHeartbeats 8000000
set_option maxRecDepth 100000
set_option linter.unusedVariables false
set_option linter.unusedSimpArgs false

/-! ### spec_syCan: function 128 -/
def spec_syCan.l0 : Nat → Int → Int → Int → List (S27) → List Int → List Int → Option (Bool)
 | 0, _, _, _, _, _, _ => none
 | k + 1, x3, x305000, x305001, x305002, x305003, x305004 => (spec_syTried.f k x305000 x305001 x305002 x305003 x305004).bind fun t305 => (if x3 < t305 then ((spec_syBoard.f k x305000 x305001 x305002 x305003 x305004 x3).bind fun bt306 => ((spec_syMeets.f k x305000 x305001 x305002 x305003 x305004 bt306.1 bt306.2.1 bt306.2.2).bind fun t311 => (if t311 = true then (some true) else (spec_syCan.l0 k (wrap64 (x3 + 1)) x305000 x305001 x305002 x305003 x305004)))) else (some false))
def spec_syCan.f (k : Nat) (a0_0 : Int) (a0_1 : Int) (l0_2 : List (S27)) (l0_3 : List Int) (l0_4 : List Int) : Option (Bool) := spec_syCan.l0 k 0 a0_0 a0_1 l0_2 l0_3 l0_4
theorem spec_syCan.calls (k : Nat) (a0_0 : Int) (a0_1 : Int) (A0_2 : Option Addr) (c0_2 : Nat) (l0_2 : List (S27)) (A0_3 : Option Addr) (c0_3 : Nat) (l0_3 : List Int) (A0_4 : Option Addr) (c0_4 : Nat) (l0_4 : List Int) (r : Bool) (w : World) (hr0_2 : Kd.C k27 w A0_2 l0_2.length l0_2) (hc0_2 : l0_2.length ≤ c0_2) (hr0_3 : Kd.C (Kd.int .i64) w A0_3 l0_3.length l0_3) (hc0_3 : l0_3.length ≤ c0_3) (hr0_4 : Kd.C (Kd.int .i64) w A0_4 l0_4.length l0_4) (hc0_4 : l0_4.length ≤ c0_4) (h : spec_syCan.f k a0_0 a0_1 l0_2 l0_3 l0_4 = some r) :
  Calls Try.prog 128 #[.agg #[.int .i64 a0_0, .int .i64 a0_1, .slice A0_2 l0_2.length c0_2, .slice A0_3 l0_3.length c0_3, .slice A0_4 l0_4.length c0_4]] w fun e w' => e = .returned (.bool r) ∧ Below w.heap.size w w' := by
 have HR0_2 := Aside0.mk hr0_2;have HC0_2 := Aside0.mk hc0_2;clear hr0_2 hc0_2;have HR0_3 := Aside0.mk hr0_3;have HC0_3 := Aside0.mk hc0_3;clear hr0_3 hc0_3;have HR0_4 := Aside0.mk hr0_4;have HC0_4 := Aside0.mk hc0_4;clear hr0_4 hc0_4;have HB := Aside0.mk (Below.refl w.heap.size w);have H : (spec_syCan.l0 k 0 a0_0 a0_1 l0_2 l0_3 l0_4) = some r := h;clear h;have H' := Aside0.mk H;clear H;go_enter Try.func128, Try.ntmps128;go_wp2_with (first | ((with_reducible refine gate_dst (N := 1) rfl ?_); refine box_event ?hg (N := 1) ?hd (cs := #[.int .i64 a0_0, .int .i64 a0_1, .slice A0_2 l0_2.length c0_2, .slice A0_3 l0_3.length c0_3, .slice A0_4 l0_4.length c0_4]) (t := 66) ?hr ?_; (case hd => rfl); (case hg => rfl); (case hr => first | (go_simp; done) | (go_simp; rfl)); intro gb304 hg w2 hbox hb; refine ev4 (bs HB hb) (hbox) (gle hg HB) (gle hg HB) ?_; clear HB; intro HB BK304 GW304 GE304; clear hb hbox hg))
 go_loopg [3] k (fun kq v3 w' => ∃ (x3_1 : Int), v3 = .int .i64 x3_1 ∧ Aside0 (spec_syCan.l0 kq x3_1 a0_0 a0_1 l0_2 l0_3 l0_4 = some r) ∧ Aside0 (kq ≤ k) ∧ Aside0 (w'.heap[gb304]? = some (.cells #[.int .i64 a0_0, .int .i64 a0_1, (.slice A0_2 l0_2.length c0_2), (.slice A0_3 l0_3.length c0_3), (.slice A0_4 l0_4.length c0_4)] 66 (0, 0))) ∧ Aside0 (Below w.heap.size w w'))
 case atStart => exact ⟨(0), (by first | rfl | (simp; done) | (simp [*]; done)), H', ⟨Nat.le_refl _⟩, ⟨km_ BK304⟩, ⟨bm HB⟩⟩
 case round =>
  clear H';(try clear c1);(try clear p2);obtain ⟨x3_1, rfl, HA, HK1, BK304, HB⟩ := hrel;cases gk with
  | zero => exact absurd HA.out (by simp [spec_syCan.l0])
  | succ k1 =>
   have H := HA.out;clear HA;simp only [spec_syCan.l0] at H;replace H := Option.bind_eq_some_iff.mp H;obtain ⟨t305, A30, H⟩ := H;(try dsimp only at H)
   have A3 := Aside0.mk A30;clear A30;by_cases c4 : x3_1 < t305
   ·rw [if_pos c4] at H;have c4b0 : decide (x3_1 < t305) = true := decide_eq_true c4;clear c4;replace H := Option.bind_eq_some_iff.mp H;obtain ⟨⟨t306, t307, t308⟩, A50, H⟩ := H;(try dsimp only at H)
    have A5 := Aside0.mk A50;clear A50;replace H := Option.bind_eq_some_iff.mp H;obtain ⟨t311, A60, H⟩ := H;(try dsimp only at H)
    have A6 := Aside0.mk A60;clear A60;by_cases c7 : t311 = true
    ·subst c7;have H1 : (some true) = some r := by rw [if_pos rfl] at H; exact H
     clear H;have H := H1;clear H1;obtain rfl := Option.some.inj H;obtain ⟨hcz8_0, hcz8_1, hcz8_2, hcz8_3, hcz8_4, hfz8_0, hfz8_1, hfz8_2, hfz8_3, hfz8_4⟩ := bt5 BK304;try go_wp2_with (first | ((with_reducible refine gate_callee (f := 154) rfl ?_); refine goesL_ (some 6) rfl rfl Try.func154 (by kernel_rfl) rfl #[.agg #[.int .i64 a0_0, .int .i64 a0_1, .slice A0_2 l0_2.length c0_2, .slice A0_3 l0_3.length c0_3, .slice A0_4 l0_4.length c0_4]] rfl (by (try simp only [ma_, mb_, mc_]); first | done | rfl | (simp only [List.length_drop, List.length_take]; rfl)) ?_; (with_reducible refine (spec_syTried.calls k1 a0_0 a0_1 _ _ l0_2 _ _ l0_3 _ _ l0_4 t305 _ (Kd.C_mv (Kd.C_below HR0_2.out HB.out)) HC0_2.out (Kd.C_mv (Kd.C_below HR0_3.out HB.out)) HC0_3.out (Kd.C_mv (Kd.C_below HR0_4.out HB.out)) HC0_4.out A3.out).mono ?_); rintro e w9 ⟨rfl, hb⟩; refine ⟨_, rfl, ?_⟩; refine ev2 (kb BK304 hb) (bs HB hb) ?_; clear BK304 HB; intro BK304 HB; (try clear hb); (try clear hb2); (try clear hk); (try clear hi)))
     refine ev2 (blk_drew BK304.out) (below_drew1 HB.out) ?_;clear BK304 HB;intro BK304 HB;refine start_ (n := 5) (S := fun w' => w'.cell? ⟨gb304, 0, none⟩ = some (.int .i64 a0_0) ∧ w'.cell? ⟨gb304, 1, none⟩ = some (.int .i64 a0_1) ∧ w'.cell? ⟨gb304, 2, none⟩ = some (.slice A0_2 l0_2.length c0_2) ∧ w'.cell? ⟨gb304, 3, none⟩ = some (.slice A0_3 l0_3.length c0_3) ∧ w'.cell? ⟨gb304, 4, none⟩ = some (.slice A0_4 l0_4.length c0_4)) (ds := []) #[Z,Z,Z,Z,Z] (by kernel_rfl) rfl rfl ⟨(blk_cell BK304.out 0).trans rfl, (blk_cell BK304.out 1).trans rfl, (blk_cell BK304.out 2).trans rfl, (blk_cell BK304.out 3).trans rfl, (blk_cell BK304.out 4).trans rfl⟩ (fun hHeld => ?_);generalize w9.drew = w10 at BK304 HB hHeld ⊢
     refine pure_ (i := 2) (N := some 12) (v := ?_) (a' := ?_) #[Z,Z,Y,Z,Z] rfl rfl (by kernel_rfl) (fun _ _ _ h => h) (Or.inl ⟨by rfl, ?_⟩) ?_ ?_;rotate_left
     ·intro w';go_simp;with_reducible rfl
     rotate_left
     ·simp only [Act.put, za_, zb_, zc_, i64_w, i32_w];rfl
     refine take_ (i := 0) (N := some 10) (v := ?_) (a' := ?_) #[Y,Z,Y,Z,Z] rfl rfl (by kernel_rfl) (fun _ _ _ h => h) (Or.inl ⟨by rfl, ?_⟩) hHeld ?_ ?_;rotate_left
     ·rintro w' ⟨s0, s1, s2, s3, s4⟩;go_simp;with_reducible rfl
     rotate_left
     ·simp only [Act.put, za_, zb_, zc_, i64_w, i32_w];rfl
     refine take_ (i := 1) (N := some 11) (v := ?_) (a' := ?_) #[Y,Y,Y,Z,Z] rfl rfl (by kernel_rfl) (fun _ _ _ h => h) (Or.inl ⟨by rfl, ?_⟩) hHeld ?_ ?_;rotate_left
     ·rintro w' ⟨s0, s1, s2, s3, s4⟩;go_simp;with_reducible rfl
     rotate_left
     ·simp only [Act.put, za_, zb_, zc_, i64_w, i32_w];rfl
     refine one_ (i := 3) (N := some 13) #[Y,Y,Y,Y,Z] rfl rfl (by kernel_rfl) (by decide) (fun K hK => ?_);refine goes_ Try.func155 (by kernel_rfl) rfl #[.agg #[.int .i64 a0_0, .int .i64 a0_1, .slice A0_2 l0_2.length c0_2, .slice A0_3 l0_3.length c0_3, .slice A0_4 l0_4.length c0_4], .int .i64 x3_1] (by rfl) rfl rfl (by (try simp only [ma_, mb_, mc_]); first | done | rfl | (simp only [List.length_drop, List.length_take]; rfl)) ?_;with_reducible refine (spec_syBoard.calls k1 a0_0 a0_1 _ _ l0_2 _ _ l0_3 _ _ l0_4 x3_1 t306 t307 t308 _ ?side1 ?side2 ?side3 ?side4 ?side5 ?side6 A5.out).mono ?_
     (case side1 => exact Kd.C_mv (Kd.C_below HR0_2.out HB.out))
     (case side2 => exact HC0_2.out)
     (case side3 => exact Kd.C_mv (Kd.C_below HR0_3.out HB.out))
     (case side4 => exact HC0_3.out)
     (case side5 => exact Kd.C_mv (Kd.C_below HR0_4.out HB.out))
     (case side6 => exact HC0_4.out)
     rintro e w11 ⟨v309, rfl, ho0, hb⟩;refine ⟨_, rfl, ?_⟩;refine ev3 (Kd.R_lower ho0 (below_size (bm HB))) (kb BK304 hb) (bs HB hb) ?_;clear BK304 HB;intro HO310 BK304 HB;(try clear hb);(try clear hb2);(try clear hk);(try clear hi);(try clear ho0);obtain ⟨Ao12, co12, eo12⟩ := Kd.R_slice HO310.out;(first | subst eo12 | (injection eo12 with f1_ f2_ f3_; have f4_ := f1_.symm; have f5_ := f3_.symm; clear f1_ f2_ f3_; subst f4_; subst f5_))
     refine hK.out _ _ ⟨(blk_cell BK304.out 0).trans rfl, (blk_cell BK304.out 1).trans rfl, (blk_cell BK304.out 2).trans rfl, (blk_cell BK304.out 3).trans rfl, (blk_cell BK304.out 4).trans rfl⟩ (fun hHeld => ?_);clear hK K;refine norm_ (a' := ?_) ?_ ?_;rotate_left
     ·show Act.put _ (some 13) _ = _
      simp only [Act.put, za_, zb_, zc_, i64_w, i32_w];rfl
     refine one_ (i := 4) (N := some 14) #[Y,Y,Y,Y,Y] rfl rfl (by kernel_rfl) (by decide) (fun K hK => ?_);refine goes_ Try.func133 (by kernel_rfl) rfl #[.agg #[.int .i64 a0_0, .int .i64 a0_1, .slice A0_2 l0_2.length c0_2, .slice A0_3 l0_3.length c0_3, .slice A0_4 l0_4.length c0_4], .agg #[.int .i64 t306, .int .i64 t307, .slice Ao12 t308.length co12]] (by rfl) rfl rfl (by (try simp only [ma_, mb_, mc_]); first | done | rfl | (simp only [List.length_drop, List.length_take]; rfl)) ?_;with_reducible refine (spec_syMeets.calls k1 a0_0 a0_1 _ _ l0_2 _ _ l0_3 _ _ l0_4 t306 t307 (fun k_ => some k_ = (.slice Ao12 t308.length co12 : Value).ownBlock) _ _ t308 true _ ?side1 ?side2 ?side3 ?side4 ?side5 ?side6 ?side7 A6.out).mono ?_
     (case side1 => exact Kd.C_mv (Kd.C_below HR0_2.out HB.out))
     (case side2 => exact HC0_2.out)
     (case side3 => exact Kd.C_mv (Kd.C_below HR0_3.out HB.out))
     (case side4 => exact HC0_3.out)
     (case side5 => exact Kd.C_mv (Kd.C_below HR0_4.out HB.out))
     (case side6 => exact HC0_4.out)
     (case side7 => exact Kd.R_V (Kd.R_tight rfl (Kd.R_types (HO310.out) BK304.out (by decide))))
     rintro e w13 ⟨rfl, hb⟩;refine ⟨_, rfl, ?_⟩;refine ev3 (Kd.R_below (Kd.R_mv HO310.out) hb) (kb BK304 hb) (bs HB hb) ?_;clear HO310 BK304 HB;intro HO310 BK304 HB;(try clear hb);(try clear hb2);(try clear hk);(try clear hi);refine hK.out _ _ ⟨(blk_cell BK304.out 0).trans rfl, (blk_cell BK304.out 1).trans rfl, (blk_cell BK304.out 2).trans rfl, (blk_cell BK304.out 3).trans rfl, (blk_cell BK304.out 4).trans rfl⟩ (fun hHeld => ?_);clear hK K;refine norm_ (a' := ?_) ?_ ?_;rotate_left
     ·show Act.put _ (some 14) _ = _
      simp only [Act.put, za_, zb_, zc_, i64_w, i32_w];rfl
     refine done_ (by kernel_rfl) ?_;try go_wp2
     go_ret;exact ⟨by first | rfl | (simp [e0_, e1_] <;> rfl) | (simp [*, e0_, e1_] <;> rfl), bm HB⟩
    ·replace c7 := Bool.eq_false_iff.mpr c7;subst c7;have H1 : (spec_syCan.l0 k1 (wrap64 (x3_1 + 1)) a0_0 a0_1 l0_2 l0_3 l0_4) = some r := by rw [if_neg (show ¬ (false = true) by decide)] at H; exact H
     clear H;have H := H1;clear H1;have H' := Aside0.mk H;clear H;obtain ⟨hcz14_0, hcz14_1, hcz14_2, hcz14_3, hcz14_4, hfz14_0, hfz14_1, hfz14_2, hfz14_3, hfz14_4⟩ := bt5 BK304;try go_wp2_with (first | ((with_reducible refine gate_callee (f := 154) rfl ?_); refine goesL_ (some 6) rfl rfl Try.func154 (by kernel_rfl) rfl #[.agg #[.int .i64 a0_0, .int .i64 a0_1, .slice A0_2 l0_2.length c0_2, .slice A0_3 l0_3.length c0_3, .slice A0_4 l0_4.length c0_4]] rfl (by (try simp only [ma_, mb_, mc_]); first | done | rfl | (simp only [List.length_drop, List.length_take]; rfl)) ?_; (with_reducible refine (spec_syTried.calls k1 a0_0 a0_1 _ _ l0_2 _ _ l0_3 _ _ l0_4 t305 _ (Kd.C_mv (Kd.C_below HR0_2.out HB.out)) HC0_2.out (Kd.C_mv (Kd.C_below HR0_3.out HB.out)) HC0_3.out (Kd.C_mv (Kd.C_below HR0_4.out HB.out)) HC0_4.out A3.out).mono ?_); rintro e w15 ⟨rfl, hb⟩; refine ⟨_, rfl, ?_⟩; refine ev2 (kb BK304 hb) (bs HB hb) ?_; clear BK304 HB; intro BK304 HB; (try clear hb); (try clear hb2); (try clear hk); (try clear hi)))
     refine ev2 (blk_drew BK304.out) (below_drew1 HB.out) ?_;clear BK304 HB;intro BK304 HB;refine start_ (n := 5) (S := fun w' => w'.cell? ⟨gb304, 0, none⟩ = some (.int .i64 a0_0) ∧ w'.cell? ⟨gb304, 1, none⟩ = some (.int .i64 a0_1) ∧ w'.cell? ⟨gb304, 2, none⟩ = some (.slice A0_2 l0_2.length c0_2) ∧ w'.cell? ⟨gb304, 3, none⟩ = some (.slice A0_3 l0_3.length c0_3) ∧ w'.cell? ⟨gb304, 4, none⟩ = some (.slice A0_4 l0_4.length c0_4)) (ds := []) #[Z,Z,Z,Z,Z] (by kernel_rfl) rfl rfl ⟨(blk_cell BK304.out 0).trans rfl, (blk_cell BK304.out 1).trans rfl, (blk_cell BK304.out 2).trans rfl, (blk_cell BK304.out 3).trans rfl, (blk_cell BK304.out 4).trans rfl⟩ (fun hHeld => ?_);generalize w15.drew = w16 at BK304 HB hHeld ⊢
     refine pure_ (i := 2) (N := some 12) (v := ?_) (a' := ?_) #[Z,Z,Y,Z,Z] rfl rfl (by kernel_rfl) (fun _ _ _ h => h) (Or.inl ⟨by rfl, ?_⟩) ?_ ?_;rotate_left
     ·intro w';go_simp;with_reducible rfl
     rotate_left
     ·simp only [Act.put, za_, zb_, zc_, i64_w, i32_w];rfl
     refine take_ (i := 0) (N := some 10) (v := ?_) (a' := ?_) #[Y,Z,Y,Z,Z] rfl rfl (by kernel_rfl) (fun _ _ _ h => h) (Or.inl ⟨by rfl, ?_⟩) hHeld ?_ ?_;rotate_left
     ·rintro w' ⟨s0, s1, s2, s3, s4⟩;go_simp;with_reducible rfl
     rotate_left
     ·simp only [Act.put, za_, zb_, zc_, i64_w, i32_w];rfl
     refine take_ (i := 1) (N := some 11) (v := ?_) (a' := ?_) #[Y,Y,Y,Z,Z] rfl rfl (by kernel_rfl) (fun _ _ _ h => h) (Or.inl ⟨by rfl, ?_⟩) hHeld ?_ ?_;rotate_left
     ·rintro w' ⟨s0, s1, s2, s3, s4⟩;go_simp;with_reducible rfl
     rotate_left
     ·simp only [Act.put, za_, zb_, zc_, i64_w, i32_w];rfl
     refine one_ (i := 3) (N := some 13) #[Y,Y,Y,Y,Z] rfl rfl (by kernel_rfl) (by decide) (fun K hK => ?_);refine goes_ Try.func155 (by kernel_rfl) rfl #[.agg #[.int .i64 a0_0, .int .i64 a0_1, .slice A0_2 l0_2.length c0_2, .slice A0_3 l0_3.length c0_3, .slice A0_4 l0_4.length c0_4], .int .i64 x3_1] (by rfl) rfl rfl (by (try simp only [ma_, mb_, mc_]); first | done | rfl | (simp only [List.length_drop, List.length_take]; rfl)) ?_;with_reducible refine (spec_syBoard.calls k1 a0_0 a0_1 _ _ l0_2 _ _ l0_3 _ _ l0_4 x3_1 t306 t307 t308 _ ?side1 ?side2 ?side3 ?side4 ?side5 ?side6 A5.out).mono ?_
     (case side1 => exact Kd.C_mv (Kd.C_below HR0_2.out HB.out))
     (case side2 => exact HC0_2.out)
     (case side3 => exact Kd.C_mv (Kd.C_below HR0_3.out HB.out))
     (case side4 => exact HC0_3.out)
     (case side5 => exact Kd.C_mv (Kd.C_below HR0_4.out HB.out))
     (case side6 => exact HC0_4.out)
     rintro e w17 ⟨v309, rfl, ho0, hb⟩;refine ⟨_, rfl, ?_⟩;refine ev3 (Kd.R_lower ho0 (below_size (bm HB))) (kb BK304 hb) (bs HB hb) ?_;clear BK304 HB;intro HO310 BK304 HB;(try clear hb);(try clear hb2);(try clear hk);(try clear hi);(try clear ho0);obtain ⟨Ao18, co18, eo18⟩ := Kd.R_slice HO310.out;(first | subst eo18 | (injection eo18 with f1_ f2_ f3_; have f4_ := f1_.symm; have f5_ := f3_.symm; clear f1_ f2_ f3_; subst f4_; subst f5_))
     refine hK.out _ _ ⟨(blk_cell BK304.out 0).trans rfl, (blk_cell BK304.out 1).trans rfl, (blk_cell BK304.out 2).trans rfl, (blk_cell BK304.out 3).trans rfl, (blk_cell BK304.out 4).trans rfl⟩ (fun hHeld => ?_);clear hK K;refine norm_ (a' := ?_) ?_ ?_;rotate_left
     ·show Act.put _ (some 13) _ = _
      simp only [Act.put, za_, zb_, zc_, i64_w, i32_w];rfl
     refine one_ (i := 4) (N := some 14) #[Y,Y,Y,Y,Y] rfl rfl (by kernel_rfl) (by decide) (fun K hK => ?_);refine goes_ Try.func133 (by kernel_rfl) rfl #[.agg #[.int .i64 a0_0, .int .i64 a0_1, .slice A0_2 l0_2.length c0_2, .slice A0_3 l0_3.length c0_3, .slice A0_4 l0_4.length c0_4], .agg #[.int .i64 t306, .int .i64 t307, .slice Ao18 t308.length co18]] (by rfl) rfl rfl (by (try simp only [ma_, mb_, mc_]); first | done | rfl | (simp only [List.length_drop, List.length_take]; rfl)) ?_;with_reducible refine (spec_syMeets.calls k1 a0_0 a0_1 _ _ l0_2 _ _ l0_3 _ _ l0_4 t306 t307 (fun k_ => some k_ = (.slice Ao18 t308.length co18 : Value).ownBlock) _ _ t308 false _ ?side1 ?side2 ?side3 ?side4 ?side5 ?side6 ?side7 A6.out).mono ?_
     (case side1 => exact Kd.C_mv (Kd.C_below HR0_2.out HB.out))
     (case side2 => exact HC0_2.out)
     (case side3 => exact Kd.C_mv (Kd.C_below HR0_3.out HB.out))
     (case side4 => exact HC0_3.out)
     (case side5 => exact Kd.C_mv (Kd.C_below HR0_4.out HB.out))
     (case side6 => exact HC0_4.out)
     (case side7 => exact Kd.R_V (Kd.R_tight rfl (Kd.R_types (HO310.out) BK304.out (by decide))))
     rintro e w19 ⟨rfl, hb⟩;refine ⟨_, rfl, ?_⟩;refine ev3 (Kd.R_below (Kd.R_mv HO310.out) hb) (kb BK304 hb) (bs HB hb) ?_;clear HO310 BK304 HB;intro HO310 BK304 HB;(try clear hb);(try clear hb2);(try clear hk);(try clear hi);refine hK.out _ _ ⟨(blk_cell BK304.out 0).trans rfl, (blk_cell BK304.out 1).trans rfl, (blk_cell BK304.out 2).trans rfl, (blk_cell BK304.out 3).trans rfl, (blk_cell BK304.out 4).trans rfl⟩ (fun hHeld => ?_);clear hK K;refine norm_ (a' := ?_) ?_ ?_;rotate_left
     ·show Act.put _ (some 14) _ = _
      simp only [Act.put, za_, zb_, zc_, i64_w, i32_w];rfl
     refine done_ (by kernel_rfl) ?_;try go_wp2
     go_roundg k1
     case measure => have := HK1.out; omega
     case rel => exact ⟨(wrap64 (x3_1 + 1)), (by first | rfl | (simp; done) | (simp [*]; done)), H', ⟨by have := HK1.out; omega⟩, ⟨km_ BK304⟩, ⟨bm HB⟩⟩
   ·rw [if_neg c4] at H;have c4b0 : decide (x3_1 < t305) = false := decide_eq_false c4;clear c4;obtain rfl := Option.some.inj H;obtain ⟨hcz20_0, hcz20_1, hcz20_2, hcz20_3, hcz20_4, hfz20_0, hfz20_1, hfz20_2, hfz20_3, hfz20_4⟩ := bt5 BK304;go_wp2_with (first | ((with_reducible refine gate_callee (f := 154) rfl ?_); refine goesL_ (some 6) rfl rfl Try.func154 (by kernel_rfl) rfl #[.agg #[.int .i64 a0_0, .int .i64 a0_1, .slice A0_2 l0_2.length c0_2, .slice A0_3 l0_3.length c0_3, .slice A0_4 l0_4.length c0_4]] rfl (by (try simp only [ma_, mb_, mc_]); first | done | rfl | (simp only [List.length_drop, List.length_take]; rfl)) ?_; (with_reducible refine (spec_syTried.calls k1 a0_0 a0_1 _ _ l0_2 _ _ l0_3 _ _ l0_4 t305 _ (Kd.C_mv (Kd.C_below HR0_2.out HB.out)) HC0_2.out (Kd.C_mv (Kd.C_below HR0_3.out HB.out)) HC0_3.out (Kd.C_mv (Kd.C_below HR0_4.out HB.out)) HC0_4.out A3.out).mono ?_); rintro e w21 ⟨rfl, hb⟩; refine ⟨_, rfl, ?_⟩; refine ev2 (kb BK304 hb) (bs HB hb) ?_; clear BK304 HB; intro BK304 HB; (try clear hb); (try clear hb2); (try clear hk); (try clear hi)))
    go_ret;exact ⟨by first | rfl | (simp [e0_, e1_] <;> rfl) | (simp [*, e0_, e1_] <;> rfl), bm HB⟩

/-! ### spec_LeastRows: function 63 -/
def spec_LeastRows.l0 : Nat → Int → Int → Int → Int → List (S27) → List Int → List Int → Option (Int × Bool)
  | 0, _, _, _, _, _, _, _ => none
  | k + 1, x4, x5, x313000, x313001, x313002, x313003, x313004 => if x5 ≤ x4 then ((spec_syCan.f k x5 x313001 x313002 x313003 x313004).bind fun t314 => (if t314 = true then (some (x5, true)) else (spec_LeastRows.l0 k x4 (wrap64 (x5 + 1)) x5 x313001 x313002 x313003 x313004))) else (some (0, false))
def spec_LeastRows.f (k : Nat) (a0_0 : Int) (a0_1 : Int) (l0_2 : List (S27)) (l0_3 : List Int) (l0_4 : List Int) : Option (Int × Bool) := (spec_syGood.f k a0_0 a0_1 l0_2 l0_3 l0_4).bind fun t313 => (if t313 = true then (spec_LeastRows.l0 k a0_0 1 a0_0 a0_1 l0_2 l0_3 l0_4) else (some (0, false)))
theorem spec_LeastRows.calls (k : Nat) (a0_0 : Int) (a0_1 : Int) (A0_2 : Option Addr) (c0_2 : Nat) (l0_2 : List (S27)) (A0_3 : Option Addr) (c0_3 : Nat) (l0_3 : List Int) (A0_4 : Option Addr) (c0_4 : Nat) (l0_4 : List Int) (r1 : Int) (r2 : Bool) (w : World) (hr0_2 : Kd.C k27 w A0_2 l0_2.length l0_2) (hc0_2 : l0_2.length ≤ c0_2) (hr0_3 : Kd.C (Kd.int .i64) w A0_3 l0_3.length l0_3) (hc0_3 : l0_3.length ≤ c0_3) (hr0_4 : Kd.C (Kd.int .i64) w A0_4 l0_4.length l0_4) (hc0_4 : l0_4.length ≤ c0_4) (h : spec_LeastRows.f k a0_0 a0_1 l0_2 l0_3 l0_4 = some (r1, r2)) :
    Calls Try.prog 63 #[.agg #[.int .i64 a0_0, .int .i64 a0_1, .slice A0_2 l0_2.length c0_2, .slice A0_3 l0_3.length c0_3, .slice A0_4 l0_4.length c0_4]] w fun e w' => e = .returned (.tuple #[.int .i64 r1, .bool r2]) ∧ Below w.heap.size w w' := by
 have S := St.init (w := w) (dc k27_heap at27 hr0_2 hc0_2 (dc (Kd.heap_int .i64) (atI .i64) hr0_3 hc0_3 (dc (Kd.heap_int .i64) (atI .i64) hr0_4 hc0_4 dn)))
 clear hr0_2 hc0_2 hr0_3 hc0_3 hr0_4 hc0_4
 have F := S.fc
 have H := h; clear h; unfold spec_LeastRows.f at H
 replace H := Option.bind_eq_some_iff.mp H; obtain ⟨t313, A2, H⟩ := H; (try dsimp only at H)
 replace H := sp_ H; rcases H with ⟨c3, H⟩ | ⟨c3, H⟩
 · skip
   subst c3
   go_enter Try.func63, Try.ntmps63
   go_wp2_with (first | ((with_reducible refine gd 1 rfl (L ?_)); refine bo 1 (.agg #[_, _, _, _, _]) S ?_; clear S F; intro gb312 W S; have F := S.fc) | ((with_reducible refine gate_callee (f := 127) rfl (L ?_)); refine cl (some 7) Try.func127 (spec_syGood.calls _ _ _ _ _ _ _ _ _ _ _ _ _ _ S.c S.n S.c S.n S.c S.n A2) (hargs := by (simp only [ma_, mb_, mc_, F] <;> rfl)) (h := ?_); rintro e W ⟨rfl, hb⟩; refine ⟨_, rfl, ?_⟩; replace S := S.go hb; clear F hb; have F := S.fc) | ((with_reducible refine gs (t := 3) rfl (L ?_)); (first | refine sb (.int _ _) S sz3 ?_ | refine ro (.int _ _) S sz3 ?_ (ho := rfl) (hx := rfl) (hy := rfl)); (clear S F; intro W S; have F := S.fc)))
   go_loopg [5] k (fun kq v5 w' => ∃ (x5_1 : Int) (x313000_1 : Int), v5 = .int .i64 x5_1 ∧ spec_LeastRows.l0 kq a0_0 x5_1 x313000_1 a0_1 l0_2 l0_3 l0_4 = some (r1, r2) ∧ kq ≤ k ∧ St w w (fun _ => False) [bor at27 A0_2 c0_2 l0_2, bor (atI .i64) A0_3 c0_3 l0_3, bor (atI .i64) A0_4 c0_4 l0_4] w'  [box gb312 66 [.int .i64 x313000_1, .int .i64 a0_1, .slice A0_2 l0_2.length c0_2, .slice A0_3 l0_3.length c0_3, .slice A0_4 l0_4.length c0_4]])
   case atStart => exact ⟨1, a0_0, (by first | rfl | (simp; done) | (simp [*]; done) | (rw [w6_ (by omega) (by omega)])), H, Nat.le_refl _, S⟩
   case round =>
    clear H S F
    obtain ⟨x5_1, x313000_1, rfl, HA, HK1, S⟩ := hrel
    have F := S.fc
    cases gk with
    | zero => exact absurd HA (by simp [spec_LeastRows.l0])
    | succ k1 =>
     have H := HA; clear HA; simp only [spec_LeastRows.l0, F] at H
     replace H := sp_ H; rcases H with ⟨c8, H⟩ | ⟨c8, H⟩
     · skip
       replace H := Option.bind_eq_some_iff.mp H; obtain ⟨t314, A9, H⟩ := H; (try dsimp only at H)
       replace H := sp_ H; rcases H with ⟨c10, H⟩ | ⟨c10, H⟩
       · skip
         subst c10
         simp only [Option.some.injEq, Prod.mk.injEq] at H
         obtain ⟨rfl, rfl⟩ := H
         go_wp2_with (first | ((with_reducible refine gate_callee (f := 128) rfl (L ?_)); refine cl (some 19) Try.func128 (spec_syCan.calls _ _ _ _ _ _ _ _ _ _ _ _ _ _ S.c S.n S.c S.n S.c S.n A9) (hargs := by (simp only [ma_, mb_, mc_, F] <;> rfl)) (h := ?_); rintro e W ⟨rfl, hb⟩; refine ⟨_, rfl, ?_⟩; replace S := S.go hb; clear F hb; have F := S.fc) | ((with_reducible refine gs (t := 3) rfl (L ?_)); (first | refine sb (.int _ _) S sz3 ?_ | refine ro (.int _ _) S sz3 ?_ (ho := rfl) (hx := rfl) (hy := rfl)); (clear S F; intro W S; have F := S.fc)))
         go_ret2
         exact ⟨(by first | rfl | (simp [e0_, e1_] <;> rfl) | (simp [*, e0_, e1_] <;> rfl)), S.below⟩
       · skip
         replace c10 := cbf c10; subst c10
         go_wp2_with (first | ((with_reducible refine gate_callee (f := 128) rfl (L ?_)); refine cl (some 19) Try.func128 (spec_syCan.calls _ _ _ _ _ _ _ _ _ _ _ _ _ _ S.c S.n S.c S.n S.c S.n A9) (hargs := by (simp only [ma_, mb_, mc_, F] <;> rfl)) (h := ?_); rintro e W ⟨rfl, hb⟩; refine ⟨_, rfl, ?_⟩; replace S := S.go hb; clear F hb; have F := S.fc) | ((with_reducible refine gs (t := 3) rfl (L ?_)); (first | refine sb (.int _ _) S sz3 ?_ | refine ro (.int _ _) S sz3 ?_ (ho := rfl) (hx := rfl) (hy := rfl)); (clear S F; intro W S; have F := S.fc)))
         go_roundg k1
         case measure => omega
         case rel => exact ⟨(wrap64 (x5_1 + 1)), x5_1, (by first | rfl | (simp; done) | (simp [*]; done) | (rw [w6_ (by omega) (by omega)])), H, (by first | omega | exact Nat.le_refl _), S⟩
     · skip
       simp only [Option.some.injEq, Prod.mk.injEq] at H
       obtain ⟨rfl, rfl⟩ := H
       go_wp2_with (first | ((with_reducible refine gs (t := 3) rfl (L ?_)); (first | refine sb (.int _ _) S sz3 ?_ | refine ro (.int _ _) S sz3 ?_ (ho := rfl) (hx := rfl) (hy := rfl)); (clear S F; intro W S; have F := S.fc)))
       go_ret2
       exact ⟨(by first | rfl | (simp [e0_, e1_] <;> rfl) | (simp [*, e0_, e1_] <;> rfl)), S.below⟩
 · skip
   replace c3 := cbf c3; subst c3
   simp only [Option.some.injEq, Prod.mk.injEq] at H
   obtain ⟨rfl, rfl⟩ := H
   go_enter Try.func63, Try.ntmps63
   go_wp2_with (first | ((with_reducible refine gd 1 rfl (L ?_)); refine bo 1 (.agg #[_, _, _, _, _]) S ?_; clear S F; intro gb312 W S; have F := S.fc) | ((with_reducible refine gate_callee (f := 127) rfl (L ?_)); refine cl (some 7) Try.func127 (spec_syGood.calls _ _ _ _ _ _ _ _ _ _ _ _ _ _ S.c S.n S.c S.n S.c S.n A2) (hargs := by (simp only [ma_, mb_, mc_, F] <;> rfl)) (h := ?_); rintro e W ⟨rfl, hb⟩; refine ⟨_, rfl, ?_⟩; replace S := S.go hb; clear F hb; have F := S.fc) | ((with_reducible refine gs (t := 3) rfl (L ?_)); (first | refine sb (.int _ _) S sz3 ?_ | refine ro (.int _ _) S sz3 ?_ (ho := rfl) (hx := rfl) (hy := rfl)); (clear S F; intro W S; have F := S.fc)))
   go_ret2
   exact ⟨(by first | rfl | (simp [e0_, e1_] <;> rfl) | (simp [*, e0_, e1_] <;> rfl)), S.below⟩

/-! ### impl_LeastRows: function 64 -/
def impl_LeastRows.l0 : Nat → Int → Int → Int → List (S27) → List Int → List Int → Int → Int → List (S27) → List Int → List Int → Option (Int × Bool)
  | 0, _, _, _, _, _, _, _, _, _, _, _ => none
  | k + 1, x5, x453000, x453001, x453002, x453003, x453004, x455000, x455001, x455002, x455003, x455004 => if x5 ≤ x453000 then ((impl_countSolutions.f k x5 x455001 x455002 x455003 x455004).bind fun t455 => (if t455 > 0 then (some (x5, true)) else (impl_LeastRows.l0 k (wrap64 (x5 + 1)) x453000 x453001 x453002 x453003 x453004 x5 x455001 x455002 x455003 x455004))) else (some (0, false))
def impl_LeastRows.f (k : Nat) (a0_0 : Int) (a0_1 : Int) (l0_2 : List (S27)) (l0_3 : List Int) (l0_4 : List Int) : Option (Int × Bool) := (impl_IsChallenge.f k a0_0 a0_1 l0_2 l0_3 l0_4).bind fun t453 => (if t453 = true then (impl_LeastRows.l0 k 1 a0_0 a0_1 l0_2 l0_3 l0_4 a0_0 a0_1 l0_2 l0_3 l0_4) else (some (0, false)))
theorem impl_LeastRows.calls (k : Nat) (a0_0 : Int) (a0_1 : Int) (A0_2 : Option Addr) (c0_2 : Nat) (l0_2 : List (S27)) (A0_3 : Option Addr) (c0_3 : Nat) (l0_3 : List Int) (A0_4 : Option Addr) (c0_4 : Nat) (l0_4 : List Int) (r1 : Int) (r2 : Bool) (w : World) (hr0_2 : Kd.C k27 w A0_2 l0_2.length l0_2) (hc0_2 : l0_2.length ≤ c0_2) (hr0_3 : Kd.C (Kd.int .i64) w A0_3 l0_3.length l0_3) (hc0_3 : l0_3.length ≤ c0_3) (hr0_4 : Kd.C (Kd.int .i64) w A0_4 l0_4.length l0_4) (hc0_4 : l0_4.length ≤ c0_4) (h : impl_LeastRows.f k a0_0 a0_1 l0_2 l0_3 l0_4 = some (r1, r2)) :
    Calls Try.prog 64 #[.agg #[.int .i64 a0_0, .int .i64 a0_1, .slice A0_2 l0_2.length c0_2, .slice A0_3 l0_3.length c0_3, .slice A0_4 l0_4.length c0_4]] w fun e w' => e = .returned (.tuple #[.int .i64 r1, .bool r2]) ∧ Below w.heap.size w w' := by
 have S := St.init (w := w) (dc k27_heap at27 hr0_2 hc0_2 (dc (Kd.heap_int .i64) (atI .i64) hr0_3 hc0_3 (dc (Kd.heap_int .i64) (atI .i64) hr0_4 hc0_4 dn)))
 clear hr0_2 hc0_2 hr0_3 hc0_3 hr0_4 hc0_4
 have F := S.fc
 have H := h; clear h; unfold impl_LeastRows.f at H
 replace H := Option.bind_eq_some_iff.mp H; obtain ⟨t453, A2, H⟩ := H; (try dsimp only at H)
 replace H := sp_ H; rcases H with ⟨c3, H⟩ | ⟨c3, H⟩
 · skip
   subst c3
   go_enter Try.func64, Try.ntmps64
   go_wp2_with (first | ((with_reducible refine gd 1 rfl (L ?_)); refine bo 1 (.agg #[_, _, _, _, _]) S ?_; clear S F; intro gb452 W S; have F := S.fc) | ((with_reducible refine gate_callee (f := 129) rfl (L ?_)); refine cl (some 7) Try.func129 (impl_IsChallenge.calls _ _ _ _ _ _ _ _ _ _ _ _ _ _ S.c S.n S.c S.n S.c S.n A2) (hargs := by (simp only [ma_, mb_, mc_, F] <;> rfl)) (h := ?_); rintro e W ⟨rfl, hb⟩; refine ⟨_, rfl, ?_⟩; replace S := S.go hb; clear F hb; have F := S.fc) | ((with_reducible refine gd 4 rfl (L ?_)); refine al 4 S zi66 ?_; clear S F; intro gb454 W S; have F := S.fc) | ((with_reducible refine gs (t := 3) rfl (L ?_)); (first | refine sb (.int _ _) S sz3 ?_ | refine ro (.int _ _) S sz3 ?_ (ho := rfl) (hx := rfl) (hy := rfl)); (clear S F; intro W S; have F := S.fc)) | ((with_reducible refine gs (t := 66) rfl (L ?_)); (first | refine sb (.agg #[_, _, _, _, _]) S sz66 ?_ | refine ro (.agg #[_, _, _, _, _]) S sz66 ?_ (ho := rfl) (hx := rfl) (hy := rfl)); (clear S F; intro W S; have F := S.fc)))
   go_loopg [5] k (fun kq v5 w' => ∃ (x5_1 : Int) (x455000_1 : Int), v5 = .int .i64 x5_1 ∧ impl_LeastRows.l0 kq x5_1 a0_0 a0_1 l0_2 l0_3 l0_4 x455000_1 a0_1 l0_2 l0_3 l0_4 = some (r1, r2) ∧ kq ≤ k ∧ St w w (fun _ => False) [bor at27 A0_2 c0_2 l0_2, bor (atI .i64) A0_3 c0_3 l0_3, bor (atI .i64) A0_4 c0_4 l0_4] w'  [box gb454 66 [.int .i64 x455000_1, .int .i64 a0_1, .slice A0_2 l0_2.length c0_2, .slice A0_3 l0_3.length c0_3, .slice A0_4 l0_4.length c0_4], box gb452 66 [.int .i64 a0_0, .int .i64 a0_1, .slice A0_2 l0_2.length c0_2, .slice A0_3 l0_3.length c0_3, .slice A0_4 l0_4.length c0_4]])
   case atStart => exact ⟨1, a0_0, (by first | rfl | (simp; done) | (simp [*]; done) | (rw [w6_ (by omega) (by omega)])), H, Nat.le_refl _, S⟩
   case round =>
    clear H S F
    obtain ⟨x5_1, x455000_1, rfl, HA, HK1, S⟩ := hrel
    have F := S.fc
    cases gk with
    | zero => exact absurd HA (by simp [impl_LeastRows.l0])
    | succ k1 =>
     have H := HA; clear HA; simp only [impl_LeastRows.l0, F] at H
     replace H := sp_ H; rcases H with ⟨c11, H⟩ | ⟨c11, H⟩
     · skip
       replace H := Option.bind_eq_some_iff.mp H; obtain ⟨t455, A12, H⟩ := H; (try dsimp only at H)
       replace H := sp_ H; rcases H with ⟨c13, H⟩ | ⟨c13, H⟩
       · skip
         simp only [Option.some.injEq, Prod.mk.injEq] at H
         obtain ⟨rfl, rfl⟩ := H
         go_wp2_with (first | ((with_reducible refine gate_callee (f := 119) rfl (L ?_)); refine cl (some 19) Try.func119 (impl_countSolutions.calls _ _ _ _ _ _ _ _ _ _ _ _ _ _ S.c S.n S.c S.n S.c S.n A12) (hargs := by (simp only [ma_, mb_, mc_, F] <;> rfl)) (h := ?_); rintro e W ⟨rfl, hb⟩; refine ⟨_, rfl, ?_⟩; replace S := S.go hb; clear F hb; have F := S.fc) | ((with_reducible refine gs (t := 3) rfl (L ?_)); (first | refine sb (.int _ _) S sz3 ?_ | refine ro (.int _ _) S sz3 ?_ (ho := rfl) (hx := rfl) (hy := rfl)); (clear S F; intro W S; have F := S.fc)) | ((with_reducible refine gs (t := 66) rfl (L ?_)); (first | refine sb (.agg #[_, _, _, _, _]) S sz66 ?_ | refine ro (.agg #[_, _, _, _, _]) S sz66 ?_ (ho := rfl) (hx := rfl) (hy := rfl)); (clear S F; intro W S; have F := S.fc)))
         go_ret2
         exact ⟨(by first | rfl | (simp [e0_, e1_] <;> rfl) | (simp [*, e0_, e1_] <;> rfl)), S.below⟩
       · skip
         go_wp2_with (first | ((with_reducible refine gate_callee (f := 119) rfl (L ?_)); refine cl (some 19) Try.func119 (impl_countSolutions.calls _ _ _ _ _ _ _ _ _ _ _ _ _ _ S.c S.n S.c S.n S.c S.n A12) (hargs := by (simp only [ma_, mb_, mc_, F] <;> rfl)) (h := ?_); rintro e W ⟨rfl, hb⟩; refine ⟨_, rfl, ?_⟩; replace S := S.go hb; clear F hb; have F := S.fc) | ((with_reducible refine gs (t := 3) rfl (L ?_)); (first | refine sb (.int _ _) S sz3 ?_ | refine ro (.int _ _) S sz3 ?_ (ho := rfl) (hx := rfl) (hy := rfl)); (clear S F; intro W S; have F := S.fc)) | ((with_reducible refine gs (t := 66) rfl (L ?_)); (first | refine sb (.agg #[_, _, _, _, _]) S sz66 ?_ | refine ro (.agg #[_, _, _, _, _]) S sz66 ?_ (ho := rfl) (hx := rfl) (hy := rfl)); (clear S F; intro W S; have F := S.fc)))
         go_roundg k1
         case measure => omega
         case rel => exact ⟨(wrap64 (x5_1 + 1)), x5_1, (by first | rfl | (simp; done) | (simp [*]; done) | (rw [w6_ (by omega) (by omega)])), H, (by first | omega | exact Nat.le_refl _), S⟩
     · skip
       simp only [Option.some.injEq, Prod.mk.injEq] at H
       obtain ⟨rfl, rfl⟩ := H
       go_wp2_with (first | ((with_reducible refine gs (t := 3) rfl (L ?_)); (first | refine sb (.int _ _) S sz3 ?_ | refine ro (.int _ _) S sz3 ?_ (ho := rfl) (hx := rfl) (hy := rfl)); (clear S F; intro W S; have F := S.fc)) | ((with_reducible refine gs (t := 66) rfl (L ?_)); (first | refine sb (.agg #[_, _, _, _, _]) S sz66 ?_ | refine ro (.agg #[_, _, _, _, _]) S sz66 ?_ (ho := rfl) (hx := rfl) (hy := rfl)); (clear S F; intro W S; have F := S.fc)))
       go_ret2
       exact ⟨(by first | rfl | (simp [e0_, e1_] <;> rfl) | (simp [*, e0_, e1_] <;> rfl)), S.below⟩
 · skip
   replace c3 := cbf c3; subst c3
   simp only [Option.some.injEq, Prod.mk.injEq] at H
   obtain ⟨rfl, rfl⟩ := H
   go_enter Try.func64, Try.ntmps64
   go_wp2_with (first | ((with_reducible refine gd 1 rfl (L ?_)); refine bo 1 (.agg #[_, _, _, _, _]) S ?_; clear S F; intro gb452 W S; have F := S.fc) | ((with_reducible refine gate_callee (f := 129) rfl (L ?_)); refine cl (some 7) Try.func129 (impl_IsChallenge.calls _ _ _ _ _ _ _ _ _ _ _ _ _ _ S.c S.n S.c S.n S.c S.n A2) (hargs := by (simp only [ma_, mb_, mc_, F] <;> rfl)) (h := ?_); rintro e W ⟨rfl, hb⟩; refine ⟨_, rfl, ?_⟩; replace S := S.go hb; clear F hb; have F := S.fc) | ((with_reducible refine gs (t := 3) rfl (L ?_)); (first | refine sb (.int _ _) S sz3 ?_ | refine ro (.int _ _) S sz3 ?_ (ho := rfl) (hx := rfl) (hy := rfl)); (clear S F; intro W S; have F := S.fc)) | ((with_reducible refine gs (t := 66) rfl (L ?_)); (first | refine sb (.agg #[_, _, _, _, _]) S sz66 ?_ | refine ro (.agg #[_, _, _, _, _]) S sz66 ?_ (ho := rfl) (hx := rfl) (hy := rfl)); (clear S F; intro W S; have F := S.fc)))
   go_ret2
   exact ⟨(by first | rfl | (simp [e0_, e1_] <;> rfl) | (simp [*, e0_, e1_] <;> rfl)), S.below⟩

/-! ### laws_FnExactLeastRows: function 10 -/
def laws_FnExactLeastRows.j0 : Nat → Bool → Int → Int → List (S80) → List Int → List Int → Int → Int → List (S27) → List Int → List Int → Option (Bool)
 | 0, _, _, _, _, _, _, _, _, _, _, _ => none
 | k + 1, x34, x457000, x457001, x457002, x457003, x457004, x483000, x483001, x483002, x483003, x483004 => if x34 = true then (some false) else ((laws_toChallenge.f k x457000 x457001 x457002 x457003 x457004).bind fun bt485 => ((laws_eqChallenge.f k x483000 x483001 x483002 x483003 x483004 bt485.1 bt485.2.1 bt485.2.2.1 bt485.2.2.2.1 bt485.2.2.2.2).bind fun t496 => (if t496 = true then (some true) else (some false))))
def laws_FnExactLeastRows.f (k : Nat) (a0_0 : Int) (a0_1 : Int) (l0_2 : List (S80)) (l0_3 : List Int) (l0_4 : List Int) : Option (Bool) := (laws_szChallenge.f a0_0 a0_1 l0_2 l0_3 l0_4 1048576).bind fun t457 => (if t457 < 0 then (some true) else ((laws_toChallenge.f k a0_0 a0_1 l0_2 l0_3 l0_4).bind fun bt458 => ((spec_LeastRows.f k bt458.1 bt458.2.1 bt458.2.2.1 bt458.2.2.2.1 bt458.2.2.2.2).bind fun bt469 => ((laws_toChallenge.f k a0_0 a0_1 l0_2 l0_3 l0_4).bind fun bt471 => ((impl_LeastRows.f k bt471.1 bt471.2.1 bt471.2.2.1 bt471.2.2.2.1 bt471.2.2.2.2).bind fun bt483 => (if bt483.1 = bt469.1 then (laws_FnExactLeastRows.j0 k (bt483.2 != bt469.2) a0_0 a0_1 l0_2 l0_3 l0_4 bt471.1 bt471.2.1 bt471.2.2.1 bt471.2.2.2.1 bt471.2.2.2.2) else (laws_FnExactLeastRows.j0 k true a0_0 a0_1 l0_2 l0_3 l0_4 bt471.1 bt471.2.1 bt471.2.2.1 bt471.2.2.2.1 bt471.2.2.2.2)))))))
theorem laws_FnExactLeastRows.calls (k : Nat) (a0_0 : Int) (a0_1 : Int) (A0_2 : Option Addr) (c0_2 : Nat) (l0_2 : List (S80)) (A0_3 : Option Addr) (c0_3 : Nat) (l0_3 : List Int) (A0_4 : Option Addr) (c0_4 : Nat) (l0_4 : List Int) (r : Bool) (w : World) (hr0_2 : Kd.C k80 w A0_2 l0_2.length l0_2) (hc0_2 : l0_2.length ≤ c0_2) (hr0_3 : Kd.C (Kd.int .i64) w A0_3 l0_3.length l0_3) (hc0_3 : l0_3.length ≤ c0_3) (hr0_4 : Kd.C (Kd.int .i64) w A0_4 l0_4.length l0_4) (hc0_4 : l0_4.length ≤ c0_4) (hrt : r = true) (h : laws_FnExactLeastRows.f k a0_0 a0_1 l0_2 l0_3 l0_4 = some r) :
  Calls Try.prog 10 #[.agg #[.int .i64 a0_0, .int .i64 a0_1, .slice A0_2 l0_2.length c0_2, .slice A0_3 l0_3.length c0_3, .slice A0_4 l0_4.length c0_4]] w fun e w' => e = .returned (.bool r) ∧ Below w.heap.size w w' := by
 have HR0_2 := Aside0.mk hr0_2;have HC0_2 := Aside0.mk hc0_2;clear hr0_2 hc0_2;have HR0_3 := Aside0.mk hr0_3;have HC0_3 := Aside0.mk hc0_3;clear hr0_3 hc0_3;have HR0_4 := Aside0.mk hr0_4;have HC0_4 := Aside0.mk hc0_4;clear hr0_4 hc0_4;have HRT := Aside0.mk hrt;clear hrt;have HB := Aside0.mk (Below.refl w.heap.size w);have H : ((laws_szChallenge.f a0_0 a0_1 l0_2 l0_3 l0_4 1048576).bind fun t457 => (if t457 < 0 then (some true) else ((laws_toChallenge.f k a0_0 a0_1 l0_2 l0_3 l0_4).bind fun bt458 => ((spec_LeastRows.f k bt458.1 bt458.2.1 bt458.2.2.1 bt458.2.2.2.1 bt458.2.2.2.2).bind fun bt469 => ((laws_toChallenge.f k a0_0 a0_1 l0_2 l0_3 l0_4).bind fun bt471 => ((impl_LeastRows.f k bt471.1 bt471.2.1 bt471.2.2.1 bt471.2.2.2.1 bt471.2.2.2.2).bind fun bt483 => (if bt483.1 = bt469.1 then (laws_FnExactLeastRows.j0 k (bt483.2 != bt469.2) a0_0 a0_1 l0_2 l0_3 l0_4 bt471.1 bt471.2.1 bt471.2.2.1 bt471.2.2.2.1 bt471.2.2.2.2) else (laws_FnExactLeastRows.j0 k true a0_0 a0_1 l0_2 l0_3 l0_4 bt471.1 bt471.2.1 bt471.2.2.1 bt471.2.2.2.1 bt471.2.2.2.2)))))))) = some r := h;clear h;replace H := Option.bind_eq_some_iff.mp H;obtain ⟨t457, A20, H⟩ := H;(try dsimp only at H)
 have A2 := Aside0.mk A20;clear A20;by_cases c3 : t457 < 0
 ·rw [if_pos c3] at H;have c3b0 : decide (t457 < 0) = true := decide_eq_true c3;clear c3;obtain rfl := Option.some.inj H;go_enter Try.func10, Try.ntmps10;go_wp2_with (first | ((with_reducible refine gate_dst (N := 1) rfl ?_); refine box_event ?hg (N := 1) ?hd (cs := #[.int .i64 a0_0, .int .i64 a0_1, .slice A0_2 l0_2.length c0_2, .slice A0_3 l0_3.length c0_3, .slice A0_4 l0_4.length c0_4]) (t := 62) ?hr ?_; (case hd => rfl); (case hg => rfl); (case hr => first | (go_simp; done) | (go_simp; rfl)); intro gb456 hg w4 hbox hb; refine ev4 (bs HB hb) (hbox) (gle hg HB) (gle hg HB) ?_; clear HB; intro HB BK456 GW456 GE456; clear hb hbox hg; obtain ⟨hcz5_0, hcz5_1, hcz5_2, hcz5_3, hcz5_4, hfz5_0, hfz5_1, hfz5_2, hfz5_3, hfz5_4⟩ := bt5 BK456) | ((with_reducible refine gate_callee (f := 50) rfl ?_); refine goesL_ (some 11) rfl rfl Try.func50 (by kernel_rfl) rfl #[.agg #[.int .i64 a0_0, .int .i64 a0_1, .slice A0_2 l0_2.length c0_2, .slice A0_3 l0_3.length c0_3, .slice A0_4 l0_4.length c0_4], .int .i64 1048576] rfl (by (try simp only [ma_, mb_, mc_]); first | done | rfl | (simp only [List.length_drop, List.length_take]; rfl)) ?_; (with_reducible refine (laws_szChallenge.calls a0_0 a0_1 _ _ l0_2 _ _ l0_3 _ _ l0_4 1048576 t457 _ (Kd.C_mv (Kd.C_below HR0_2.out HB.out)) HC0_2.out (Kd.C_mv (Kd.C_below HR0_3.out HB.out)) HC0_3.out (Kd.C_mv (Kd.C_below HR0_4.out HB.out)) HC0_4.out A2.out).mono ?_); rintro e w6 ⟨rfl, hb⟩; refine ⟨_, rfl, ?_⟩; refine ev2 (kb BK456 hb) (bs HB hb) ?_; clear BK456 HB; intro BK456 HB; (try clear hb); (try clear hb2); (try clear hk); (try clear hi)))
  go_ret;exact ⟨by first | rfl | (simp [e0_, e1_] <;> rfl) | (simp [*, e0_, e1_] <;> rfl), bm HB⟩
 ·rw [if_neg c3] at H;have c3b0 : decide (t457 < 0) = false := decide_eq_false c3;clear c3;replace H := Option.bind_eq_some_iff.mp H;obtain ⟨⟨t458, t459, t460, t463, t466⟩, A70, H⟩ := H;(try dsimp only at H)
  have A7 := Aside0.mk A70;clear A70;replace H := Option.bind_eq_some_iff.mp H;obtain ⟨⟨t469, t470⟩, A80, H⟩ := H;(try dsimp only at H)
  have A8 := Aside0.mk A80;clear A80;replace H := Option.bind_eq_some_iff.mp H;obtain ⟨⟨t471, t472, t473, t476, t479⟩, A90, H⟩ := H;(try dsimp only at H)
  have A9 := Aside0.mk A90;clear A90;replace H := Option.bind_eq_some_iff.mp H;obtain ⟨⟨t483, t484⟩, A100, H⟩ := H;(try dsimp only at H)
  have A10 := Aside0.mk A100;clear A100;have HC11 := Aside0.mk H;clear H;go_enter Try.func10, Try.ntmps10;go_upto_region 8 with (first | ((with_reducible refine gate_dst (N := 1) rfl ?_); refine box_event ?hg (N := 1) ?hd (cs := #[.int .i64 a0_0, .int .i64 a0_1, .slice A0_2 l0_2.length c0_2, .slice A0_3 l0_3.length c0_3, .slice A0_4 l0_4.length c0_4]) (t := 62) ?hr ?_; (case hd => rfl); (case hg => rfl); (case hr => first | (go_simp; done) | (go_simp; rfl)); intro gb456 hg w12 hbox hb; refine ev4 (bs HB hb) (hbox) (gle hg HB) (gle hg HB) ?_; clear HB; intro HB BK456 GW456 GE456; clear hb hbox hg; obtain ⟨hcz13_0, hcz13_1, hcz13_2, hcz13_3, hcz13_4, hfz13_0, hfz13_1, hfz13_2, hfz13_3, hfz13_4⟩ := bt5 BK456) | ((with_reducible refine gate_callee (f := 50) rfl ?_); refine goesL_ (some 11) rfl rfl Try.func50 (by kernel_rfl) rfl #[.agg #[.int .i64 a0_0, .int .i64 a0_1, .slice A0_2 l0_2.length c0_2, .slice A0_3 l0_3.length c0_3, .slice A0_4 l0_4.length c0_4], .int .i64 1048576] rfl (by (try simp only [ma_, mb_, mc_]); first | done | rfl | (simp only [List.length_drop, List.length_take]; rfl)) ?_; (with_reducible refine (laws_szChallenge.calls a0_0 a0_1 _ _ l0_2 _ _ l0_3 _ _ l0_4 1048576 t457 _ (Kd.C_mv (Kd.C_below HR0_2.out HB.out)) HC0_2.out (Kd.C_mv (Kd.C_below HR0_3.out HB.out)) HC0_3.out (Kd.C_mv (Kd.C_below HR0_4.out HB.out)) HC0_4.out A2.out).mono ?_); rintro e w14 ⟨rfl, hb⟩; refine ⟨_, rfl, ?_⟩; refine ev2 (kb BK456 hb) (bs HB hb) ?_; clear BK456 HB; intro BK456 HB; (try clear hb); (try clear hb2); (try clear hk); (try clear hi); obtain ⟨hcz15_0, hcz15_1, hcz15_2, hcz15_3, hcz15_4, hfz15_0, hfz15_1, hfz15_2, hfz15_3, hfz15_4⟩ := bt5 BK456) | ((with_reducible refine gate_callee (f := 52) rfl ?_); refine goesL_ (some 16) rfl rfl Try.func52 (by kernel_rfl) rfl #[.agg #[.int .i64 a0_0, .int .i64 a0_1, .slice A0_2 l0_2.length c0_2, .slice A0_3 l0_3.length c0_3, .slice A0_4 l0_4.length c0_4]] rfl (by (try simp only [ma_, mb_, mc_]); first | done | rfl | (simp only [List.length_drop, List.length_take]; rfl)) ?_; (with_reducible refine (laws_toChallenge.calls k a0_0 a0_1 _ _ l0_2 _ _ l0_3 _ _ l0_4 t458 t459 t460 t463 t466 _ (Kd.C_mv (Kd.C_below HR0_2.out HB.out)) HC0_2.out (Kd.C_mv (Kd.C_below HR0_3.out HB.out)) HC0_3.out (Kd.C_mv (Kd.C_below HR0_4.out HB.out)) HC0_4.out A7.out).mono ?_); rintro e w16 ⟨v461, v464, v467, rfl, ho0, ho1, ho2, hb⟩; refine ⟨_, rfl, ?_⟩; refine ev5 (Kd.R_lower ho0 (below_size (bm HB))) (Kd.R_lower ho1 (below_size (bm HB))) (Kd.R_lower ho2 (below_size (bm HB))) (kb BK456 hb) (bs HB hb) ?_; clear BK456 HB; intro HO462 HO465 HO468 BK456 HB; (try clear hb); (try clear hb2); (try clear hk); (try clear hi); (try clear ho0); (try clear ho1); (try clear ho2); obtain ⟨Ao17, co17, eo17⟩ := Kd.R_slice HO462.out; subst eo17; obtain ⟨Ao18, co18, eo18⟩ := Kd.R_slice HO465.out; subst eo18; obtain ⟨Ao19, co19, eo19⟩ := Kd.R_slice HO468.out; subst eo19) | ((with_reducible refine gate_callee (f := 63) rfl ?_); refine goesL_ (some 17) rfl rfl Try.func63 (by kernel_rfl) rfl #[.agg #[.int .i64 t458, .int .i64 t459, .slice Ao17 t460.length co17, .slice Ao18 t463.length co18, .slice Ao19 t466.length co19]] rfl (by (try simp only [ma_, mb_, mc_]); first | done | rfl | (simp only [List.length_drop, List.length_take]; rfl)) ?_; (with_reducible refine (spec_LeastRows.calls k t458 t459 _ _ t460 _ _ t463 _ _ t466 t469 t470 _ (Kd.C_mv (Kd.R_reads' HO462.out).2.2) ((Kd.R_reads' HO462.out).2.1) (Kd.C_mv (Kd.R_reads' HO465.out).2.2) ((Kd.R_reads' HO465.out).2.1) (Kd.C_mv (Kd.R_reads' HO468.out).2.2) ((Kd.R_reads' HO468.out).2.1) A8.out).mono ?_); rintro e w20 ⟨rfl, hb⟩; refine ⟨_, rfl, ?_⟩; refine ev5 (Kd.R_below (Kd.R_mv HO462.out) hb) (Kd.R_below (Kd.R_mv HO465.out) hb) (Kd.R_below (Kd.R_mv HO468.out) hb) (kb BK456 hb) (bs HB hb) ?_; clear HO462 HO465 HO468 BK456 HB; intro HO462 HO465 HO468 BK456 HB; (try clear hb); (try clear hb2); (try clear hk); (try clear hi); obtain ⟨hcz21_0, hcz21_1, hcz21_2, hcz21_3, hcz21_4, hfz21_0, hfz21_1, hfz21_2, hfz21_3, hfz21_4⟩ := bt5 BK456) | ((with_reducible refine gate_callee (f := 52) rfl ?_); refine goesL_ (some 21) rfl rfl Try.func52 (by kernel_rfl) rfl #[.agg #[.int .i64 a0_0, .int .i64 a0_1, .slice A0_2 l0_2.length c0_2, .slice A0_3 l0_3.length c0_3, .slice A0_4 l0_4.length c0_4]] rfl (by (try simp only [ma_, mb_, mc_]); first | done | rfl | (simp only [List.length_drop, List.length_take]; rfl)) ?_; (with_reducible refine (laws_toChallenge.calls k a0_0 a0_1 _ _ l0_2 _ _ l0_3 _ _ l0_4 t471 t472 t473 t476 t479 _ (Kd.C_mv (Kd.C_below HR0_2.out HB.out)) HC0_2.out (Kd.C_mv (Kd.C_below HR0_3.out HB.out)) HC0_3.out (Kd.C_mv (Kd.C_below HR0_4.out HB.out)) HC0_4.out A9.out).mono ?_); rintro e w22 ⟨v474, v477, v480, rfl, ho0, ho1, ho2, hb⟩; refine ⟨_, rfl, ?_⟩; refine ev8 (Kd.R_elder' (Kd.R_mv HO462.out) (Kd.R_base ho0) hb) (Kd.R_mono (Kd.R_told (Kd.R_told (Kd.R_old (Kd.R_mv HO465.out) hb) (Kd.R_base ho1)) (Kd.R_base ho2)) (fun _ h_ => h_.1)) (Kd.R_mono (Kd.R_told (Kd.R_told (Kd.R_old (Kd.R_mv HO468.out) hb) (Kd.R_base ho1)) (Kd.R_base ho2)) (fun _ h_ => h_.1)) (Kd.R_lower (Kd.R_new' ho0 (Kd.R_lt (Kd.R_mv HO462.out))) (below_size (bm HB))) (Kd.R_lower (Kd.R_new' (Kd.R_new' ho1 (Kd.R_lt (Kd.R_mv HO465.out))) (Kd.R_lt (Kd.R_mv HO468.out))) (below_size (bm HB))) (Kd.R_lower (Kd.R_new' (Kd.R_new' ho2 (Kd.R_lt (Kd.R_mv HO465.out))) (Kd.R_lt (Kd.R_mv HO468.out))) (below_size (bm HB))) (kb BK456 hb) (bs HB hb) ?_; clear HO462 HO465 HO468 BK456 HB; intro HO462 HO465 HO468 HO475 HO478 HO481 BK456 HB; (try clear hb); (try clear hb2); (try clear hk); (try clear hi); (try clear ho0); (try clear ho1); (try clear ho2)) | ((with_reducible refine gate_dst (N := 6) rfl ?_); refine box_event ?hg (N := 6) ?hd (cs := #[.int .i64 0, .int .i64 0, .slice none 0 0, .slice none 0 0, .slice none 0 0]) (t := 66) ?hr ?_; (case hd => rfl); (case hg => rfl); (case hr => first | (go_simp; done) | (go_simp; rfl)); intro gb482 hg w23 hbox hb; refine ev12 (Kd.R_below (Kd.R_mv HO462.out) hb) (Kd.R_below (Kd.R_mv HO465.out) hb) (Kd.R_below (Kd.R_mv HO468.out) hb) (Kd.R_below (Kd.R_mv HO475.out) hb) (Kd.R_below (Kd.R_mv HO478.out) hb) (Kd.R_below (Kd.R_mv HO481.out) hb) (kb BK456 hb) (bs HB hb) (hbox) (gle hg HB) (gle hg HB) (gnf hg BK456) ?_; intro n0_ n1_ n2_ n3_ n4_ n5_ n6_ n7_ n8_ n9_ n10_ n11_; refine ev1 (gne hg BK456) ?_; intro n12_; clear HO462 HO465 HO468 HO475 HO478 HO481 BK456 HB; revert n0_ n1_ n2_ n3_ n4_ n5_ n6_ n7_ n8_ n9_ n10_ n11_ n12_; intro HO462 HO465 HO468 HO475 HO478 HO481 BK456 HB BK482 GW482 GE482 NB456_482 NB482_456; clear hb hbox hg; have hnb24 := NB482_456.out; have hnc24 := NB456_482.out; obtain ⟨hcz25_0, hcz25_1, hcz25_2, hcz25_3, hcz25_4, hfz25_0, hfz25_1, hfz25_2, hfz25_3, hfz25_4⟩ := bt5 BK482; obtain ⟨Ao26, co26, eo26⟩ := Kd.R_slice HO475.out; subst eo26; obtain ⟨Ao27, co27, eo27⟩ := Kd.R_slice HO478.out; subst eo27; obtain ⟨Ao28, co28, eo28⟩ := Kd.R_slice HO481.out; subst eo28) | ((with_reducible refine gate_callee (f := 64) rfl ?_); refine goesL_ (some 24) rfl rfl Try.func64 (by kernel_rfl) rfl #[.agg #[.int .i64 t471, .int .i64 t472, .slice Ao26 t473.length co26, .slice Ao27 t476.length co27, .slice Ao28 t479.length co28]] rfl (by (try simp only [ma_, mb_, mc_]); first | done | rfl | (simp only [List.length_drop, List.length_take]; rfl)) ?_; (with_reducible refine (impl_LeastRows.calls k t471 t472 _ _ t473 _ _ t476 _ _ t479 t483 t484 _ ?side1 ((Kd.R_reads' HO475.out).2.1) ?side3 ((Kd.R_reads' HO478.out).2.1) ?side5 ((Kd.R_reads' HO481.out).2.1) A10.out).mono ?_); (case side1 => exact (Kd.R_reads' (Kd.R_ft HO475.out BK482.out (by decide))).2.2); (case side3 => exact (Kd.R_reads' (Kd.R_ft HO478.out BK482.out (by decide))).2.2); (case side5 => exact (Kd.R_reads' (Kd.R_ft HO481.out BK482.out (by decide))).2.2); rintro e w29 ⟨rfl, hb⟩; refine ⟨_, rfl, ?_⟩; refine ev9 (Kd.R_below (Kd.R_ft HO462.out BK482.out (by decide)) hb) (Kd.R_below (Kd.R_ft HO465.out BK482.out (by decide)) hb) (Kd.R_below (Kd.R_ft HO468.out BK482.out (by decide)) hb) (Kd.R_below (Kd.R_ft HO475.out BK482.out (by decide)) hb) (Kd.R_below (Kd.R_ft HO478.out BK482.out (by decide)) hb) (Kd.R_below (Kd.R_ft HO481.out BK482.out (by decide)) hb) (blk_below (g := gb456) (o := .cells #[.int .i64 a0_0, .int .i64 a0_1, .slice A0_2 l0_2.length c0_2, .slice A0_3 l0_3.length c0_3, .slice A0_4 l0_4.length c0_4] 62 (0, 0)) (fp BK456 rfl) hb) (blk_below (g := gb482) (o := .cells #[.int .i64 t471, .int .i64 t472, .slice Ao26 t473.length co26, .slice Ao27 t476.length co27, .slice Ao28 t479.length co28] 66 (0, 0)) (fp BK482 rfl) hb) (bs HB hb) ?_; clear HO462 HO465 HO468 HO475 HO478 HO481 BK456 BK482 HB; intro HO462 HO465 HO468 HO475 HO478 HO481 BK456 BK482 HB; (try clear hb); (try clear hb2); (try clear hk); (try clear hi)))
  (try simp only [Act.put, za_, zb_, zc_])
  go_cut [34] (fun v34 wc => ∃ (kq : Nat) (x34_10 : Bool), v34 = .bool x34_10 ∧ Aside0 (laws_FnExactLeastRows.j0 kq x34_10 a0_0 a0_1 l0_2 l0_3 l0_4 t471 t472 t473 t476 t479 = some r) ∧ Aside0 (kq ≤ k) ∧ Aside0 (Kd.R k27 27 wc w.heap.size (fun _ => True) (.slice Ao26 t473.length co26) t473) ∧ Aside0 (Kd.R (Kd.int .i64) 3 wc w.heap.size (fun k_ => some k_ ≠ ((.slice Ao28 t479.length co28) : Value).ownBlock) (.slice Ao27 t476.length co27) t476) ∧ Aside0 (Kd.R (Kd.int .i64) 3 wc w.heap.size (fun k_ => some k_ ≠ ((.slice Ao27 t476.length co27) : Value).ownBlock) (.slice Ao28 t479.length co28) t479) ∧ Aside0 (wc.heap[gb456]? = some (.cells #[.int .i64 a0_0, .int .i64 a0_1, (.slice A0_2 l0_2.length c0_2), (.slice A0_3 l0_3.length c0_3), (.slice A0_4 l0_4.length c0_4)] 62 (0, 0))) ∧ Aside0 (wc.heap[gb482]? = some (.cells #[.int .i64 t471, .int .i64 t472, (.slice Ao26 t473.length co26), (.slice Ao27 t476.length co27), (.slice Ao28 t479.length co28)] 66 (0, 0))) ∧ Aside0 (Below w.heap.size w wc))
  case first =>
   have H := HC11.out;clear HC11;by_cases c30 : t483 = t469
   ·rw [if_pos c30] at H;have c30b0 : (t483 == t469) = true := beq_iff_eq.mpr c30;have c30b1 : (t483 != t469) = false := bne_eq_false_iff_eq.mpr c30;clear c30;(first | rw [c30b0] | (simp only [i64_w, i32_w]; rw [c30b0]) | skip)
    have H' := Aside0.mk H;clear H;go_wp2;go_meet
    case rel => exact ⟨_, ((t484 != t470)), (by first | rfl | (simp; done) | (simp [*]; done)), H', ⟨by first | omega | exact Nat.le_refl _⟩, ⟨Kd.R_mv (Kd.R_mono (ok' := fun k_ => True) HO475.out (fun _ hk => trivial))⟩, ⟨Kd.R_mv (Kd.R_mono HO478.out (fun _ hk => hk.1.1))⟩, ⟨Kd.R_mv (Kd.R_mono HO481.out (fun _ hk => hk.1.1))⟩, ⟨km_ BK456⟩, ⟨km_ BK482⟩, ⟨bm HB⟩⟩
   ·rw [if_neg c30] at H;have c30b0 : (t483 == t469) = false := beq_eq_false_iff_ne.mpr c30;have c30b1 : (t483 != t469) = true := bne_iff_ne.mpr c30;(first | rw [c30b0] | (simp only [i64_w, i32_w]; rw [c30b0]) | skip)
    have H' := Aside0.mk H;clear H;go_wp2;go_meet
    case rel => exact ⟨_, (true), (by first | rfl | (simp; done) | (simp [*]; done)), H', ⟨by first | omega | exact Nat.le_refl _⟩, ⟨Kd.R_mv (Kd.R_mono (ok' := fun k_ => True) HO475.out (fun _ hk => trivial))⟩, ⟨Kd.R_mv (Kd.R_mono HO478.out (fun _ hk => hk.1.1))⟩, ⟨Kd.R_mv (Kd.R_mono HO481.out (fun _ hk => hk.1.1))⟩, ⟨km_ BK456⟩, ⟨km_ BK482⟩, ⟨bm HB⟩⟩
  case rest =>
   clear HC11;(try clear c1);(try clear c2);(try clear c3);(try clear c3b0);(try clear c5);(try clear c6);(try clear c10);(try clear c24);(try clear hcz13_0);(try clear hcz13_1);(try clear hcz13_2);(try clear hcz13_3);(try clear hcz13_4);(try clear hcz15_0);(try clear hcz15_1);(try clear hcz15_2);(try clear hcz15_3);(try clear hcz15_4);(try clear hcz21_0);(try clear hcz21_1);(try clear hcz21_2);(try clear hcz21_3);(try clear hcz21_4);(try clear hcz25_0);(try clear hcz25_1);(try clear hcz25_2);(try clear hcz25_3);(try clear hcz25_4);(try clear hfz13_0);(try clear hfz13_1);(try clear hfz13_2);(try clear hfz13_3);(try clear hfz13_4);(try clear hfz15_0);(try clear hfz15_1);(try clear hfz15_2);(try clear hfz15_3);(try clear hfz15_4);(try clear hfz21_0);(try clear hfz21_1);(try clear hfz21_2);(try clear hfz21_3);(try clear hfz21_4);(try clear hfz25_0);(try clear hfz25_1);(try clear hfz25_2);(try clear hfz25_3);(try clear hfz25_4);obtain ⟨kq, x34_10, rfl, HA, HJ10, HO_483002, HO_483003, HO_483004, BK456, BK482, HB⟩ := hcut;cases kq with
   | zero => exact absurd HA.out (by simp [laws_FnExactLeastRows.j0])
   | succ kj10 =>
    have H := HA.out;clear HA;simp only [laws_FnExactLeastRows.j0] at H;by_cases c31 : x34_10 = true
    ·subst c31;have H1 : (some false) = some r := by rw [if_pos rfl] at H; exact H
     clear H;have H := H1;clear H1;exact absurd (H.trans (congrArg some HRT.out)) (by simp)
    ·replace c31 := Bool.eq_false_iff.mpr c31;subst c31;have H1 : ((laws_toChallenge.f kj10 a0_0 a0_1 l0_2 l0_3 l0_4).bind fun bt485 => ((laws_eqChallenge.f kj10 t471 t472 t473 t476 t479 bt485.1 bt485.2.1 bt485.2.2.1 bt485.2.2.2.1 bt485.2.2.2.2).bind fun t496 => (if t496 = true then (some true) else (some false)))) = some r := by rw [if_neg (show ¬ (false = true) by decide)] at H; exact H
     clear H;have H := H1;clear H1;replace H := Option.bind_eq_some_iff.mp H;obtain ⟨⟨t485, t486, t487, t490, t493⟩, A320, H⟩ := H;(try dsimp only at H)
     have A32 := Aside0.mk A320;clear A320;replace H := Option.bind_eq_some_iff.mp H;obtain ⟨t496, A330, H⟩ := H;(try dsimp only at H)
     have A33 := Aside0.mk A330;clear A330;by_cases c34 : t496 = true
     ·subst c34;have H1 : (some true) = some r := by rw [if_pos rfl] at H; exact H
      clear H;have H := H1;clear H1;obtain rfl := Option.some.inj H;try go_wp2
      refine ev6 (Kd.R_drew HO_483002.out) (Kd.R_drew HO_483003.out) (Kd.R_drew HO_483004.out) (blk_drew BK456.out) (blk_drew BK482.out) (below_drew1 HB.out) ?_;clear HO_483002 HO_483003 HO_483004 BK456 BK482 HB;intro HO_483002 HO_483003 HO_483004 BK456 BK482 HB;refine start_ (n := 5) (S := fun w' => w'.cell? ⟨gb482, 0, none⟩ = some (.int .i64 t471) ∧ w'.cell? ⟨gb482, 1, none⟩ = some (.int .i64 t472) ∧ w'.cell? ⟨gb482, 2, none⟩ = some (.slice Ao26 t473.length co26) ∧ w'.cell? ⟨gb482, 3, none⟩ = some (.slice Ao27 t476.length co27) ∧ w'.cell? ⟨gb482, 4, none⟩ = some (.slice Ao28 t479.length co28) ∧ w'.cell? ⟨gb456, 0, none⟩ = some (.int .i64 a0_0) ∧ w'.cell? ⟨gb456, 1, none⟩ = some (.int .i64 a0_1) ∧ w'.cell? ⟨gb456, 2, none⟩ = some (.slice A0_2 l0_2.length c0_2) ∧ w'.cell? ⟨gb456, 3, none⟩ = some (.slice A0_3 l0_3.length c0_3) ∧ w'.cell? ⟨gb456, 4, none⟩ = some (.slice A0_4 l0_4.length c0_4)) (ds := []) #[Z,Z,Z,Z,Z] (by kernel_rfl) rfl rfl ⟨(blk_cell BK482.out 0).trans rfl, (blk_cell BK482.out 1).trans rfl, (blk_cell BK482.out 2).trans rfl, (blk_cell BK482.out 3).trans rfl, (blk_cell BK482.out 4).trans rfl, (blk_cell BK456.out 0).trans rfl, (blk_cell BK456.out 1).trans rfl, (blk_cell BK456.out 2).trans rfl, (blk_cell BK456.out 3).trans rfl, (blk_cell BK456.out 4).trans rfl⟩ (fun hHeld => ?_);generalize wc.drew = w35 at HO_483002 HO_483003 HO_483004 BK456 BK482 HB hHeld ⊢
      refine take_ (i := 0) (N := some 35) (v := ?_) (a' := ?_) #[Y,Z,Z,Z,Z] rfl rfl (by kernel_rfl) (fun _ _ _ h => h) (Or.inl ⟨by rfl, ?_⟩) hHeld ?_ ?_;rotate_left
      ·rintro w' ⟨s0, s1, s2, s3, s4, s5, s6, s7, s8, s9⟩;go_simp;with_reducible rfl
      rotate_left
      ·simp only [Act.put, za_, zb_, zc_, i64_w, i32_w];rfl
      refine take_ (i := 1) (N := some 36) (v := ?_) (a' := ?_) #[Y,Y,Z,Z,Z] rfl rfl (by kernel_rfl) (fun _ _ _ h => h) (Or.inl ⟨by rfl, ?_⟩) hHeld ?_ ?_;rotate_left
      ·rintro w' ⟨s0, s1, s2, s3, s4, s5, s6, s7, s8, s9⟩;go_simp;with_reducible rfl
      rotate_left
      ·simp only [Act.put, za_, zb_, zc_, i64_w, i32_w];rfl
      refine one_ (i := 2) (N := some 37) #[Y,Y,Y,Z,Z] rfl rfl (by kernel_rfl) (by decide) (fun K hK => ?_);refine goes_ Try.func52 (by kernel_rfl) rfl #[.agg #[.int .i64 a0_0, .int .i64 a0_1, .slice A0_2 l0_2.length c0_2, .slice A0_3 l0_3.length c0_3, .slice A0_4 l0_4.length c0_4]] (by rfl) rfl rfl (by (try simp only [ma_, mb_, mc_]); first | done | rfl | (simp only [List.length_drop, List.length_take]; rfl)) ?_;with_reducible refine (laws_toChallenge.calls kj10 a0_0 a0_1 _ _ l0_2 _ _ l0_3 _ _ l0_4 t485 t486 t487 t490 t493 _ ?side1 ?side2 ?side3 ?side4 ?side5 ?side6 A32.out).mono ?_
      (case side1 => exact Kd.C_mv (Kd.C_below HR0_2.out HB.out))
      (case side2 => exact HC0_2.out)
      (case side3 => exact Kd.C_mv (Kd.C_below HR0_3.out HB.out))
      (case side4 => exact HC0_3.out)
      (case side5 => exact Kd.C_mv (Kd.C_below HR0_4.out HB.out))
      (case side6 => exact HC0_4.out)
      rintro e w36 ⟨v488, v491, v494, rfl, ho0, ho1, ho2, hb⟩;refine ⟨_, rfl, ?_⟩;refine ev9 (Kd.R_elder' (Kd.R_mv HO_483002.out) (Kd.R_base ho0) hb) (Kd.R_mono (Kd.R_told (Kd.R_told (Kd.R_old (Kd.R_mv HO_483003.out) hb) (Kd.R_base ho1)) (Kd.R_base ho2)) (fun _ h_ => h_.1)) (Kd.R_mono (Kd.R_told (Kd.R_told (Kd.R_old (Kd.R_mv HO_483004.out) hb) (Kd.R_base ho1)) (Kd.R_base ho2)) (fun _ h_ => h_.1)) (Kd.R_lower (Kd.R_new' ho0 (Kd.R_lt (Kd.R_mv HO_483002.out))) (below_size (bm HB))) (Kd.R_lower (Kd.R_new' (Kd.R_new' ho1 (Kd.R_lt (Kd.R_mv HO_483003.out))) (Kd.R_lt (Kd.R_mv HO_483004.out))) (below_size (bm HB))) (Kd.R_lower (Kd.R_new' (Kd.R_new' ho2 (Kd.R_lt (Kd.R_mv HO_483003.out))) (Kd.R_lt (Kd.R_mv HO_483004.out))) (below_size (bm HB))) (kb BK456 hb) (kb BK482 hb) (bs HB hb) ?_;clear HO_483002 HO_483003 HO_483004 BK456 BK482 HB;intro HO_483002 HO_483003 HO_483004 HO489 HO492 HO495 BK456 BK482 HB;(try clear hb);(try clear hb2);(try clear hk);(try clear hi);(try clear ho0);(try clear ho1);(try clear ho2);obtain ⟨Ao37, co37, eo37⟩ := Kd.R_slice HO489.out;(first | subst eo37 | (injection eo37 with f1_ f2_ f3_; have f4_ := f1_.symm; have f5_ := f3_.symm; clear f1_ f2_ f3_; subst f4_; subst f5_))
      obtain ⟨Ao38, co38, eo38⟩ := Kd.R_slice HO492.out;(first | subst eo38 | (injection eo38 with f1_ f2_ f3_; have f4_ := f1_.symm; have f5_ := f3_.symm; clear f1_ f2_ f3_; subst f4_; subst f5_))
      obtain ⟨Ao39, co39, eo39⟩ := Kd.R_slice HO495.out;(first | subst eo39 | (injection eo39 with f1_ f2_ f3_; have f4_ := f1_.symm; have f5_ := f3_.symm; clear f1_ f2_ f3_; subst f4_; subst f5_))
      refine hK.out _ _ ⟨(blk_cell BK482.out 0).trans rfl, (blk_cell BK482.out 1).trans rfl, (blk_cell BK482.out 2).trans rfl, (blk_cell BK482.out 3).trans rfl, (blk_cell BK482.out 4).trans rfl, (blk_cell BK456.out 0).trans rfl, (blk_cell BK456.out 1).trans rfl, (blk_cell BK456.out 2).trans rfl, (blk_cell BK456.out 3).trans rfl, (blk_cell BK456.out 4).trans rfl⟩ (fun hHeld => ?_);clear hK K;refine norm_ (a' := ?_) ?_ ?_;rotate_left
      ·show Act.put _ (some 37) _ = _
       simp only [Act.put, za_, zb_, zc_, i64_w, i32_w];rfl
      refine one_ (i := 3) (N := some 38) #[Y,Y,Y,Y,Z] rfl rfl (by kernel_rfl) (by decide) (fun K hK => ?_);refine goes_ Try.func54 (by kernel_rfl) rfl #[.agg #[.int .i64 t471, .int .i64 t472, .slice Ao26 t473.length co26, .slice Ao27 t476.length co27, .slice Ao28 t479.length co28], .agg #[.int .i64 t485, .int .i64 t486, .slice Ao37 t487.length co37, .slice Ao38 t490.length co38, .slice Ao39 t493.length co39]] (by rfl) rfl rfl (by (try simp only [ma_, mb_, mc_]); first | done | rfl | (simp only [List.length_drop, List.length_take]; rfl)) ?_;with_reducible refine (laws_eqChallenge.calls kj10 t471 t472 _ _ t473 _ _ t476 _ _ t479 t485 t486 _ _ t487 _ _ t490 _ _ t493 true _ ?side1 ?side2 ?side3 ?side4 ?side5 ?side6 ?side7 ?side8 ?side9 ?side10 ?side11 ?side12 A33.out).mono ?_
      (case side1 => exact Kd.C_mv (Kd.R_reads' HO_483002.out).2.2)
      (case side2 => exact (Kd.R_reads' HO_483002.out).2.1)
      (case side3 => exact Kd.C_mv (Kd.R_reads' HO_483003.out).2.2)
      (case side4 => exact (Kd.R_reads' HO_483003.out).2.1)
      (case side5 => exact Kd.C_mv (Kd.R_reads' HO_483004.out).2.2)
      (case side6 => exact (Kd.R_reads' HO_483004.out).2.1)
      (case side7 => exact Kd.C_mv (Kd.R_reads' HO489.out).2.2)
      (case side8 => exact (Kd.R_reads' HO489.out).2.1)
      (case side9 => exact Kd.C_mv (Kd.R_reads' HO492.out).2.2)
      (case side10 => exact (Kd.R_reads' HO492.out).2.1)
      (case side11 => exact Kd.C_mv (Kd.R_reads' HO495.out).2.2)
      (case side12 => exact (Kd.R_reads' HO495.out).2.1)
      rintro e w40 ⟨rfl, hb⟩;refine ⟨_, rfl, ?_⟩;refine ev9 (Kd.R_below (Kd.R_mv HO_483002.out) hb) (Kd.R_below (Kd.R_mv HO_483003.out) hb) (Kd.R_below (Kd.R_mv HO_483004.out) hb) (Kd.R_below (Kd.R_mv HO489.out) hb) (Kd.R_below (Kd.R_mv HO492.out) hb) (Kd.R_below (Kd.R_mv HO495.out) hb) (kb BK456 hb) (kb BK482 hb) (bs HB hb) ?_;clear HO_483002 HO_483003 HO_483004 HO489 HO492 HO495 BK456 BK482 HB;intro HO_483002 HO_483003 HO_483004 HO489 HO492 HO495 BK456 BK482 HB;(try clear hb);(try clear hb2);(try clear hk);(try clear hi);refine hK.out _ _ ⟨(blk_cell BK482.out 0).trans rfl, (blk_cell BK482.out 1).trans rfl, (blk_cell BK482.out 2).trans rfl, (blk_cell BK482.out 3).trans rfl, (blk_cell BK482.out 4).trans rfl, (blk_cell BK456.out 0).trans rfl, (blk_cell BK456.out 1).trans rfl, (blk_cell BK456.out 2).trans rfl, (blk_cell BK456.out 3).trans rfl, (blk_cell BK456.out 4).trans rfl⟩ (fun hHeld => ?_);clear hK K;refine norm_ (a' := ?_) ?_ ?_;rotate_left
      ·show Act.put _ (some 38) _ = _
       simp only [Act.put, za_, zb_, zc_, i64_w, i32_w];rfl
      refine pure_ (i := 4) (N := some 39) (v := ?_) (a' := ?_) #[Y,Y,Y,Y,Y] rfl rfl (by kernel_rfl) (fun _ _ _ h => h) (Or.inl ⟨by rfl, ?_⟩) ?_ ?_;rotate_left
      ·intro w';go_simp;with_reducible rfl
      rotate_left
      ·simp only [Act.put, za_, zb_, zc_, i64_w, i32_w];rfl
      refine done_ (by kernel_rfl) ?_;try go_wp2
      go_ret;exact ⟨by first | rfl | (simp [e0_, e1_] <;> rfl) | (simp [*, e0_, e1_] <;> rfl), bm HB⟩
     ·replace c34 := Bool.eq_false_iff.mpr c34;subst c34;have H1 : (some false) = some r := by rw [if_neg (show ¬ (false = true) by decide)] at H; exact H
      clear H;have H := H1;clear H1;exact absurd (H.trans (congrArg some HRT.out)) (by simp)
end Go.Proofs.Ytimeepcpgjnajaa.F
