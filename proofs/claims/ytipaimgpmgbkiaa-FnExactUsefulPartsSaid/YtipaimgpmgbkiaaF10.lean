-- Printed by a program; checked here.
import Derived.Test.YtipaimgpmgbkiaaF0
import Derived.Test.YtipaimgpmgbkiaaF2
import Derived.Test.YtipaimgpmgbkiaaF4
import Derived.Test.YtipaimgpmgbkiaaF5
import Derived.Test.YtipaimgpmgbkiaaF6
namespace Go.Proofs.Ytipaimgpmgbkiaa.F
open Go.RowKit Go.Proofs.YtipaimgpmgbkiaaV.PrintWords Go.Proofs.YtipaimgpmgbkiaaV.PrintLast Go.Proofs.YtipaimgpmgbkiaaV.PrintMore Go.Proofs.YtipaimgpmgbkiaaV.Sl Go.Proofs.YtipaimgpmgbkiaaV.Rf
attribute [local go_sem] max2_int min2_int max_two min_two max_three min_three max_four min_four ia_opt it_opt
attribute [local go_sem] Try.underlying4 Try.underlying23 Try.underlying25 Try.underlying29 Try.underlying31 Try.underlying42 Try.underlying50 Try.underlying85 Try.underlying88 Try.underlying89 Try.underlying106 Try.underlying122 Try.underlying127
set_option maxHeartbeats 8000000
set_option maxRecDepth 100000
set_option linter.unusedVariables false
set_option linter.unusedSimpArgs false

/-! ### spec_syCan: function 68 -/
def spec_syCan.l0:Nat→Int→Int→Int→List (S88)→List Int→List Int→Option (Bool)
 | 0,_,_,_,_,_,_=>none
 | k + 1,x3,x550000,x550001,x550002,x550003,x550004=>(spec_syTried.f k x550000 x550001 x550002 x550003 x550004).bind fun t550=>(if x3 < t550 then ((spec_syBoard.f k x550000 x550001 x550002 x550003 x550004 x3).bind fun bt551=>((spec_syMeets.f k x550000 x550001 x550002 x550003 x550004 bt551.1 bt551.2.1 bt551.2.2).bind fun t556=>(if t556 = true then (some true) else (spec_syCan.l0 k (wrap64 (x3 + 1)) x550000 x550001 x550002 x550003 x550004)))) else (some false))
def spec_syCan.f (k:Nat) (a0_0:Int) (a0_1:Int) (l0_2:List (S88)) (l0_3:List Int) (l0_4:List Int):Option (Bool):=spec_syCan.l0 k 0 a0_0 a0_1 l0_2 l0_3 l0_4
theorem spec_syCan.calls (k:Nat) (a0_0:Int) (a0_1:Int) (A0_2:Option Addr) (c0_2:Nat) (l0_2:List (S88)) (A0_3:Option Addr) (c0_3:Nat) (l0_3:List Int) (A0_4:Option Addr) (c0_4:Nat) (l0_4:List Int) (r:Bool) (w:World) (hr0_2:Kd.C k88 w A0_2 l0_2.length l0_2) (hc0_2:l0_2.length ≤ c0_2) (hr0_3:Kd.C (Kd.int .i64) w A0_3 l0_3.length l0_3) (hc0_3:l0_3.length ≤ c0_3) (hr0_4:Kd.C (Kd.int .i64) w A0_4 l0_4.length l0_4) (hc0_4:l0_4.length ≤ c0_4) (h:spec_syCan.f k a0_0 a0_1 l0_2 l0_3 l0_4 = some r) :
  Calls Try.prog 68 #[.agg #[.int .i64 a0_0,.int .i64 a0_1,.slice A0_2 l0_2.length c0_2,.slice A0_3 l0_3.length c0_3,.slice A0_4 l0_4.length c0_4]] w fun e w'=>e = .returned (.bool r)∧Below w.heap.size w w':=by
 have HR0_2:=Aside0.mk hr0_2;have HC0_2:=Aside0.mk hc0_2;clear hr0_2 hc0_2;have HR0_3:=Aside0.mk hr0_3;have HC0_3:=Aside0.mk hc0_3;clear hr0_3 hc0_3;have HR0_4:=Aside0.mk hr0_4;have HC0_4:=Aside0.mk hc0_4;clear hr0_4 hc0_4;have HB:=Aside0.mk (Below.refl w.heap.size w);have H:(spec_syCan.l0 k 0 a0_0 a0_1 l0_2 l0_3 l0_4) = some r:=h;clear h;have H':=Aside0.mk H;clear H;go_enter Try.func68,Try.ntmps68;go_wp2_with (first | ((with_reducible refine gate_dst (N:=1) rfl ?_);refine box_event ?hg (N:=1) ?hd (cs:=#[.int .i64 a0_0,.int .i64 a0_1,.slice A0_2 l0_2.length c0_2,.slice A0_3 l0_3.length c0_3,.slice A0_4 l0_4.length c0_4]) (t:=31) ?hr ?_;(case hd=>rfl);(case hg=>rfl);(case hr=>first | (go_simp;done) | (go_simp;rfl));intro gb549 hg w2 hbox hb;refine ev4 (bs HB hb) (hbox) (gle hg HB) (gle hg HB) ?_;clear HB;intro HB BK549 GW549 GE549;clear hb hbox hg))
 go_loopg [3] k (fun kq v3 w'=>∃ (x3_1:Int),v3 = .int .i64 x3_1∧Aside0 (spec_syCan.l0 kq x3_1 a0_0 a0_1 l0_2 l0_3 l0_4 = some r)∧Aside0 (kq ≤ k)∧Aside0 (w'.heap[gb549]? = some (.cells #[.int .i64 a0_0,.int .i64 a0_1,(.slice A0_2 l0_2.length c0_2),(.slice A0_3 l0_3.length c0_3),(.slice A0_4 l0_4.length c0_4)] 31 (0,0)))∧Aside0 (Below w.heap.size w w'))
 case atStart=>exact ⟨(0),(by first | rfl | (simp;done) | (simp [*];done)),H',⟨Nat.le_refl _⟩,⟨km_ BK549⟩,⟨bm HB⟩⟩
 case round =>
  clear H';(try clear p2);obtain ⟨x3_1,rfl,HA,HK1,BK549,HB⟩:=hrel;cases gk with
  | zero=>exact absurd HA.out (by simp [spec_syCan.l0])
  | succ k1 =>
   have H:=HA.out;clear HA;simp only [spec_syCan.l0] at H;replace H:=Option.bind_eq_some_iff.mp H;obtain ⟨t550,A30,H⟩:=H;(try dsimp only at H)
   have A3:=Aside0.mk A30;clear A30;by_cases c4:x3_1 < t550
   ·rw [if_pos c4] at H;have c4b0:decide (x3_1 < t550) = true:=decide_eq_true c4;clear c4;replace H:=Option.bind_eq_some_iff.mp H;obtain ⟨⟨t551,t552,t553⟩,A50,H⟩:=H;(try dsimp only at H)
    have A5:=Aside0.mk A50;clear A50;replace H:=Option.bind_eq_some_iff.mp H;obtain ⟨t556,A60,H⟩:=H;(try dsimp only at H)
    have A6:=Aside0.mk A60;clear A60;by_cases c7:t556 = true
    ·subst c7;have H1:(some true) = some r:=by rw [if_pos rfl] at H;exact H
     clear H;have H:=H1;clear H1;obtain rfl:=Option.some.inj H;obtain ⟨hcz8_0,hcz8_1,hcz8_2,hcz8_3,hcz8_4,hfz8_0,hfz8_1,hfz8_2,hfz8_3,hfz8_4⟩:=bt5 BK549;try go_wp2_with (first | ((with_reducible refine gate_callee (f:=103) rfl ?_);refine gL_ (some 6) Try.func103 #[.agg #[.int .i64 a0_0,.int .i64 a0_1,.slice A0_2 l0_2.length c0_2,.slice A0_3 l0_3.length c0_3,.slice A0_4 l0_4.length c0_4]] (h:=?_);(with_reducible refine (spec_syTried.calls k1 a0_0 a0_1 _ _ l0_2 _ _ l0_3 _ _ l0_4 t550 _ (Kd.C_mv (Kd.C_below HR0_2.out HB.out)) HC0_2.out (Kd.C_mv (Kd.C_below HR0_3.out HB.out)) HC0_3.out (Kd.C_mv (Kd.C_below HR0_4.out HB.out)) HC0_4.out A3.out).mono ?_);rintro e w9 ⟨rfl,hb⟩;refine ⟨_,rfl,?_⟩;refine ev2 (kb BK549 hb) (bs HB hb) ?_;clear BK549 HB;intro BK549 HB;(try clear hb)))
     refine ev2 (blk_drew BK549.out) (below_drew1 HB.out) ?_;clear BK549 HB;intro BK549 HB;refine start_ (n:=5) (S:=fun w'=>w'.cell? ⟨gb549,0,none⟩ = some (.int .i64 a0_0)∧w'.cell? ⟨gb549,1,none⟩ = some (.int .i64 a0_1)∧w'.cell? ⟨gb549,2,none⟩ = some (.slice A0_2 l0_2.length c0_2)∧w'.cell? ⟨gb549,3,none⟩ = some (.slice A0_3 l0_3.length c0_3)∧w'.cell? ⟨gb549,4,none⟩ = some (.slice A0_4 l0_4.length c0_4)) (ds:=[]) #[Z,Z,Z,Z,Z] (by kernel_rfl) rfl rfl ⟨(blk_cell BK549.out 0).trans rfl,(blk_cell BK549.out 1).trans rfl,(blk_cell BK549.out 2).trans rfl,(blk_cell BK549.out 3).trans rfl,(blk_cell BK549.out 4).trans rfl⟩ (fun hHeld=>?_);generalize w9.drew = w10 at BK549 HB hHeld ⊢
     refine pure_ (i:=2) (N:=some 12) (v:=?_) (a':=?_) #[Z,Z,Y,Z,Z] rfl rfl (by kernel_rfl) (fun _ _ _ h=>h) (Or.inl ⟨by rfl,?_⟩) ?_ ?_;rotate_left
     ·intro w';go_simp;with_reducible rfl
     rotate_left
     ·simp only [Act.put,za_,zb_,zc_,i64_w,i32_w];rfl
     refine take_ (i:=0) (N:=some 10) (v:=?_) (a':=?_) #[Y,Z,Y,Z,Z] rfl rfl (by kernel_rfl) (fun _ _ _ h=>h) (Or.inl ⟨by rfl,?_⟩) hHeld ?_ ?_;rotate_left
     ·rintro w' ⟨s0,s1,s2,s3,s4⟩;go_simp;with_reducible rfl
     rotate_left
     ·simp only [Act.put,za_,zb_,zc_,i64_w,i32_w];rfl
     refine take_ (i:=1) (N:=some 11) (v:=?_) (a':=?_) #[Y,Y,Y,Z,Z] rfl rfl (by kernel_rfl) (fun _ _ _ h=>h) (Or.inl ⟨by rfl,?_⟩) hHeld ?_ ?_;rotate_left
     ·rintro w' ⟨s0,s1,s2,s3,s4⟩;go_simp;with_reducible rfl
     rotate_left
     ·simp only [Act.put,za_,zb_,zc_,i64_w,i32_w];rfl
     refine one_ (i:=3) (N:=some 13) #[Y,Y,Y,Y,Z] rfl rfl (by kernel_rfl) (by decide) (fun K hK=>?_);refine goes_ Try.func84 (by kernel_rfl) rfl #[.agg #[.int .i64 a0_0,.int .i64 a0_1,.slice A0_2 l0_2.length c0_2,.slice A0_3 l0_3.length c0_3,.slice A0_4 l0_4.length c0_4],.int .i64 x3_1] (by rfl) rfl rfl (by (try simp only [ma_,mb_,mc_]);first | done | rfl | (simp only [List.length_drop,List.length_take];rfl)) ?_;with_reducible refine (spec_syBoard.calls k1 a0_0 a0_1 _ _ l0_2 _ _ l0_3 _ _ l0_4 x3_1 t551 t552 t553 _ ?side1 ?side2 ?side3 ?side4 ?side5 ?side6 A5.out).mono ?_
     (case side1=>exact Kd.C_mv (Kd.C_below HR0_2.out HB.out))
     (case side2=>exact HC0_2.out)
     (case side3=>exact Kd.C_mv (Kd.C_below HR0_3.out HB.out))
     (case side4=>exact HC0_3.out)
     (case side5=>exact Kd.C_mv (Kd.C_below HR0_4.out HB.out))
     (case side6=>exact HC0_4.out)
     rintro e w11 ⟨v554,rfl,ho0,hb⟩;refine ⟨_,rfl,?_⟩;refine ev3 (Kd.R_lower ho0 (below_size (bm HB))) (kb BK549 hb) (bs HB hb) ?_;clear BK549 HB;intro HO555 BK549 HB;(try clear hb);(try clear ho0);obtain ⟨Ao12,co12,eo12⟩:=Kd.R_slice HO555.out;(first | subst eo12 | (injection eo12 with f1_ f2_ f3_;have f4_:=f1_.symm;have f5_:=f3_.symm;clear f1_ f2_ f3_;subst f4_;subst f5_))
     refine hK.out _ _ ⟨(blk_cell BK549.out 0).trans rfl,(blk_cell BK549.out 1).trans rfl,(blk_cell BK549.out 2).trans rfl,(blk_cell BK549.out 3).trans rfl,(blk_cell BK549.out 4).trans rfl⟩ (fun hHeld=>?_);clear hK K;refine norm_ (a':=?_) ?_ ?_;rotate_left
     ·show Act.put _ (some 13) _ = _
      simp only [Act.put,za_,zb_,zc_,i64_w,i32_w];rfl
     refine one_ (i:=4) (N:=some 14) #[Y,Y,Y,Y,Y] rfl rfl (by kernel_rfl) (by decide) (fun K hK=>?_);refine goes_ Try.func104 (by kernel_rfl) rfl #[.agg #[.int .i64 a0_0,.int .i64 a0_1,.slice A0_2 l0_2.length c0_2,.slice A0_3 l0_3.length c0_3,.slice A0_4 l0_4.length c0_4],.agg #[.int .i64 t551,.int .i64 t552,.slice Ao12 t553.length co12]] (by rfl) rfl rfl (by (try simp only [ma_,mb_,mc_]);first | done | rfl | (simp only [List.length_drop,List.length_take];rfl)) ?_;with_reducible refine (spec_syMeets.calls k1 a0_0 a0_1 _ _ l0_2 _ _ l0_3 _ _ l0_4 t551 t552 (fun k_=>some k_ = (.slice Ao12 t553.length co12:Value).ownBlock) _ _ t553 true _ ?side1 ?side2 ?side3 ?side4 ?side5 ?side6 ?side7 A6.out).mono ?_
     (case side1=>exact Kd.C_mv (Kd.C_below HR0_2.out HB.out))
     (case side2=>exact HC0_2.out)
     (case side3=>exact Kd.C_mv (Kd.C_below HR0_3.out HB.out))
     (case side4=>exact HC0_3.out)
     (case side5=>exact Kd.C_mv (Kd.C_below HR0_4.out HB.out))
     (case side6=>exact HC0_4.out)
     (case side7=>exact Kd.R_V (Kd.R_tight rfl (Kd.R_types (HO555.out) BK549.out (by decide))))
     rintro e w13 ⟨rfl,hb⟩;refine ⟨_,rfl,?_⟩;refine ev3 (Kd.R_below (Kd.R_mv HO555.out) hb) (kb BK549 hb) (bs HB hb) ?_;clear HO555 BK549 HB;intro HO555 BK549 HB;(try clear hb);refine hK.out _ _ ⟨(blk_cell BK549.out 0).trans rfl,(blk_cell BK549.out 1).trans rfl,(blk_cell BK549.out 2).trans rfl,(blk_cell BK549.out 3).trans rfl,(blk_cell BK549.out 4).trans rfl⟩ (fun hHeld=>?_);clear hK K;refine norm_ (a':=?_) ?_ ?_;rotate_left
     ·show Act.put _ (some 14) _ = _
      simp only [Act.put,za_,zb_,zc_,i64_w,i32_w];rfl
     refine done_ (by kernel_rfl) ?_;try go_wp2
     go_ret;exact ⟨by first | rfl | (simp [e0_,e1_] <;> rfl) | (simp [*,e0_,e1_] <;> rfl),bm HB⟩
    ·replace c7:=Bool.eq_false_iff.mpr c7;subst c7;have H1:(spec_syCan.l0 k1 (wrap64 (x3_1 + 1)) a0_0 a0_1 l0_2 l0_3 l0_4) = some r:=by rw [if_neg (show ¬ (false = true) by decide)] at H;exact H
     clear H;have H:=H1;clear H1;have H':=Aside0.mk H;clear H;obtain ⟨hcz14_0,hcz14_1,hcz14_2,hcz14_3,hcz14_4,hfz14_0,hfz14_1,hfz14_2,hfz14_3,hfz14_4⟩:=bt5 BK549;try go_wp2_with (first | ((with_reducible refine gate_callee (f:=103) rfl ?_);refine gL_ (some 6) Try.func103 #[.agg #[.int .i64 a0_0,.int .i64 a0_1,.slice A0_2 l0_2.length c0_2,.slice A0_3 l0_3.length c0_3,.slice A0_4 l0_4.length c0_4]] (h:=?_);(with_reducible refine (spec_syTried.calls k1 a0_0 a0_1 _ _ l0_2 _ _ l0_3 _ _ l0_4 t550 _ (Kd.C_mv (Kd.C_below HR0_2.out HB.out)) HC0_2.out (Kd.C_mv (Kd.C_below HR0_3.out HB.out)) HC0_3.out (Kd.C_mv (Kd.C_below HR0_4.out HB.out)) HC0_4.out A3.out).mono ?_);rintro e w15 ⟨rfl,hb⟩;refine ⟨_,rfl,?_⟩;refine ev2 (kb BK549 hb) (bs HB hb) ?_;clear BK549 HB;intro BK549 HB;(try clear hb)))
     refine ev2 (blk_drew BK549.out) (below_drew1 HB.out) ?_;clear BK549 HB;intro BK549 HB;refine start_ (n:=5) (S:=fun w'=>w'.cell? ⟨gb549,0,none⟩ = some (.int .i64 a0_0)∧w'.cell? ⟨gb549,1,none⟩ = some (.int .i64 a0_1)∧w'.cell? ⟨gb549,2,none⟩ = some (.slice A0_2 l0_2.length c0_2)∧w'.cell? ⟨gb549,3,none⟩ = some (.slice A0_3 l0_3.length c0_3)∧w'.cell? ⟨gb549,4,none⟩ = some (.slice A0_4 l0_4.length c0_4)) (ds:=[]) #[Z,Z,Z,Z,Z] (by kernel_rfl) rfl rfl ⟨(blk_cell BK549.out 0).trans rfl,(blk_cell BK549.out 1).trans rfl,(blk_cell BK549.out 2).trans rfl,(blk_cell BK549.out 3).trans rfl,(blk_cell BK549.out 4).trans rfl⟩ (fun hHeld=>?_);generalize w15.drew = w16 at BK549 HB hHeld ⊢
     refine pure_ (i:=2) (N:=some 12) (v:=?_) (a':=?_) #[Z,Z,Y,Z,Z] rfl rfl (by kernel_rfl) (fun _ _ _ h=>h) (Or.inl ⟨by rfl,?_⟩) ?_ ?_;rotate_left
     ·intro w';go_simp;with_reducible rfl
     rotate_left
     ·simp only [Act.put,za_,zb_,zc_,i64_w,i32_w];rfl
     refine take_ (i:=0) (N:=some 10) (v:=?_) (a':=?_) #[Y,Z,Y,Z,Z] rfl rfl (by kernel_rfl) (fun _ _ _ h=>h) (Or.inl ⟨by rfl,?_⟩) hHeld ?_ ?_;rotate_left
     ·rintro w' ⟨s0,s1,s2,s3,s4⟩;go_simp;with_reducible rfl
     rotate_left
     ·simp only [Act.put,za_,zb_,zc_,i64_w,i32_w];rfl
     refine take_ (i:=1) (N:=some 11) (v:=?_) (a':=?_) #[Y,Y,Y,Z,Z] rfl rfl (by kernel_rfl) (fun _ _ _ h=>h) (Or.inl ⟨by rfl,?_⟩) hHeld ?_ ?_;rotate_left
     ·rintro w' ⟨s0,s1,s2,s3,s4⟩;go_simp;with_reducible rfl
     rotate_left
     ·simp only [Act.put,za_,zb_,zc_,i64_w,i32_w];rfl
     refine one_ (i:=3) (N:=some 13) #[Y,Y,Y,Y,Z] rfl rfl (by kernel_rfl) (by decide) (fun K hK=>?_);refine goes_ Try.func84 (by kernel_rfl) rfl #[.agg #[.int .i64 a0_0,.int .i64 a0_1,.slice A0_2 l0_2.length c0_2,.slice A0_3 l0_3.length c0_3,.slice A0_4 l0_4.length c0_4],.int .i64 x3_1] (by rfl) rfl rfl (by (try simp only [ma_,mb_,mc_]);first | done | rfl | (simp only [List.length_drop,List.length_take];rfl)) ?_;with_reducible refine (spec_syBoard.calls k1 a0_0 a0_1 _ _ l0_2 _ _ l0_3 _ _ l0_4 x3_1 t551 t552 t553 _ ?side1 ?side2 ?side3 ?side4 ?side5 ?side6 A5.out).mono ?_
     (case side1=>exact Kd.C_mv (Kd.C_below HR0_2.out HB.out))
     (case side2=>exact HC0_2.out)
     (case side3=>exact Kd.C_mv (Kd.C_below HR0_3.out HB.out))
     (case side4=>exact HC0_3.out)
     (case side5=>exact Kd.C_mv (Kd.C_below HR0_4.out HB.out))
     (case side6=>exact HC0_4.out)
     rintro e w17 ⟨v554,rfl,ho0,hb⟩;refine ⟨_,rfl,?_⟩;refine ev3 (Kd.R_lower ho0 (below_size (bm HB))) (kb BK549 hb) (bs HB hb) ?_;clear BK549 HB;intro HO555 BK549 HB;(try clear hb);(try clear ho0);obtain ⟨Ao18,co18,eo18⟩:=Kd.R_slice HO555.out;(first | subst eo18 | (injection eo18 with f1_ f2_ f3_;have f4_:=f1_.symm;have f5_:=f3_.symm;clear f1_ f2_ f3_;subst f4_;subst f5_))
     refine hK.out _ _ ⟨(blk_cell BK549.out 0).trans rfl,(blk_cell BK549.out 1).trans rfl,(blk_cell BK549.out 2).trans rfl,(blk_cell BK549.out 3).trans rfl,(blk_cell BK549.out 4).trans rfl⟩ (fun hHeld=>?_);clear hK K;refine norm_ (a':=?_) ?_ ?_;rotate_left
     ·show Act.put _ (some 13) _ = _
      simp only [Act.put,za_,zb_,zc_,i64_w,i32_w];rfl
     refine one_ (i:=4) (N:=some 14) #[Y,Y,Y,Y,Y] rfl rfl (by kernel_rfl) (by decide) (fun K hK=>?_);refine goes_ Try.func104 (by kernel_rfl) rfl #[.agg #[.int .i64 a0_0,.int .i64 a0_1,.slice A0_2 l0_2.length c0_2,.slice A0_3 l0_3.length c0_3,.slice A0_4 l0_4.length c0_4],.agg #[.int .i64 t551,.int .i64 t552,.slice Ao18 t553.length co18]] (by rfl) rfl rfl (by (try simp only [ma_,mb_,mc_]);first | done | rfl | (simp only [List.length_drop,List.length_take];rfl)) ?_;with_reducible refine (spec_syMeets.calls k1 a0_0 a0_1 _ _ l0_2 _ _ l0_3 _ _ l0_4 t551 t552 (fun k_=>some k_ = (.slice Ao18 t553.length co18:Value).ownBlock) _ _ t553 false _ ?side1 ?side2 ?side3 ?side4 ?side5 ?side6 ?side7 A6.out).mono ?_
     (case side1=>exact Kd.C_mv (Kd.C_below HR0_2.out HB.out))
     (case side2=>exact HC0_2.out)
     (case side3=>exact Kd.C_mv (Kd.C_below HR0_3.out HB.out))
     (case side4=>exact HC0_3.out)
     (case side5=>exact Kd.C_mv (Kd.C_below HR0_4.out HB.out))
     (case side6=>exact HC0_4.out)
     (case side7=>exact Kd.R_V (Kd.R_tight rfl (Kd.R_types (HO555.out) BK549.out (by decide))))
     rintro e w19 ⟨rfl,hb⟩;refine ⟨_,rfl,?_⟩;refine ev3 (Kd.R_below (Kd.R_mv HO555.out) hb) (kb BK549 hb) (bs HB hb) ?_;clear HO555 BK549 HB;intro HO555 BK549 HB;(try clear hb);refine hK.out _ _ ⟨(blk_cell BK549.out 0).trans rfl,(blk_cell BK549.out 1).trans rfl,(blk_cell BK549.out 2).trans rfl,(blk_cell BK549.out 3).trans rfl,(blk_cell BK549.out 4).trans rfl⟩ (fun hHeld=>?_);clear hK K;refine norm_ (a':=?_) ?_ ?_;rotate_left
     ·show Act.put _ (some 14) _ = _
      simp only [Act.put,za_,zb_,zc_,i64_w,i32_w];rfl
     refine done_ (by kernel_rfl) ?_;try go_wp2
     go_roundg k1
     case measure=>have:=HK1.out;omega
     case rel=>exact ⟨(wrap64 (x3_1 + 1)),(by first | rfl | (simp;done) | (simp [*];done)),H',⟨by have:=HK1.out;omega⟩,⟨km_ BK549⟩,⟨bm HB⟩⟩
   ·rw [if_neg c4] at H;have c4b0:decide (x3_1 < t550) = false:=decide_eq_false c4;clear c4;obtain rfl:=Option.some.inj H;obtain ⟨hcz20_0,hcz20_1,hcz20_2,hcz20_3,hcz20_4,hfz20_0,hfz20_1,hfz20_2,hfz20_3,hfz20_4⟩:=bt5 BK549;go_wp2_with (first | ((with_reducible refine gate_callee (f:=103) rfl ?_);refine gL_ (some 6) Try.func103 #[.agg #[.int .i64 a0_0,.int .i64 a0_1,.slice A0_2 l0_2.length c0_2,.slice A0_3 l0_3.length c0_3,.slice A0_4 l0_4.length c0_4]] (h:=?_);(with_reducible refine (spec_syTried.calls k1 a0_0 a0_1 _ _ l0_2 _ _ l0_3 _ _ l0_4 t550 _ (Kd.C_mv (Kd.C_below HR0_2.out HB.out)) HC0_2.out (Kd.C_mv (Kd.C_below HR0_3.out HB.out)) HC0_3.out (Kd.C_mv (Kd.C_below HR0_4.out HB.out)) HC0_4.out A3.out).mono ?_);rintro e w21 ⟨rfl,hb⟩;refine ⟨_,rfl,?_⟩;refine ev2 (kb BK549 hb) (bs HB hb) ?_;clear BK549 HB;intro BK549 HB;(try clear hb)))
    go_ret;exact ⟨by first | rfl | (simp [e0_,e1_] <;> rfl) | (simp [*,e0_,e1_] <;> rfl),bm HB⟩

/-! ### spec_UsefulParts: function 19 -/
mutual
def spec_UsefulParts.j0:Nat→Bool→Int→Int→List (S88)→List Int→List Int→Option (List Int × Bool)
 | 0,_,_,_,_,_,_=>none
 | k + 1,x14,x558000,x558001,x558002,x558003,x558004=>if x14 = true then (some (([]:List Int),false)) else (spec_UsefulParts.l0 k ([]:List Int) (x558002.length:Int) 0 x558000 x558001 x558002 x558003 x558004)
def spec_UsefulParts.l0:Nat→List Int→Int→Int→Int→Int→List (S88)→List Int→List Int→Option (List Int × Bool)
 | 0,_,_,_,_,_,_,_,_=>none
 | k + 1,x4,x17,x18,x558000,x558001,x558002,x558003,x558004=>if x18 < x17 then ((some (([]:List (S88)):List (S88))).bind fun y561=>(if 0 ≤ x18 then (if x18 ≤ (x558002.length:Int) then ((some (x558002.take (x18:Int).toNat:List (S88))).bind fun y564=>(if y561.length + y564.length < 8796093022208 then ((some (y561 ++ y564:List (S88))).bind fun y568=>(if 0 ≤ (wrap64 (x18 + 1)) then (if (wrap64 (x18 + 1)) ≤ (x558002.length:Int) then ((some (x558002.drop ((wrap64 (x18 + 1)):Int).toNat:List (S88))).bind fun y571=>(if y568.length + y571.length < 8796093022208 then ((spec_syCan.f k x558000 x558001 (y568 ++ y571) x558003 x558004).bind fun t578=>(if t578 = true then (spec_UsefulParts.l0 k x4 x17 (wrap64 (x18 + 1)) x558000 x558001 x558002 x558003 x558004) else (if x4.length < 17592186044416 then (spec_UsefulParts.l0 k (x4 ++ [x18]) x17 (wrap64 (x18 + 1)) x558000 x558001 x558002 x558003 x558004) else (none)))) else (none))) else (none)) else (none))) else (none))) else (none)) else (none))) else (some (x4,true))
end
def spec_UsefulParts.f (k:Nat) (a0_0:Int) (a0_1:Int) (l0_2:List (S88)) (l0_3:List Int) (l0_4:List Int):Option (List Int × Bool):=(spec_syGood.f k a0_0 a0_1 l0_2 l0_3 l0_4).bind fun t558=>(if t558 = true then ((spec_syCan.f k a0_0 a0_1 l0_2 l0_3 l0_4).bind fun t559=>(spec_UsefulParts.j0 k (!t559) a0_0 a0_1 l0_2 l0_3 l0_4)) else (spec_UsefulParts.j0 k true a0_0 a0_1 l0_2 l0_3 l0_4))
def spec_UsefulParts.T8:Bool × List (List Nat × List Nat):=(true,[([],[]),([],[]),([1],[1]),([],[]),([2,3],[2,3]),([0,4],[0,4]),([],[]),([6],[6]),([],[]),([8],[8]),([7,9],[7,9]),([5,10,5],[5,10]),([0,1,2,3,4,5,6,7,8,9,10,11],[]),([12,11,11,0,1,2,3,4,5,6,7,8,9,10,11],[11,12])])
def spec_UsefulParts.B8:List Nat:=[0,0,2,0,14,31,0,64,0,256,960,2047,4095,8191]
theorem spec_UsefulParts.tab8:rtab .any (opsOf Try.f19 8) = spec_UsefulParts.T8:=by kernel_rfl
theorem spec_UsefulParts.bits8:waitsOk spec_UsefulParts.T8.2 spec_UsefulParts.B8 = true:=by kernel_rfl
theorem spec_UsefulParts.calls (k:Nat) (a0_0:Int) (a0_1:Int) (A0_2:Option Addr) (c0_2:Nat) (l0_2:List (S88)) (A0_3:Option Addr) (c0_3:Nat) (l0_3:List Int) (A0_4:Option Addr) (c0_4:Nat) (l0_4:List Int) (r1:List Int) (r2:Bool) (w:World) (hr0_2:Kd.C k88 w A0_2 l0_2.length l0_2) (hc0_2:l0_2.length ≤ c0_2) (hr0_3:Kd.C (Kd.int .i64) w A0_3 l0_3.length l0_3) (hc0_3:l0_3.length ≤ c0_3) (hr0_4:Kd.C (Kd.int .i64) w A0_4 l0_4.length l0_4) (hc0_4:l0_4.length ≤ c0_4) (h:spec_UsefulParts.f k a0_0 a0_1 l0_2 l0_3 l0_4 = some (r1,r2)) :
  Calls Try.prog 19 #[.agg #[.int .i64 a0_0,.int .i64 a0_1,.slice A0_2 l0_2.length c0_2,.slice A0_3 l0_3.length c0_3,.slice A0_4 l0_4.length c0_4]] w fun e w'=>∃ v0_:Value,e = .returned (.tuple #[v0_,.bool r2])∧Kd.R (Kd.int .i64) 3 w' w.heap.size (fun _=>True) v0_ r1∧Below w.heap.size w w':=by
 have HR0_2:=Aside0.mk hr0_2;have HC0_2:=Aside0.mk hc0_2;clear hr0_2 hc0_2;have HR0_3:=Aside0.mk hr0_3;have HC0_3:=Aside0.mk hc0_3;clear hr0_3 hc0_3;have HR0_4:=Aside0.mk hr0_4;have HC0_4:=Aside0.mk hc0_4;clear hr0_4 hc0_4;have HB:=Aside0.mk (Below.refl w.heap.size w);have H:((spec_syGood.f k a0_0 a0_1 l0_2 l0_3 l0_4).bind fun t558=>(if t558 = true then ((spec_syCan.f k a0_0 a0_1 l0_2 l0_3 l0_4).bind fun t559=>(spec_UsefulParts.j0 k (!t559) a0_0 a0_1 l0_2 l0_3 l0_4)) else (spec_UsefulParts.j0 k true a0_0 a0_1 l0_2 l0_3 l0_4))) = some (r1,r2):=h;clear h;have HC2:=Aside0.mk H;clear H;go_enter Try.func19,Try.ntmps19;go_upto_region 1 with (first | ((with_reducible refine gate_dst (N:=1) rfl ?_);refine box_event ?hg (N:=1) ?hd (cs:=#[.int .i64 a0_0,.int .i64 a0_1,.slice A0_2 l0_2.length c0_2,.slice A0_3 l0_3.length c0_3,.slice A0_4 l0_4.length c0_4]) (t:=31) ?hr ?_;(case hd=>rfl);(case hg=>rfl);(case hr=>first | (go_simp;done) | (go_simp;rfl));intro gb557 hg w3 hbox hb;refine ev4 (bs HB hb) (hbox) (gle hg HB) (gle hg HB) ?_;clear HB;intro HB BK557 GW557 GE557;clear hb hbox hg))
 (try simp only [Act.put,za_,zb_,zc_])
 go_cut [14] (fun v14 wc=>∃ (kq:Nat) (x14_1:Bool),v14 = .bool x14_1∧Aside0 (spec_UsefulParts.j0 kq x14_1 a0_0 a0_1 l0_2 l0_3 l0_4 = some (r1,r2))∧Aside0 (kq ≤ k)∧Aside0 (wc.heap[gb557]? = some (.cells #[.int .i64 a0_0,.int .i64 a0_1,(.slice A0_2 l0_2.length c0_2),(.slice A0_3 l0_3.length c0_3),(.slice A0_4 l0_4.length c0_4)] 31 (0,0)))∧Aside0 (Below w.heap.size w wc))
 case first =>
  have H:=HC2.out;clear HC2;replace H:=Option.bind_eq_some_iff.mp H;obtain ⟨t558,A40,H⟩:=H;(try dsimp only at H)
  have A4:=Aside0.mk A40;clear A40;by_cases c5:t558 = true
  ·subst c5;have H1:((spec_syCan.f k a0_0 a0_1 l0_2 l0_3 l0_4).bind fun t559=>(spec_UsefulParts.j0 k (!t559) a0_0 a0_1 l0_2 l0_3 l0_4)) = some (r1,r2):=by rw [if_pos rfl] at H;exact H
   clear H;have H:=H1;clear H1;replace H:=Option.bind_eq_some_iff.mp H;obtain ⟨t559,A60,H⟩:=H;(try dsimp only at H)
   have A6:=Aside0.mk A60;clear A60;have H':=Aside0.mk H;clear H;obtain ⟨hcz7_0,hcz7_1,hcz7_2,hcz7_3,hcz7_4,hfz7_0,hfz7_1,hfz7_2,hfz7_3,hfz7_4⟩:=bt5 BK557;go_wp2_with (first | ((with_reducible refine gate_callee (f:=67) rfl ?_);refine gL_ (some 8) Try.func67 #[.agg #[.int .i64 a0_0,.int .i64 a0_1,.slice A0_2 l0_2.length c0_2,.slice A0_3 l0_3.length c0_3,.slice A0_4 l0_4.length c0_4]] (h:=?_);(with_reducible refine (spec_syGood.calls k a0_0 a0_1 _ _ l0_2 _ _ l0_3 _ _ l0_4 true _ (Kd.C_mv (Kd.C_below HR0_2.out HB.out)) HC0_2.out (Kd.C_mv (Kd.C_below HR0_3.out HB.out)) HC0_3.out (Kd.C_mv (Kd.C_below HR0_4.out HB.out)) HC0_4.out A4.out).mono ?_);rintro e w8 ⟨rfl,hb⟩;refine ⟨_,rfl,?_⟩;refine ev2 (kb BK557 hb) (bs HB hb) ?_;clear BK557 HB;intro BK557 HB;(try clear hb);obtain ⟨hcz9_0,hcz9_1,hcz9_2,hcz9_3,hcz9_4,hfz9_0,hfz9_1,hfz9_2,hfz9_3,hfz9_4⟩:=bt5 BK557) | (go_at_call 68;(with_reducible refine (spec_syCan.calls k a0_0 a0_1 _ _ l0_2 _ _ l0_3 _ _ l0_4 t559 _ (Kd.C_mv (Kd.C_below HR0_2.out HB.out)) HC0_2.out (Kd.C_mv (Kd.C_below HR0_3.out HB.out)) HC0_3.out (Kd.C_mv (Kd.C_below HR0_4.out HB.out)) HC0_4.out A6.out).mono ?_);rintro e w10 ⟨rfl,hb⟩;refine ev2 (kb BK557 hb) (bs HB hb) ?_;clear BK557 HB;intro BK557 HB;(try clear hb)))
   go_meet
   case rel=>exact ⟨_,(!t559),(by first | rfl | (simp;done) | (simp [*];done)),H',⟨by first | omega | exact Nat.le_refl _⟩,⟨km_ BK557⟩,⟨bm HB⟩⟩
  ·replace c5:=Bool.eq_false_iff.mpr c5;subst c5;have H1:(spec_UsefulParts.j0 k true a0_0 a0_1 l0_2 l0_3 l0_4) = some (r1,r2):=by rw [if_neg (show ¬ (false = true) by decide)] at H;exact H
   clear H;have H:=H1;clear H1;have H':=Aside0.mk H;clear H;obtain ⟨hcz11_0,hcz11_1,hcz11_2,hcz11_3,hcz11_4,hfz11_0,hfz11_1,hfz11_2,hfz11_3,hfz11_4⟩:=bt5 BK557;go_wp2_with (first | ((with_reducible refine gate_callee (f:=67) rfl ?_);refine gL_ (some 8) Try.func67 #[.agg #[.int .i64 a0_0,.int .i64 a0_1,.slice A0_2 l0_2.length c0_2,.slice A0_3 l0_3.length c0_3,.slice A0_4 l0_4.length c0_4]] (h:=?_);(with_reducible refine (spec_syGood.calls k a0_0 a0_1 _ _ l0_2 _ _ l0_3 _ _ l0_4 false _ (Kd.C_mv (Kd.C_below HR0_2.out HB.out)) HC0_2.out (Kd.C_mv (Kd.C_below HR0_3.out HB.out)) HC0_3.out (Kd.C_mv (Kd.C_below HR0_4.out HB.out)) HC0_4.out A4.out).mono ?_);rintro e w12 ⟨rfl,hb⟩;refine ⟨_,rfl,?_⟩;refine ev2 (kb BK557 hb) (bs HB hb) ?_;clear BK557 HB;intro BK557 HB;(try clear hb)))
   go_meet
   case rel=>exact ⟨_,(true),(by first | rfl | (simp;done) | (simp [*];done)),H',⟨by first | omega | exact Nat.le_refl _⟩,⟨km_ BK557⟩,⟨bm HB⟩⟩
 case rest =>
  clear HC2;(try clear c1);obtain ⟨kq,x14_1,rfl,HA,HJ1,BK557,HB⟩:=hcut;cases kq with
  | zero=>exact absurd HA.out (by simp [spec_UsefulParts.j0])
  | succ kj1 =>
   have H:=HA.out;clear HA;simp only [spec_UsefulParts.j0] at H;by_cases c13:x14_1 = true
   ·subst c13;have H1:(some (([]:List Int),false)) = some (r1,r2):=by rw [if_pos rfl] at H;exact H
    clear H;have H:=H1;clear H1;simp only [Option.some.injEq,Prod.mk.injEq] at H;obtain ⟨rfl,rfl⟩:=H;go_wp2;go_ret2
    exact ⟨_,by first | rfl | (simp [e0_,e1_] <;> rfl) | (simp [*,e0_,e1_] <;> rfl),by first | exact Kd.R_nil _ _ _ _ _ | exact Kd.N_nil _ _ _ _ _ | exact Kd.V_nil _ _ _ _ _ | exact Kd.Q_nil _ _ _ _ _ | exact Kd.S_nil _ _ _ _ _,bm HB⟩
   ·replace c13:=Bool.eq_false_iff.mpr c13;subst c13;have H1:(spec_UsefulParts.l0 kj1 ([]:List Int) (l0_2.length:Int) 0 a0_0 a0_1 l0_2 l0_3 l0_4) = some (r1,r2):=by rw [if_neg (show ¬ (false = true) by decide)] at H;exact H
    clear H;have H:=H1;clear H1;have H':=Aside0.mk H;clear H;obtain ⟨hcz14_0,hcz14_1,hcz14_2,hcz14_3,hcz14_4,hfz14_0,hfz14_1,hfz14_2,hfz14_3,hfz14_4⟩:=bt5 BK557;go_wp2;go_loopg [4,18] kj1 (fun kq v4 v18 w'=>∃ (x4_2:List Int) (x18_2:Int),v18 = .int .i64 x18_2∧Aside0 (spec_UsefulParts.l0 kq x4_2 (l0_2.length:Int) x18_2 a0_0 a0_1 l0_2 l0_3 l0_4 = some (r1,r2))∧Aside0 (kq ≤ kj1)∧Aside0 (Kd.R (Kd.int .i64) 3 w' w.heap.size (fun _=>True) v4 x4_2)∧Aside0 (w'.heap[gb557]? = some (.cells #[.int .i64 a0_0,.int .i64 a0_1,(.slice A0_2 l0_2.length c0_2),(.slice A0_3 l0_3.length c0_3),(.slice A0_4 l0_4.length c0_4)] 31 (0,0)))∧Aside0 (Below w.heap.size w w'))
    case atStart=>exact ⟨(([]:List Int)),(0),(by first | rfl | (simp;done) | (simp [*];done)),H',⟨Nat.le_refl _⟩,⟨by first | exact Kd.R_nil _ _ _ _ _ | exact Kd.N_nil _ _ _ _ _ | exact Kd.V_nil _ _ _ _ _ | exact Kd.Q_nil _ _ _ _ _ | exact Kd.S_nil _ _ _ _ _⟩,⟨km_ BK557⟩,⟨bm HB⟩⟩
    case round =>
     clear H';(try clear c1);(try clear p2);(try clear c13);(try clear hcz14_0 hcz14_1 hcz14_2 hcz14_3 hcz14_4 hfz14_0 hfz14_1 hfz14_2 hfz14_3 hfz14_4);obtain ⟨x4_2,x18_2,rfl,HA,HK2,HO_4,BK557,HB⟩:=hrel;cases gk with
     | zero=>exact absurd HA.out (by simp [spec_UsefulParts.l0])
     | succ k2 =>
      have H:=HA.out;clear HA;simp only [spec_UsefulParts.l0] at H;by_cases c15:x18_2 < (l0_2.length:Int)
      ·rw [if_pos c15] at H;have c15b0:decide (x18_2 < (l0_2.length:Int)) = true:=decide_eq_true c15;clear c15;obtain ⟨y561,hy561⟩:∃ y_:List (S88),y_ = (([]:List (S88))):=⟨_,rfl⟩
       replace H:(if 0 ≤ x18_2 then (if x18_2 ≤ (l0_2.length:Int) then ((some (l0_2.take (x18_2:Int).toNat:List (S88))).bind fun y564=>(if y561.length + y564.length < 8796093022208 then ((some (y561 ++ y564:List (S88))).bind fun y568=>(if 0 ≤ (wrap64 (x18_2 + 1)) then (if (wrap64 (x18_2 + 1)) ≤ (l0_2.length:Int) then ((some (l0_2.drop ((wrap64 (x18_2 + 1)):Int).toNat:List (S88))).bind fun y571=>(if y568.length + y571.length < 8796093022208 then ((spec_syCan.f k2 a0_0 a0_1 (y568 ++ y571) l0_3 l0_4).bind fun t578=>(if t578 = true then (spec_UsefulParts.l0 k2 x4_2 (l0_2.length:Int) (wrap64 (x18_2 + 1)) a0_0 a0_1 l0_2 l0_3 l0_4) else (if x4_2.length < 17592186044416 then (spec_UsefulParts.l0 k2 (x4_2 ++ [x18_2]) (l0_2.length:Int) (wrap64 (x18_2 + 1)) a0_0 a0_1 l0_2 l0_3 l0_4) else (none)))) else (none))) else (none)) else (none))) else (none))) else (none)) else (none)) = some (r1,r2):=by first | (rw [hy561];with_reducible exact H) | (have H2_:=(Option.bind_some _ _).symm.trans H;rw [hy561];with_reducible exact H2_) | (have H2_:=(Option.bind_some _ _).symm.trans H;with_reducible exact H2_) | with_reducible exact H | (rw [hy561];exact H) | exact H
       have Ny561:=Aside0.mk hy561;clear hy561;replace H:=np_ H;obtain ⟨c16,H⟩:=H;have c16b0:=eq_true c16;have c16b1:decide (0 ≤ x18_2) = true:=decide_eq_true c16;clear c16;replace H:=np_ H;obtain ⟨c17,H⟩:=H;have c17b0:=eq_true c17;have c17b1:decide (x18_2 ≤ (l0_2.length:Int)) = true:=decide_eq_true c17;clear c17;obtain ⟨y564,hy564⟩:∃ y_:List (S88),y_ = (l0_2.take (x18_2:Int).toNat):=⟨_,rfl⟩
       replace H:(if y561.length + y564.length < 8796093022208 then ((some (y561 ++ y564:List (S88))).bind fun y568=>(if 0 ≤ (wrap64 (x18_2 + 1)) then (if (wrap64 (x18_2 + 1)) ≤ (l0_2.length:Int) then ((some (l0_2.drop ((wrap64 (x18_2 + 1)):Int).toNat:List (S88))).bind fun y571=>(if y568.length + y571.length < 8796093022208 then ((spec_syCan.f k2 a0_0 a0_1 (y568 ++ y571) l0_3 l0_4).bind fun t578=>(if t578 = true then (spec_UsefulParts.l0 k2 x4_2 (l0_2.length:Int) (wrap64 (x18_2 + 1)) a0_0 a0_1 l0_2 l0_3 l0_4) else (if x4_2.length < 17592186044416 then (spec_UsefulParts.l0 k2 (x4_2 ++ [x18_2]) (l0_2.length:Int) (wrap64 (x18_2 + 1)) a0_0 a0_1 l0_2 l0_3 l0_4) else (none)))) else (none))) else (none)) else (none))) else (none)) = some (r1,r2):=by first | (rw [hy564];with_reducible exact H) | (have H2_:=(Option.bind_some _ _).symm.trans H;rw [hy564];with_reducible exact H2_) | (have H2_:=(Option.bind_some _ _).symm.trans H;with_reducible exact H2_) | with_reducible exact H | (rw [hy564];exact H) | exact H
       have Ny564:=Aside0.mk hy564;clear hy564;replace H:=np_ H;obtain ⟨c18,H⟩:=H;have LMc18:=Aside0.mk c18;clear c18;obtain ⟨y568,hy568⟩:∃ y_:List (S88),y_ = (y561 ++ y564):=⟨_,rfl⟩
       replace H:(if 0 ≤ (wrap64 (x18_2 + 1)) then (if (wrap64 (x18_2 + 1)) ≤ (l0_2.length:Int) then ((some (l0_2.drop ((wrap64 (x18_2 + 1)):Int).toNat:List (S88))).bind fun y571=>(if y568.length + y571.length < 8796093022208 then ((spec_syCan.f k2 a0_0 a0_1 (y568 ++ y571) l0_3 l0_4).bind fun t578=>(if t578 = true then (spec_UsefulParts.l0 k2 x4_2 (l0_2.length:Int) (wrap64 (x18_2 + 1)) a0_0 a0_1 l0_2 l0_3 l0_4) else (if x4_2.length < 17592186044416 then (spec_UsefulParts.l0 k2 (x4_2 ++ [x18_2]) (l0_2.length:Int) (wrap64 (x18_2 + 1)) a0_0 a0_1 l0_2 l0_3 l0_4) else (none)))) else (none))) else (none)) else (none)) = some (r1,r2):=by first | (rw [hy568];with_reducible exact H) | (have H2_:=(Option.bind_some _ _).symm.trans H;rw [hy568];with_reducible exact H2_) | (have H2_:=(Option.bind_some _ _).symm.trans H;with_reducible exact H2_) | with_reducible exact H | (rw [hy568];exact H) | exact H
       have Ny568:=Aside0.mk hy568;clear hy568;obtain ⟨ji19,hji19⟩:∃ j_:Int,(wrap64 (x18_2 + 1)) = j_:=⟨_,rfl⟩
       replace H:(if 0 ≤ (ji19) then (if (ji19) ≤ (l0_2.length:Int) then ((some (l0_2.drop ((ji19):Int).toNat:List (S88))).bind fun y571=>(if y568.length + y571.length < 8796093022208 then ((spec_syCan.f k2 a0_0 a0_1 (y568 ++ y571) l0_3 l0_4).bind fun t578=>(if t578 = true then (spec_UsefulParts.l0 k2 x4_2 (l0_2.length:Int) ji19 a0_0 a0_1 l0_2 l0_3 l0_4) else (if x4_2.length < 17592186044416 then (spec_UsefulParts.l0 k2 (x4_2 ++ [x18_2]) (l0_2.length:Int) ji19 a0_0 a0_1 l0_2 l0_3 l0_4) else (none)))) else (none))) else (none)) else (none)) = some (r1,r2):=by first | (rw [hji19] at H;exact H) | (simp only [hji19] at H ⊢;exact H)
       have hji19w:(IntKind.i64.wrap (x18_2 + 1)) = ji19:=(i64_w _).trans hji19;replace H:=np_ H;obtain ⟨c20,H⟩:=H;have c20b0:=eq_true c20;have c20b1:decide (0 ≤ (ji19)) = true:=decide_eq_true c20;clear c20;replace H:=np_ H;obtain ⟨c21,H⟩:=H;have c21b0:=eq_true c21;have c21b1:decide ((ji19) ≤ (l0_2.length:Int)) = true:=decide_eq_true c21;clear c21;obtain ⟨y571,hy571⟩:∃ y_:List (S88),y_ = (l0_2.drop ((ji19):Int).toNat):=⟨_,rfl⟩
       replace H:(if y568.length + y571.length < 8796093022208 then ((spec_syCan.f k2 a0_0 a0_1 (y568 ++ y571) l0_3 l0_4).bind fun t578=>(if t578 = true then (spec_UsefulParts.l0 k2 x4_2 (l0_2.length:Int) ji19 a0_0 a0_1 l0_2 l0_3 l0_4) else (if x4_2.length < 17592186044416 then (spec_UsefulParts.l0 k2 (x4_2 ++ [x18_2]) (l0_2.length:Int) ji19 a0_0 a0_1 l0_2 l0_3 l0_4) else (none)))) else (none)) = some (r1,r2):=by first | (rw [hy571];with_reducible exact H) | (have H2_:=(Option.bind_some _ _).symm.trans H;rw [hy571];with_reducible exact H2_) | (have H2_:=(Option.bind_some _ _).symm.trans H;with_reducible exact H2_) | with_reducible exact H | (rw [hy571];exact H) | exact H
       have Ny571:=Aside0.mk hy571;clear hy571;replace H:=np_ H;obtain ⟨c22,H⟩:=H;have LMc22:=Aside0.mk c22;clear c22;obtain ⟨y575,hy575⟩:∃ y_:List (S88),y_ = (y568 ++ y571):=⟨_,rfl⟩
       replace H:((spec_syCan.f k2 a0_0 a0_1 y575 l0_3 l0_4).bind fun t578=>(if t578 = true then (spec_UsefulParts.l0 k2 x4_2 (l0_2.length:Int) ji19 a0_0 a0_1 l0_2 l0_3 l0_4) else (if x4_2.length < 17592186044416 then (spec_UsefulParts.l0 k2 (x4_2 ++ [x18_2]) (l0_2.length:Int) ji19 a0_0 a0_1 l0_2 l0_3 l0_4) else (none)))) = some (r1,r2):=by first | (rw [hy575];with_reducible exact H) | (have H2_:=(Option.bind_some _ _).symm.trans H;rw [hy575];with_reducible exact H2_) | (have H2_:=(Option.bind_some _ _).symm.trans H;with_reducible exact H2_) | with_reducible exact H | (rw [hy575];exact H) | exact H
       have Ny575:=Aside0.mk hy575;clear hy575;replace H:=Option.bind_eq_some_iff.mp H;obtain ⟨t578,A230,H⟩:=H;(try dsimp only at H)
       have A23:=Aside0.mk A230;clear A230;by_cases c24:t578 = true
       ·subst c24;have H1:(spec_UsefulParts.l0 k2 x4_2 (l0_2.length:Int) ji19 a0_0 a0_1 l0_2 l0_3 l0_4) = some (r1,r2):=by rw [if_pos rfl] at H;exact H
        clear H;have H:=H1;clear H1;have H':=Aside0.mk H;clear H;obtain ⟨hcz25_0,hcz25_1,hcz25_2,hcz25_3,hcz25_4,hfz25_0,hfz25_1,hfz25_2,hfz25_3,hfz25_4⟩:=bt5 BK557;try go_wp2_with (first | ((with_reducible refine gate_dst (N:=6) rfl ?_);refine box_event ?hg (N:=6) ?hd (cs:=#[.int .i64 0,.int .i64 0,.slice none 0 0,.slice none 0 0,.slice none 0 0]) (t:=31) ?hr ?_;(case hd=>rfl);(case hg=>rfl);(case hr=>first | (go_simp;done) | (go_simp;rfl));intro gb560 hg w26 hbox hb;refine ev8 (Kd.R_below (Kd.R_mv HO_4.out) hb) (kb BK557 hb) (bs HB hb) (hbox) (gle hg HB) (gle hg HB) (gnf hg BK557) (gne hg BK557) ?_;clear HO_4 BK557 HB;intro HO_4 BK557 HB BK560 GW560 GE560 NB557_560 NB560_557;clear hb hbox hg;have hnb27:=NB560_557.out;have hnc27:=NB557_560.out;obtain ⟨hcz28_0,hcz28_1,hcz28_2,hcz28_3,hcz28_4,hfz28_0,hfz28_1,hfz28_2,hfz28_3,hfz28_4⟩:=bt5 BK560))
        have n0_:Aside0 (Kd.R (Kd.int .i64) 3 (((((w26.setCell ⟨gb560,0,none⟩ (.int .i64 a0_0)).setCell ⟨gb560,1,none⟩ (.int .i64 a0_1)).setCell ⟨gb560,2,none⟩ (.slice A0_2 l0_2.length c0_2)).setCell ⟨gb560,3,none⟩ (.slice A0_3 l0_3.length c0_3)).setCell ⟨gb560,4,none⟩ (.slice A0_4 l0_4.length c0_4)) w.heap.size (fun _=>True) u4 x4_2):=⟨Kd.R_mv (Kd.R_mono (ok':=fun k_=>True) (Kd.R_far (p:=⟨gb560,4,none⟩) (Kd.R_far (p:=⟨gb560,3,none⟩) (Kd.R_far (p:=⟨gb560,2,none⟩) (Kd.R_far (p:=⟨gb560,1,none⟩) (Kd.R_far (p:=⟨gb560,0,none⟩) (Kd.R_types HO_4.out BK560.out (by decide)) (fun _ hk=>hk.2) (.int .i64 a0_0)) (fun _ hk=>hk.2) (.int .i64 a0_1)) (fun _ hk=>hk.2) (.slice A0_2 l0_2.length c0_2)) (fun _ hk=>hk.2) (.slice A0_3 l0_3.length c0_3)) (fun _ hk=>hk.2) (.slice A0_4 l0_4.length c0_4)) (fun _ hk=>trivial))⟩
        have n1_:Aside0 ((((((w26.setCell ⟨gb560,0,none⟩ (.int .i64 a0_0)).setCell ⟨gb560,1,none⟩ (.int .i64 a0_1)).setCell ⟨gb560,2,none⟩ (.slice A0_2 l0_2.length c0_2)).setCell ⟨gb560,3,none⟩ (.slice A0_3 l0_3.length c0_3)).setCell ⟨gb560,4,none⟩ (.slice A0_4 l0_4.length c0_4)).heap[gb557]? = some (.cells #[.int .i64 a0_0,.int .i64 a0_1,.slice A0_2 l0_2.length c0_2,.slice A0_3 l0_3.length c0_3,.slice A0_4 l0_4.length c0_4] 31 (0,0))):=⟨fp BK557 rfl⟩
        have n2_:Aside0 ((((((w26.setCell ⟨gb560,0,none⟩ (.int .i64 a0_0)).setCell ⟨gb560,1,none⟩ (.int .i64 a0_1)).setCell ⟨gb560,2,none⟩ (.slice A0_2 l0_2.length c0_2)).setCell ⟨gb560,3,none⟩ (.slice A0_3 l0_3.length c0_3)).setCell ⟨gb560,4,none⟩ (.slice A0_4 l0_4.length c0_4)).heap[gb560]? = some (.cells #[.int .i64 a0_0,.int .i64 a0_1,.slice A0_2 l0_2.length c0_2,.slice A0_3 l0_3.length c0_3,.slice A0_4 l0_4.length c0_4] 31 (0,0))):=⟨fp BK560 rfl⟩
        have n3_:Aside0 (Below w.heap.size w (((((w26.setCell ⟨gb560,0,none⟩ (.int .i64 a0_0)).setCell ⟨gb560,1,none⟩ (.int .i64 a0_1)).setCell ⟨gb560,2,none⟩ (.slice A0_2 l0_2.length c0_2)).setCell ⟨gb560,3,none⟩ (.slice A0_3 l0_3.length c0_3)).setCell ⟨gb560,4,none⟩ (.slice A0_4 l0_4.length c0_4))):=⟨bm HB⟩
        (try clear HO_4);(try clear BK557);(try clear BK560);(try clear HB);generalize (((((w26.setCell ⟨gb560,0,none⟩ (.int .i64 a0_0)).setCell ⟨gb560,1,none⟩ (.int .i64 a0_1)).setCell ⟨gb560,2,none⟩ (.slice A0_2 l0_2.length c0_2)).setCell ⟨gb560,3,none⟩ (.slice A0_3 l0_3.length c0_3)).setCell ⟨gb560,4,none⟩ (.slice A0_4 l0_4.length c0_4)) = w29 at n0_ n1_ n2_ n3_ ⊢
        have HO_4:=n0_;have BK557:=n1_;have BK560:=n2_;have HB:=n3_;clear n0_ n1_ n2_ n3_;refine ev4 (Kd.R_drew HO_4.out) (blk_drew BK557.out) (blk_drew BK560.out) (below_drew1 HB.out) ?_;clear HO_4 BK557 BK560 HB;intro HO_4 BK557 BK560 HB;have q31:(x18_2:Int) ≤ ((l0_2.length:Int):Int):=of_decide_eq_true (by first | (with_reducible assumption) | assumption);obtain ⟨i031,hi031,_,hsz31,_⟩:=info_parts info88;have hroom31:l0_2.length ≤ c0_2:=HC0_2.out;have hC31:Kd.C k88 _ A0_2 l0_2.length l0_2:=HR0_2.out;have hcut31:=cut_to (P:=Try.prog) 29 88 .i64 Try.underlying29 hi031 A0_2 l0_2.length c0_2 x18_2 (of_decide_eq_true (by first | (with_reducible assumption) | assumption)) q31 hroom31;have hr31:=Kd.C_take (m:=(x18_2:Int).toNat) hC31 (by omega);have hy31:y564.length = (x18_2:Int).toNat:=(by rw [Ny564.out,List.length_take];omega)
        rw [← Ny564.out] at hr31;rw [← hy31] at hcut31;have HR567:=Aside0.mk hr31;have HC567:=Aside0.mk (show y564.length ≤ c0_2 from by omega);clear hr31 hC31 hroom31 hi031 hsz31;have KY31:=Aside0.mk hy31;clear hy31;replace q31:=eq_true q31;have q32:((ji19):Int) ≤ ((l0_2.length:Int):Int):=of_decide_eq_true (by first | (with_reducible assumption) | assumption);obtain ⟨i032,hi032,_,hsz32,_⟩:=info_parts info88;have hroom32:l0_2.length ≤ c0_2:=HC0_2.out;have hC32:Kd.C k88 _ A0_2 l0_2.length l0_2:=HR0_2.out;have q032:(0:Int) ≤ ((ji19):Int):=of_decide_eq_true (by first | (with_reducible assumption) | assumption);have hcut32:=cut_from (P:=Try.prog) 29 88 .i64 Try.underlying29 hi032 2 hsz32 A0_2 l0_2.length c0_2 (ji19) q032 q32;have hr32:=Kd.C_drop (m:=((ji19):Int).toNat) (c:=c0_2) hC32 (by omega) hroom32;obtain ⟨A32,hA32⟩:∃ A1,A1 = (if c0_2 = ((ji19):Int).toNat then A0_2 else (A0_2:Option Addr).map (·.add (((ji19):Int).toNat * 2))):=⟨_,rfl⟩
        obtain ⟨c32,hc32⟩:∃ c1,c1 = c0_2 - ((ji19):Int).toNat:=⟨_,rfl⟩
        have hy32:y571.length = l0_2.length - ((ji19):Int).toNat:=(by rw [Ny571.out,List.length_drop] <;> omega)
        rw [show (l0_2).drop ((ji19):Int).toNat = y571 from Ny571.out.symm] at hr32;replace hr32:Kd.C k88 _ A32 y571.length y571:=(by rw [hA32];exact hr32)
        rw [← hy32,← hA32,← hc32] at hcut32;have HR574:=Aside0.mk hr32;have HC574:=Aside0.mk (show y571.length ≤ c32 from by rw [hy32,hc32];exact Nat.sub_le_sub_right hroom32 _);clear hr32 hC32 hroom32 hi032 hsz32 hc32;have KY32:=Aside0.mk hy32;have KA32:=Aside0.mk hA32;clear hy32 hA32;replace q32:=eq_true q32;refine start_ (n:=14) (S:=fun w'=>w'.cell? ⟨gb557,0,none⟩ = some (.int .i64 a0_0)∧w'.cell? ⟨gb557,1,none⟩ = some (.int .i64 a0_1)∧w'.cell? ⟨gb557,2,none⟩ = some (.slice A0_2 l0_2.length c0_2)∧w'.cell? ⟨gb557,3,none⟩ = some (.slice A0_3 l0_3.length c0_3)∧w'.cell? ⟨gb557,4,none⟩ = some (.slice A0_4 l0_4.length c0_4)) (ds:=[]) #[Z,Z,Z,Z,Z,Z,Z,Z,Z,Z,Z,Z,Z,Z] (by kernel_rfl) rfl rfl ⟨(blk_cell BK557.out 0).trans rfl,(blk_cell BK557.out 1).trans rfl,(blk_cell BK557.out 2).trans rfl,(blk_cell BK557.out 3).trans rfl,(blk_cell BK557.out 4).trans rfl⟩ (fun hHeld=>?_);refine with_tabW spec_UsefulParts.tab8 spec_UsefulParts.bits8 (fun HT_ HW_=>?_);generalize w29.drew = w30 at HO_4 BK557 BK560 HB HR567 HR574 hHeld ⊢
        refine pA 1 (some 23) ?_ #[Z,Y,Z,Z,Z,Z,Z,Z,Z,Z,Z,Z,Z,Z] rfl rfl HT_ (by kernel_rfl) (fun _ _ _ h=>h) (by rfl) ?_ ?_ ?_ ?_;rotate_left
        ·intro w';go_simp;with_reducible rfl
        rotate_left
        ·simp only [Act.put,za_,zb_,zc_,i64_w,i32_w];rfl
        refine pA 3 (some 25) ?_ #[Z,Y,Z,Y,Z,Z,Z,Z,Z,Z,Z,Z,Z,Z] rfl rfl HT_ (by kernel_rfl) (fun _ _ _ h=>h) (by rfl) ?_ ?_ ?_ ?_;rotate_left
        ·intro w';go_simp;with_reducible rfl
        rotate_left
        ·simp only [Act.put,za_,zb_,zc_,i64_w,i32_w];rfl
        refine pA 6 (some 28) ?_ #[Z,Y,Z,Y,Z,Z,Y,Z,Z,Z,Z,Z,Z,Z] rfl rfl HT_ (by kernel_rfl) (fun _ _ _ h=>h) (by rfl) ?_ ?_ ?_ ?_;rotate_left
        ·intro w';go_simp;with_reducible rfl
        rotate_left
        ·simp only [Act.put,za_,zb_,zc_,i64_w,i32_w];rfl
        refine pA 8 (some 30) ?_ #[Z,Y,Z,Y,Z,Z,Y,Z,Y,Z,Z,Z,Z,Z] rfl rfl HT_ (by kernel_rfl) (fun _ _ _ h=>h) (by rfl) ?_ ?_ ?_ ?_;rotate_left
        ·intro w';go_simp;with_reducible rfl
        rotate_left
        ·simp only [Act.put,za_,zb_,zc_,i64_w,i32_w];rfl
        refine pA 9 (some 31) ?_ #[Z,Y,Z,Y,Z,Z,Y,Z,Y,Y,Z,Z,Z,Z] rfl rfl HT_ (by kernel_rfl) (fun _ _ _ h=>h) (by rfl) ?_ ?_ ?_ ?_;rotate_left
        ·intro w';go_simp;with_reducible rfl
        rotate_left
        ·simp only [Act.put,za_,zb_,zc_,i64_w,i32_w];rfl
        refine tA 2 (some 24) ?_ #[Z,Y,Y,Y,Z,Z,Y,Z,Y,Y,Z,Z,Z,Z] rfl rfl HT_ HW_ (by kernel_rfl) (fun _ _ _ h=>h) (by rfl) ?_ hHeld ?_ ?_ ?_;rotate_left
        ·rintro w' ⟨s0,s1,s2,s3,s4⟩;go_simp;with_reducible rfl
        rotate_left
        ·simp only [Act.put,za_,zb_,zc_,i64_w,i32_w];rfl
        refine pA 4 (some 26) ?_ #[Z,Y,Y,Y,Y,Z,Y,Z,Y,Y,Z,Z,Z,Z] rfl rfl HT_ (by kernel_rfl) (fun _ _ _ h=>h) (by rfl) ?_ ?_ ?_ ?_;rotate_left
        ·intro w';go_simp;with_reducible rfl
        rotate_left
        ·simp only [Act.put,za_,zb_,zc_,i64_w,i32_w];rfl
        refine tA 7 (some 29) ?_ #[Z,Y,Y,Y,Y,Z,Y,Y,Y,Y,Z,Z,Z,Z] rfl rfl HT_ HW_ (by kernel_rfl) (fun _ _ _ h=>h) (by rfl) ?_ hHeld ?_ ?_ ?_;rotate_left
        ·rintro w' ⟨s0,s1,s2,s3,s4⟩;go_simp;with_reducible rfl
        rotate_left
        ·simp only [Act.put,za_,zb_,zc_,i64_w,i32_w];rfl
        refine pA 10 (some 32) ?_ #[Z,Y,Y,Y,Y,Z,Y,Y,Y,Y,Y,Z,Z,Z] rfl rfl HT_ (by kernel_rfl) (fun _ _ _ h=>h) (by rfl) ?_ ?_ ?_ ?_;rotate_left
        ·intro w';go_simp;with_reducible rfl
        rotate_left
        ·simp only [Act.put,za_,zb_,zc_,i64_w,i32_w];rfl
        refine one_ (i:=0) (N:=some 22) #[Y,Y,Y,Y,Y,Z,Y,Y,Y,Y,Y,Z,Z,Z] rfl rfl (one_of HT_.out (by kernel_rfl)) (by decide) (fun K hK=>?_);refine Kd.R_lit_step k88 _ 88 ?hg (N:=22) ?hd (xs:=([]:List (S88))) (inner:=[]) (ok:=fun _=>True) (okp:=fun _=>True) ?hr ?hp (fun _ hk=>hk) trivial (Below.refl _ _) (Nat.le_refl _) (by simp) ?_;(case hd=>rfl);(case hg=>rfl);(case hr=>first | (go_simp;done) | (go_simp;rfl));(case hp=>exact (Reps.none _ _));intro v562 w33 ho34 hb hg_ hnew_;clear hg_ hnew_;(first | rw [← Ny561.out] at ho34 | (simp only [Int.reduceToNat] at ho34;rw [← Ny561.out] at ho34))
        refine ev5 (Kd.R_below (Kd.R_mv HO_4.out) hb) (Kd.R_lower ho34 (below_size (bm HB))) (kb BK557 hb) (kb BK560 hb) (bs HB hb) ?_;clear HO_4 BK557 BK560 HB;intro HO_4 HO563 BK557 BK560 HB;clear hb ho34;refine hK.out _ _ ⟨(blk_cell BK557.out 0).trans rfl,(blk_cell BK557.out 1).trans rfl,(blk_cell BK557.out 2).trans rfl,(blk_cell BK557.out 3).trans rfl,(blk_cell BK557.out 4).trans rfl⟩ (fun hHeld=>?_);clear hK K;refine norm_ (a':=?_) ?_ ?_;rotate_left
        ·show Act.put _ (some 22) _ = _
         simp only [Act.put,za_,zb_,zc_,i64_w,i32_w];rfl
        refine one_ (i:=5) (N:=some 27) #[Y,Y,Y,Y,Y,Y,Y,Y,Y,Y,Y,Z,Z,Z] rfl rfl (one_of HT_.out (by kernel_rfl)) (by decide) (fun K hK=>?_);refine Kd.R_append_rows_step k88 (w0:=w) w.heap.size (by rfl) (.tmp 22) (.tmp 26) 29 88 (.agg #[(.int .i64 0),(.int .i64 0)]) 16 rfl Try.underlying29 info88 rfl (by decide) (by omega) v562 y561 y564 _ _ _ (fun _=>True) (fun _=>False) rfl rfl ?aO ?aR (fun _ _ h=>h) (fun _ h=>h.elim) ?aF ?aB ?aS ?aL ?_;(case aR=>exact Kd.C_mv (Kd.C_below HR567.out HB.out))
        (case aB=>exact (bm HB))
        (case aF=>exact (fun _ _=>trivial))
        (case aO=>exact (Kd.R_mv HO563.out))
        (case aS=>exact (below_size (bm HB)))
        (case aL=>have:=LMc18.out;omega)
        intro v569 w35 ho hb hg hat;rw [← Ny568.out] at ho;refine ev5 (Kd.R_over' (Kd.R_mv HO_4.out) (Kd.R_typed (Kd.R_mv HO563.out)) (by decide) hg) (blk_grown (km_ BK557) hg (Kd.R_ne HO563.out BK557.out (by decide))) (blk_grown (km_ BK560) hg (Kd.R_ne HO563.out BK560.out (by decide))) (hb) (ho) ?_;clear HO_4 BK557 BK560 HB HO563;intro HO_4 BK557 BK560 HB HO570;clear ho hb hg hat;refine hK.out _ _ ⟨(blk_cell BK557.out 0).trans rfl,(blk_cell BK557.out 1).trans rfl,(blk_cell BK557.out 2).trans rfl,(blk_cell BK557.out 3).trans rfl,(blk_cell BK557.out 4).trans rfl⟩ (fun hHeld=>?_);clear hK K;refine norm_ (a':=?_) ?_ ?_;rotate_left
        ·show Act.put _ (some 27) _ = _
         simp only [Act.put,za_,zb_,zc_,i64_w,i32_w];rfl
        refine one_ (i:=11) (N:=some 33) #[Y,Y,Y,Y,Y,Y,Y,Y,Y,Y,Y,Y,Z,Z] rfl rfl (one_of HT_.out (by kernel_rfl)) (by decide) (fun K hK=>?_);refine Kd.R_append_rows_step k88 (w0:=w) w.heap.size (by rfl) (.tmp 27) (.tmp 32) 29 88 (.agg #[(.int .i64 0),(.int .i64 0)]) 16 rfl Try.underlying29 info88 rfl (by decide) (by omega) v569 y568 y571 _ _ _ (fun _=>True) (fun _=>False) rfl rfl ?aO ?aR (fun _ _ h=>h) (fun _ h=>h.elim) ?aF ?aB ?aS ?aL ?_;(case aR=>exact Kd.C_mv (Kd.C_below HR574.out HB.out))
        (case aB=>exact (bm HB))
        (case aF=>exact (fun _ _=>trivial))
        (case aO=>exact (Kd.R_mv HO570.out))
        (case aS=>exact (below_size (bm HB)))
        (case aL=>have:=LMc22.out;omega)
        intro v576 w36 ho hb hg hat;rw [← Ny575.out] at ho;refine ev5 (Kd.R_over' (Kd.R_mv HO_4.out) (Kd.R_typed (Kd.R_mv HO570.out)) (by decide) hg) (blk_grown (km_ BK557) hg (Kd.R_ne HO570.out BK557.out (by decide))) (blk_grown (km_ BK560) hg (Kd.R_ne HO570.out BK560.out (by decide))) (hb) (ho) ?_;clear HO_4 BK557 BK560 HB HO570;intro HO_4 BK557 BK560 HB HO577;clear ho hb hg hat;obtain ⟨Ao37,co37,eo37⟩:=Kd.R_slice HO577.out;(first | subst eo37 | (injection eo37 with f1_ f2_ f3_;have f4_:=f1_.symm;have f5_:=f3_.symm;clear f1_ f2_ f3_;subst f4_;subst f5_))
        refine hK.out _ _ ⟨(blk_cell BK557.out 0).trans rfl,(blk_cell BK557.out 1).trans rfl,(blk_cell BK557.out 2).trans rfl,(blk_cell BK557.out 3).trans rfl,(blk_cell BK557.out 4).trans rfl⟩ (fun hHeld=>?_);clear hK K;refine norm_ (a':=?_) ?_ ?_;rotate_left
        ·show Act.put _ (some 33) _ = _
         simp only [Act.put,za_,zb_,zc_,i64_w,i32_w];rfl
        refine pA 12 (some 34) ?_ #[Y,Y,Y,Y,Y,Y,Y,Y,Y,Y,Y,Y,Y,Z] rfl rfl HT_ (by kernel_rfl) (fun _ _ _ h=>h) (by rfl) ?_ ?_ ?_ ?_;rotate_left
        ·intro w';go_simp;with_reducible rfl
        rotate_left
        ·simp only [Act.put,za_,zb_,zc_,i64_w,i32_w];rfl
        refine one_ (i:=13) (N:=none) #[Y,Y,Y,Y,Y,Y,Y,Y,Y,Y,Y,Y,Y,Y] rfl rfl (one_of HT_.out (by kernel_rfl)) (by decide) (fun K hK=>?_);have hs38:w36.cell? ⟨gb560,2,none⟩ = some (.slice A0_2 l0_2.length c0_2):=(blk_cell BK560.out 2).trans rfl;have hfs38:=blk_frozen BK560.out 2;have hns38_0:=NB557_560.out;have hms38_0:=NB560_557.out;refine skip_ (w1:=?_) (by rfl) rfl ?_ ?_;rotate_left
        ·go_simp;rfl
        refine hK.out _ _ ⟨((cell_far (p:=⟨gb560,_,none⟩) NB557_560.out _).trans (hHeld.1)),((cell_far (p:=⟨gb560,_,none⟩) NB557_560.out _).trans (hHeld.2.1)),((cell_far (p:=⟨gb560,_,none⟩) NB557_560.out _).trans (hHeld.2.2.1)),((cell_far (p:=⟨gb560,_,none⟩) NB557_560.out _).trans (hHeld.2.2.2.1)),((cell_far (p:=⟨gb560,_,none⟩) NB557_560.out _).trans (hHeld.2.2.2.2))⟩ (fun hHeld=>?_);clear hK K;refine done_ (done_of HT_.out (by kernel_rfl)) ?_;obtain ⟨hcz39_0,hcz39_1,hcz39_2,hcz39_3,hcz39_4,hfz39_0,hfz39_1,hfz39_2,hfz39_3,hfz39_4⟩:=bt5 BK560;try go_wp2_with (first | ((with_reducible refine gate_callee (f:=68) rfl ?_);refine gL_ (some 36) Try.func68 #[.agg #[.int .i64 a0_0,.int .i64 a0_1,.slice Ao37 y575.length co37,.slice A0_3 l0_3.length c0_3,.slice A0_4 l0_4.length c0_4]] (h:=?_);(with_reducible refine (spec_syCan.calls k2 a0_0 a0_1 _ _ y575 _ _ l0_3 _ _ l0_4 true _ ?side1 ((Kd.R_reads' HO577.out).2.1) (Kd.C_below HR0_3.out (bm HB)) HC0_3.out (Kd.C_below HR0_4.out (bm HB)) HC0_4.out A23.out).mono ?_);(case side1=>exact (Kd.R_reads' (Kd.R_ft HO577.out BK560.out (by decide))).2.2);rintro e w40 ⟨rfl,hb⟩;refine ⟨_,rfl,?_⟩;refine ev5 (Kd.R_below (Kd.R_ft HO_4.out BK560.out (by decide)) hb) (Kd.R_below (Kd.R_ft HO577.out BK560.out (by decide)) hb) (blk_below (g:=gb557) (o:=.cells #[.int .i64 a0_0,.int .i64 a0_1,.slice A0_2 l0_2.length c0_2,.slice A0_3 l0_3.length c0_3,.slice A0_4 l0_4.length c0_4] 31 (0,0)) (fp BK557 rfl) hb) (blk_below (g:=gb560) (o:=.cells #[.int .i64 a0_0,.int .i64 a0_1,.slice Ao37 y575.length co37,.slice A0_3 l0_3.length c0_3,.slice A0_4 l0_4.length c0_4] 31 (0,0)) (fp BK560 rfl) hb) (bs HB hb) ?_;clear HO_4 HO577 BK557 BK560 HB;intro HO_4 HO577 BK557 BK560 HB;(try clear hb)))
        go_roundg k2
        case measure=>have:=HJ1.out;have:=HK2.out;omega
        case rel=>exact ⟨(x4_2),(ji19),(by first | rfl | (simp;done) | (simp only [← hji19] <;> (first | rfl | simp)) | (simp [*];done)),H',⟨by have:=HJ1.out;have:=HK2.out;omega⟩,⟨Kd.R_mv HO_4.out⟩,⟨km_ BK557⟩,⟨bm HB⟩⟩
       ·replace c24:=Bool.eq_false_iff.mpr c24;subst c24;have H1:(if x4_2.length < 17592186044416 then (spec_UsefulParts.l0 k2 (x4_2 ++ [x18_2]) (l0_2.length:Int) ji19 a0_0 a0_1 l0_2 l0_3 l0_4) else (none)) = some (r1,r2):=by rw [if_neg (show ¬ (false = true) by decide)] at H;exact H
        clear H;have H:=H1;clear H1;replace H:=np_ H;obtain ⟨c41,H⟩:=H;have LMc41:=Aside0.mk c41;clear c41;obtain ⟨y579,hy579⟩:∃ y_:List Int,y_ = (x4_2 ++ [x18_2]):=⟨_,rfl⟩
        replace H:(spec_UsefulParts.l0 k2 y579 (l0_2.length:Int) ji19 a0_0 a0_1 l0_2 l0_3 l0_4) = some (r1,r2):=by first | (rw [hy579];with_reducible exact H) | (have H2_:=(Option.bind_some _ _).symm.trans H;rw [hy579];with_reducible exact H2_) | (have H2_:=(Option.bind_some _ _).symm.trans H;with_reducible exact H2_) | with_reducible exact H | (rw [hy579];exact H) | exact H
        have Ny579:=Aside0.mk hy579;clear hy579;have H':=Aside0.mk H;clear H;obtain ⟨hcz42_0,hcz42_1,hcz42_2,hcz42_3,hcz42_4,hfz42_0,hfz42_1,hfz42_2,hfz42_3,hfz42_4⟩:=bt5 BK557;try go_wp2_with (first | ((with_reducible refine gate_dst (N:=6) rfl ?_);refine box_event ?hg (N:=6) ?hd (cs:=#[.int .i64 0,.int .i64 0,.slice none 0 0,.slice none 0 0,.slice none 0 0]) (t:=31) ?hr ?_;(case hd=>rfl);(case hg=>rfl);(case hr=>first | (go_simp;done) | (go_simp;rfl));intro gb560 hg w43 hbox hb;refine ev8 (Kd.R_below (Kd.R_mv HO_4.out) hb) (kb BK557 hb) (bs HB hb) (hbox) (gle hg HB) (gle hg HB) (gnf hg BK557) (gne hg BK557) ?_;clear HO_4 BK557 HB;intro HO_4 BK557 HB BK560 GW560 GE560 NB557_560 NB560_557;clear hb hbox hg;have hnb44:=NB560_557.out;have hnc44:=NB557_560.out;obtain ⟨hcz45_0,hcz45_1,hcz45_2,hcz45_3,hcz45_4,hfz45_0,hfz45_1,hfz45_2,hfz45_3,hfz45_4⟩:=bt5 BK560))
        have n0_:Aside0 (Kd.R (Kd.int .i64) 3 (((((w43.setCell ⟨gb560,0,none⟩ (.int .i64 a0_0)).setCell ⟨gb560,1,none⟩ (.int .i64 a0_1)).setCell ⟨gb560,2,none⟩ (.slice A0_2 l0_2.length c0_2)).setCell ⟨gb560,3,none⟩ (.slice A0_3 l0_3.length c0_3)).setCell ⟨gb560,4,none⟩ (.slice A0_4 l0_4.length c0_4)) w.heap.size (fun _=>True) u4 x4_2):=⟨Kd.R_mv (Kd.R_mono (ok':=fun k_=>True) (Kd.R_far (p:=⟨gb560,4,none⟩) (Kd.R_far (p:=⟨gb560,3,none⟩) (Kd.R_far (p:=⟨gb560,2,none⟩) (Kd.R_far (p:=⟨gb560,1,none⟩) (Kd.R_far (p:=⟨gb560,0,none⟩) (Kd.R_types HO_4.out BK560.out (by decide)) (fun _ hk=>hk.2) (.int .i64 a0_0)) (fun _ hk=>hk.2) (.int .i64 a0_1)) (fun _ hk=>hk.2) (.slice A0_2 l0_2.length c0_2)) (fun _ hk=>hk.2) (.slice A0_3 l0_3.length c0_3)) (fun _ hk=>hk.2) (.slice A0_4 l0_4.length c0_4)) (fun _ hk=>trivial))⟩
        have n1_:Aside0 ((((((w43.setCell ⟨gb560,0,none⟩ (.int .i64 a0_0)).setCell ⟨gb560,1,none⟩ (.int .i64 a0_1)).setCell ⟨gb560,2,none⟩ (.slice A0_2 l0_2.length c0_2)).setCell ⟨gb560,3,none⟩ (.slice A0_3 l0_3.length c0_3)).setCell ⟨gb560,4,none⟩ (.slice A0_4 l0_4.length c0_4)).heap[gb557]? = some (.cells #[.int .i64 a0_0,.int .i64 a0_1,.slice A0_2 l0_2.length c0_2,.slice A0_3 l0_3.length c0_3,.slice A0_4 l0_4.length c0_4] 31 (0,0))):=⟨fp BK557 rfl⟩
        have n2_:Aside0 ((((((w43.setCell ⟨gb560,0,none⟩ (.int .i64 a0_0)).setCell ⟨gb560,1,none⟩ (.int .i64 a0_1)).setCell ⟨gb560,2,none⟩ (.slice A0_2 l0_2.length c0_2)).setCell ⟨gb560,3,none⟩ (.slice A0_3 l0_3.length c0_3)).setCell ⟨gb560,4,none⟩ (.slice A0_4 l0_4.length c0_4)).heap[gb560]? = some (.cells #[.int .i64 a0_0,.int .i64 a0_1,.slice A0_2 l0_2.length c0_2,.slice A0_3 l0_3.length c0_3,.slice A0_4 l0_4.length c0_4] 31 (0,0))):=⟨fp BK560 rfl⟩
        have n3_:Aside0 (Below w.heap.size w (((((w43.setCell ⟨gb560,0,none⟩ (.int .i64 a0_0)).setCell ⟨gb560,1,none⟩ (.int .i64 a0_1)).setCell ⟨gb560,2,none⟩ (.slice A0_2 l0_2.length c0_2)).setCell ⟨gb560,3,none⟩ (.slice A0_3 l0_3.length c0_3)).setCell ⟨gb560,4,none⟩ (.slice A0_4 l0_4.length c0_4))):=⟨bm HB⟩
        (try clear HO_4);(try clear BK557);(try clear BK560);(try clear HB);generalize (((((w43.setCell ⟨gb560,0,none⟩ (.int .i64 a0_0)).setCell ⟨gb560,1,none⟩ (.int .i64 a0_1)).setCell ⟨gb560,2,none⟩ (.slice A0_2 l0_2.length c0_2)).setCell ⟨gb560,3,none⟩ (.slice A0_3 l0_3.length c0_3)).setCell ⟨gb560,4,none⟩ (.slice A0_4 l0_4.length c0_4)) = w46 at n0_ n1_ n2_ n3_ ⊢
        have HO_4:=n0_;have BK557:=n1_;have BK560:=n2_;have HB:=n3_;clear n0_ n1_ n2_ n3_;refine ev4 (Kd.R_drew HO_4.out) (blk_drew BK557.out) (blk_drew BK560.out) (below_drew1 HB.out) ?_;clear HO_4 BK557 BK560 HB;intro HO_4 BK557 BK560 HB;have q48:(x18_2:Int) ≤ ((l0_2.length:Int):Int):=of_decide_eq_true (by first | (with_reducible assumption) | assumption);obtain ⟨i048,hi048,_,hsz48,_⟩:=info_parts info88;have hroom48:l0_2.length ≤ c0_2:=HC0_2.out;have hC48:Kd.C k88 _ A0_2 l0_2.length l0_2:=HR0_2.out;have hcut48:=cut_to (P:=Try.prog) 29 88 .i64 Try.underlying29 hi048 A0_2 l0_2.length c0_2 x18_2 (of_decide_eq_true (by first | (with_reducible assumption) | assumption)) q48 hroom48;have hr48:=Kd.C_take (m:=(x18_2:Int).toNat) hC48 (by omega);have hy48:y564.length = (x18_2:Int).toNat:=(by rw [Ny564.out,List.length_take];omega)
        rw [← Ny564.out] at hr48;rw [← hy48] at hcut48;have HR567:=Aside0.mk hr48;have HC567:=Aside0.mk (show y564.length ≤ c0_2 from by omega);clear hr48 hC48 hroom48 hi048 hsz48;have KY48:=Aside0.mk hy48;clear hy48;replace q48:=eq_true q48;have q49:((ji19):Int) ≤ ((l0_2.length:Int):Int):=of_decide_eq_true (by first | (with_reducible assumption) | assumption);obtain ⟨i049,hi049,_,hsz49,_⟩:=info_parts info88;have hroom49:l0_2.length ≤ c0_2:=HC0_2.out;have hC49:Kd.C k88 _ A0_2 l0_2.length l0_2:=HR0_2.out;have q049:(0:Int) ≤ ((ji19):Int):=of_decide_eq_true (by first | (with_reducible assumption) | assumption);have hcut49:=cut_from (P:=Try.prog) 29 88 .i64 Try.underlying29 hi049 2 hsz49 A0_2 l0_2.length c0_2 (ji19) q049 q49;have hr49:=Kd.C_drop (m:=((ji19):Int).toNat) (c:=c0_2) hC49 (by omega) hroom49;obtain ⟨A49,hA49⟩:∃ A1,A1 = (if c0_2 = ((ji19):Int).toNat then A0_2 else (A0_2:Option Addr).map (·.add (((ji19):Int).toNat * 2))):=⟨_,rfl⟩
        obtain ⟨c49,hc49⟩:∃ c1,c1 = c0_2 - ((ji19):Int).toNat:=⟨_,rfl⟩
        have hy49:y571.length = l0_2.length - ((ji19):Int).toNat:=(by rw [Ny571.out,List.length_drop] <;> omega)
        rw [show (l0_2).drop ((ji19):Int).toNat = y571 from Ny571.out.symm] at hr49;replace hr49:Kd.C k88 _ A49 y571.length y571:=(by rw [hA49];exact hr49)
        rw [← hy49,← hA49,← hc49] at hcut49;have HR574:=Aside0.mk hr49;have HC574:=Aside0.mk (show y571.length ≤ c49 from by rw [hy49,hc49];exact Nat.sub_le_sub_right hroom49 _);clear hr49 hC49 hroom49 hi049 hsz49 hc49;have KY49:=Aside0.mk hy49;have KA49:=Aside0.mk hA49;clear hy49 hA49;replace q49:=eq_true q49;refine start_ (n:=14) (S:=fun w'=>w'.cell? ⟨gb557,0,none⟩ = some (.int .i64 a0_0)∧w'.cell? ⟨gb557,1,none⟩ = some (.int .i64 a0_1)∧w'.cell? ⟨gb557,2,none⟩ = some (.slice A0_2 l0_2.length c0_2)∧w'.cell? ⟨gb557,3,none⟩ = some (.slice A0_3 l0_3.length c0_3)∧w'.cell? ⟨gb557,4,none⟩ = some (.slice A0_4 l0_4.length c0_4)) (ds:=[]) #[Z,Z,Z,Z,Z,Z,Z,Z,Z,Z,Z,Z,Z,Z] (by kernel_rfl) rfl rfl ⟨(blk_cell BK557.out 0).trans rfl,(blk_cell BK557.out 1).trans rfl,(blk_cell BK557.out 2).trans rfl,(blk_cell BK557.out 3).trans rfl,(blk_cell BK557.out 4).trans rfl⟩ (fun hHeld=>?_);refine with_tabW spec_UsefulParts.tab8 spec_UsefulParts.bits8 (fun HT_ HW_=>?_);generalize w46.drew = w47 at HO_4 BK557 BK560 HB HR567 HR574 hHeld ⊢
        refine pA 1 (some 23) ?_ #[Z,Y,Z,Z,Z,Z,Z,Z,Z,Z,Z,Z,Z,Z] rfl rfl HT_ (by kernel_rfl) (fun _ _ _ h=>h) (by rfl) ?_ ?_ ?_ ?_;rotate_left
        ·intro w';go_simp;with_reducible rfl
        rotate_left
        ·simp only [Act.put,za_,zb_,zc_,i64_w,i32_w];rfl
        refine pA 3 (some 25) ?_ #[Z,Y,Z,Y,Z,Z,Z,Z,Z,Z,Z,Z,Z,Z] rfl rfl HT_ (by kernel_rfl) (fun _ _ _ h=>h) (by rfl) ?_ ?_ ?_ ?_;rotate_left
        ·intro w';go_simp;with_reducible rfl
        rotate_left
        ·simp only [Act.put,za_,zb_,zc_,i64_w,i32_w];rfl
        refine pA 6 (some 28) ?_ #[Z,Y,Z,Y,Z,Z,Y,Z,Z,Z,Z,Z,Z,Z] rfl rfl HT_ (by kernel_rfl) (fun _ _ _ h=>h) (by rfl) ?_ ?_ ?_ ?_;rotate_left
        ·intro w';go_simp;with_reducible rfl
        rotate_left
        ·simp only [Act.put,za_,zb_,zc_,i64_w,i32_w];rfl
        refine pA 8 (some 30) ?_ #[Z,Y,Z,Y,Z,Z,Y,Z,Y,Z,Z,Z,Z,Z] rfl rfl HT_ (by kernel_rfl) (fun _ _ _ h=>h) (by rfl) ?_ ?_ ?_ ?_;rotate_left
        ·intro w';go_simp;with_reducible rfl
        rotate_left
        ·simp only [Act.put,za_,zb_,zc_,i64_w,i32_w];rfl
        refine pA 9 (some 31) ?_ #[Z,Y,Z,Y,Z,Z,Y,Z,Y,Y,Z,Z,Z,Z] rfl rfl HT_ (by kernel_rfl) (fun _ _ _ h=>h) (by rfl) ?_ ?_ ?_ ?_;rotate_left
        ·intro w';go_simp;with_reducible rfl
        rotate_left
        ·simp only [Act.put,za_,zb_,zc_,i64_w,i32_w];rfl
        refine tA 2 (some 24) ?_ #[Z,Y,Y,Y,Z,Z,Y,Z,Y,Y,Z,Z,Z,Z] rfl rfl HT_ HW_ (by kernel_rfl) (fun _ _ _ h=>h) (by rfl) ?_ hHeld ?_ ?_ ?_;rotate_left
        ·rintro w' ⟨s0,s1,s2,s3,s4⟩;go_simp;with_reducible rfl
        rotate_left
        ·simp only [Act.put,za_,zb_,zc_,i64_w,i32_w];rfl
        refine pA 4 (some 26) ?_ #[Z,Y,Y,Y,Y,Z,Y,Z,Y,Y,Z,Z,Z,Z] rfl rfl HT_ (by kernel_rfl) (fun _ _ _ h=>h) (by rfl) ?_ ?_ ?_ ?_;rotate_left
        ·intro w';go_simp;with_reducible rfl
        rotate_left
        ·simp only [Act.put,za_,zb_,zc_,i64_w,i32_w];rfl
        refine tA 7 (some 29) ?_ #[Z,Y,Y,Y,Y,Z,Y,Y,Y,Y,Z,Z,Z,Z] rfl rfl HT_ HW_ (by kernel_rfl) (fun _ _ _ h=>h) (by rfl) ?_ hHeld ?_ ?_ ?_;rotate_left
        ·rintro w' ⟨s0,s1,s2,s3,s4⟩;go_simp;with_reducible rfl
        rotate_left
        ·simp only [Act.put,za_,zb_,zc_,i64_w,i32_w];rfl
        refine pA 10 (some 32) ?_ #[Z,Y,Y,Y,Y,Z,Y,Y,Y,Y,Y,Z,Z,Z] rfl rfl HT_ (by kernel_rfl) (fun _ _ _ h=>h) (by rfl) ?_ ?_ ?_ ?_;rotate_left
        ·intro w';go_simp;with_reducible rfl
        rotate_left
        ·simp only [Act.put,za_,zb_,zc_,i64_w,i32_w];rfl
        refine one_ (i:=0) (N:=some 22) #[Y,Y,Y,Y,Y,Z,Y,Y,Y,Y,Y,Z,Z,Z] rfl rfl (one_of HT_.out (by kernel_rfl)) (by decide) (fun K hK=>?_);refine Kd.R_lit_step k88 _ 88 ?hg (N:=22) ?hd (xs:=([]:List (S88))) (inner:=[]) (ok:=fun _=>True) (okp:=fun _=>True) ?hr ?hp (fun _ hk=>hk) trivial (Below.refl _ _) (Nat.le_refl _) (by simp) ?_;(case hd=>rfl);(case hg=>rfl);(case hr=>first | (go_simp;done) | (go_simp;rfl));(case hp=>exact (Reps.none _ _));intro v562 w50 ho51 hb hg_ hnew_;clear hg_ hnew_;(first | rw [← Ny561.out] at ho51 | (simp only [Int.reduceToNat] at ho51;rw [← Ny561.out] at ho51))
        refine ev5 (Kd.R_below (Kd.R_mv HO_4.out) hb) (Kd.R_lower ho51 (below_size (bm HB))) (kb BK557 hb) (kb BK560 hb) (bs HB hb) ?_;clear HO_4 BK557 BK560 HB;intro HO_4 HO563 BK557 BK560 HB;clear hb ho51;refine hK.out _ _ ⟨(blk_cell BK557.out 0).trans rfl,(blk_cell BK557.out 1).trans rfl,(blk_cell BK557.out 2).trans rfl,(blk_cell BK557.out 3).trans rfl,(blk_cell BK557.out 4).trans rfl⟩ (fun hHeld=>?_);clear hK K;refine norm_ (a':=?_) ?_ ?_;rotate_left
        ·show Act.put _ (some 22) _ = _
         simp only [Act.put,za_,zb_,zc_,i64_w,i32_w];rfl
        refine one_ (i:=5) (N:=some 27) #[Y,Y,Y,Y,Y,Y,Y,Y,Y,Y,Y,Z,Z,Z] rfl rfl (one_of HT_.out (by kernel_rfl)) (by decide) (fun K hK=>?_);refine Kd.R_append_rows_step k88 (w0:=w) w.heap.size (by rfl) (.tmp 22) (.tmp 26) 29 88 (.agg #[(.int .i64 0),(.int .i64 0)]) 16 rfl Try.underlying29 info88 rfl (by decide) (by omega) v562 y561 y564 _ _ _ (fun _=>True) (fun _=>False) rfl rfl ?aO ?aR (fun _ _ h=>h) (fun _ h=>h.elim) ?aF ?aB ?aS ?aL ?_;(case aR=>exact Kd.C_mv (Kd.C_below HR567.out HB.out))
        (case aB=>exact (bm HB))
        (case aF=>exact (fun _ _=>trivial))
        (case aO=>exact (Kd.R_mv HO563.out))
        (case aS=>exact (below_size (bm HB)))
        (case aL=>have:=LMc18.out;omega)
        intro v569 w52 ho hb hg hat;rw [← Ny568.out] at ho;refine ev5 (Kd.R_over' (Kd.R_mv HO_4.out) (Kd.R_typed (Kd.R_mv HO563.out)) (by decide) hg) (blk_grown (km_ BK557) hg (Kd.R_ne HO563.out BK557.out (by decide))) (blk_grown (km_ BK560) hg (Kd.R_ne HO563.out BK560.out (by decide))) (hb) (ho) ?_;clear HO_4 BK557 BK560 HB HO563;intro HO_4 BK557 BK560 HB HO570;clear ho hb hg hat;refine hK.out _ _ ⟨(blk_cell BK557.out 0).trans rfl,(blk_cell BK557.out 1).trans rfl,(blk_cell BK557.out 2).trans rfl,(blk_cell BK557.out 3).trans rfl,(blk_cell BK557.out 4).trans rfl⟩ (fun hHeld=>?_);clear hK K;refine norm_ (a':=?_) ?_ ?_;rotate_left
        ·show Act.put _ (some 27) _ = _
         simp only [Act.put,za_,zb_,zc_,i64_w,i32_w];rfl
        refine one_ (i:=11) (N:=some 33) #[Y,Y,Y,Y,Y,Y,Y,Y,Y,Y,Y,Y,Z,Z] rfl rfl (one_of HT_.out (by kernel_rfl)) (by decide) (fun K hK=>?_);refine Kd.R_append_rows_step k88 (w0:=w) w.heap.size (by rfl) (.tmp 27) (.tmp 32) 29 88 (.agg #[(.int .i64 0),(.int .i64 0)]) 16 rfl Try.underlying29 info88 rfl (by decide) (by omega) v569 y568 y571 _ _ _ (fun _=>True) (fun _=>False) rfl rfl ?aO ?aR (fun _ _ h=>h) (fun _ h=>h.elim) ?aF ?aB ?aS ?aL ?_;(case aR=>exact Kd.C_mv (Kd.C_below HR574.out HB.out))
        (case aB=>exact (bm HB))
        (case aF=>exact (fun _ _=>trivial))
        (case aO=>exact (Kd.R_mv HO570.out))
        (case aS=>exact (below_size (bm HB)))
        (case aL=>have:=LMc22.out;omega)
        intro v576 w53 ho hb hg hat;rw [← Ny575.out] at ho;refine ev5 (Kd.R_over' (Kd.R_mv HO_4.out) (Kd.R_typed (Kd.R_mv HO570.out)) (by decide) hg) (blk_grown (km_ BK557) hg (Kd.R_ne HO570.out BK557.out (by decide))) (blk_grown (km_ BK560) hg (Kd.R_ne HO570.out BK560.out (by decide))) (hb) (ho) ?_;clear HO_4 BK557 BK560 HB HO570;intro HO_4 BK557 BK560 HB HO577;clear ho hb hg hat;obtain ⟨Ao54,co54,eo54⟩:=Kd.R_slice HO577.out;(first | subst eo54 | (injection eo54 with f1_ f2_ f3_;have f4_:=f1_.symm;have f5_:=f3_.symm;clear f1_ f2_ f3_;subst f4_;subst f5_))
        refine hK.out _ _ ⟨(blk_cell BK557.out 0).trans rfl,(blk_cell BK557.out 1).trans rfl,(blk_cell BK557.out 2).trans rfl,(blk_cell BK557.out 3).trans rfl,(blk_cell BK557.out 4).trans rfl⟩ (fun hHeld=>?_);clear hK K;refine norm_ (a':=?_) ?_ ?_;rotate_left
        ·show Act.put _ (some 33) _ = _
         simp only [Act.put,za_,zb_,zc_,i64_w,i32_w];rfl
        refine pA 12 (some 34) ?_ #[Y,Y,Y,Y,Y,Y,Y,Y,Y,Y,Y,Y,Y,Z] rfl rfl HT_ (by kernel_rfl) (fun _ _ _ h=>h) (by rfl) ?_ ?_ ?_ ?_;rotate_left
        ·intro w';go_simp;with_reducible rfl
        rotate_left
        ·simp only [Act.put,za_,zb_,zc_,i64_w,i32_w];rfl
        refine one_ (i:=13) (N:=none) #[Y,Y,Y,Y,Y,Y,Y,Y,Y,Y,Y,Y,Y,Y] rfl rfl (one_of HT_.out (by kernel_rfl)) (by decide) (fun K hK=>?_);have hs55:w53.cell? ⟨gb560,2,none⟩ = some (.slice A0_2 l0_2.length c0_2):=(blk_cell BK560.out 2).trans rfl;have hfs55:=blk_frozen BK560.out 2;have hns55_0:=NB557_560.out;have hms55_0:=NB560_557.out;refine skip_ (w1:=?_) (by rfl) rfl ?_ ?_;rotate_left
        ·go_simp;rfl
        refine hK.out _ _ ⟨((cell_far (p:=⟨gb560,_,none⟩) NB557_560.out _).trans (hHeld.1)),((cell_far (p:=⟨gb560,_,none⟩) NB557_560.out _).trans (hHeld.2.1)),((cell_far (p:=⟨gb560,_,none⟩) NB557_560.out _).trans (hHeld.2.2.1)),((cell_far (p:=⟨gb560,_,none⟩) NB557_560.out _).trans (hHeld.2.2.2.1)),((cell_far (p:=⟨gb560,_,none⟩) NB557_560.out _).trans (hHeld.2.2.2.2))⟩ (fun hHeld=>?_);clear hK K;refine done_ (done_of HT_.out (by kernel_rfl)) ?_;obtain ⟨hcz56_0,hcz56_1,hcz56_2,hcz56_3,hcz56_4,hfz56_0,hfz56_1,hfz56_2,hfz56_3,hfz56_4⟩:=bt5 BK560;try go_wp2_with (first | ((with_reducible refine gate_callee (f:=68) rfl ?_);refine gL_ (some 36) Try.func68 #[.agg #[.int .i64 a0_0,.int .i64 a0_1,.slice Ao54 y575.length co54,.slice A0_3 l0_3.length c0_3,.slice A0_4 l0_4.length c0_4]] (h:=?_);(with_reducible refine (spec_syCan.calls k2 a0_0 a0_1 _ _ y575 _ _ l0_3 _ _ l0_4 false _ ?side1 ((Kd.R_reads' HO577.out).2.1) (Kd.C_below HR0_3.out (bm HB)) HC0_3.out (Kd.C_below HR0_4.out (bm HB)) HC0_4.out A23.out).mono ?_);(case side1=>exact (Kd.R_reads' (Kd.R_ft HO577.out BK560.out (by decide))).2.2);rintro e w57 ⟨rfl,hb⟩;refine ⟨_,rfl,?_⟩;refine ev5 (Kd.R_below (Kd.R_ft HO_4.out BK560.out (by decide)) hb) (Kd.R_below (Kd.R_ft HO577.out BK560.out (by decide)) hb) (blk_below (g:=gb557) (o:=.cells #[.int .i64 a0_0,.int .i64 a0_1,.slice A0_2 l0_2.length c0_2,.slice A0_3 l0_3.length c0_3,.slice A0_4 l0_4.length c0_4] 31 (0,0)) (fp BK557 rfl) hb) (blk_below (g:=gb560) (o:=.cells #[.int .i64 a0_0,.int .i64 a0_1,.slice Ao54 y575.length co54,.slice A0_3 l0_3.length c0_3,.slice A0_4 l0_4.length c0_4] 31 (0,0)) (fp BK560 rfl) hb) (bs HB hb) ?_;clear HO_4 HO577 BK557 BK560 HB;intro HO_4 HO577 BK557 BK560 HB;(try clear hb)) | ((with_reducible refine gate_builtin (b:=.append) (xs:=#[.tmp 38,.tmp 40]) rfl ?_);at_builtin;refine Kd.R_append (Kd.int .i64) (w0:=w) w.heap.size rfl (.tmp 38) (.tmp 40) 23 3 (.int .i64 0) 8 rfl Try.underlying23 info3 rfl (by decide) (by omega) u4 x4_2 x18_2 [.int .i64 x18_2] (fun _=>True) (fun _=>False) rfl rfl ?aP (fun _ hk=>hk.elim) ?aF ?aO ?aB ?aS ?aL ?_;(case aP=>exact rfl);(case aB=>exact (bm HB));(case aF=>exact (fun _ _=>trivial));(case aO=>exact (Kd.R_mv HO_4.out));(case aS=>exact (below_size (bm HB)));(case aL=>have:=LMc41.out;omega);intro v580 w58 ho hb hg hat;rw [← Ny579.out] at ho;refine ev5 (blk_grown (km_ BK557) hg (Kd.R_ne HO_4.out BK557.out (by decide))) (blk_grown (km_ BK560) hg (Kd.R_ne HO_4.out BK560.out (by decide))) (Kd.R_over' (Kd.R_mv HO577.out) (Kd.R_typed (Kd.R_mv HO_4.out)) (by decide) hg) (hb) (ho) ?_;clear BK557 BK560 HO577 HB HO_4;intro BK557 BK560 HO577 HB HO581;clear ho hb hg hat))
        go_roundg k2
        case measure=>have:=HJ1.out;have:=HK2.out;omega
        case rel=>exact ⟨(y579),(ji19),(by first | rfl | (simp;done) | (simp only [← hji19] <;> (first | rfl | simp)) | (simp [*];done)),H',⟨by have:=HJ1.out;have:=HK2.out;omega⟩,⟨Kd.R_mv HO581.out⟩,⟨km_ BK557⟩,⟨bm HB⟩⟩
      ·rw [if_neg c15] at H;have c15b0:decide (x18_2 < (l0_2.length:Int)) = false:=decide_eq_false c15;clear c15;simp only [Option.some.injEq,Prod.mk.injEq] at H;obtain ⟨rfl,rfl⟩:=H;go_wp2;go_ret2
       exact ⟨_,by first | rfl | (simp [e0_,e1_] <;> rfl) | (simp [*,e0_,e1_] <;> rfl),Kd.R_mv HO_4.out,bm HB⟩

/-! ### impl_countSolutions: function 69 -/
def impl_countSolutions.l0:Nat→Int→Int→Int→Int→List (S88)→List Int→List Int→Option (Int)
 | 0,_,_,_,_,_,_,_=>none
 | k + 1,x3,x10,x583000,x583001,x583002,x583003,x583004=>(impl_boardsTried.f k x583000 x583001 x583002 x583003 x583004).bind fun t583=>(if x10 < t583 then ((impl_boardOf.f k x583000 x583001 x583002 x583003 x583004 x10).bind fun bt584=>((impl_hasEnds.f k x583000 x583001 x583002 x583003 x583004 bt584.1 bt584.2.1 bt584.2.2).bind fun t590=>(if t590 = true then (impl_countSolutions.l0 k (wrap64 (x3 + 1)) (wrap64 (x10 + 1)) x583000 x583001 x583002 x583003 x583004) else (impl_countSolutions.l0 k x3 (wrap64 (x10 + 1)) x583000 x583001 x583002 x583003 x583004)))) else (some x3))
def impl_countSolutions.f (k:Nat) (a0_0:Int) (a0_1:Int) (l0_2:List (S88)) (l0_3:List Int) (l0_4:List Int):Option (Int):=impl_countSolutions.l0 k 0 0 a0_0 a0_1 l0_2 l0_3 l0_4
theorem count_fold (r c:Int) (p:List S88) (e ns:List Int):∀ (k:Nat) (s n q:Int),impl_countSolutions.l0 k s n r c p e ns = some q→solFold (fun _ s _ _ _=>some (wrap64 (s + 1),true)) r c p e ns k n s = some (q,true)
 | 0,_,_,_,h=>by simp [impl_countSolutions.l0] at h
 | k + 1,s,n,q,h=>by
  simp only [impl_countSolutions.l0] at h
  simp only [solFold]
  obtain ⟨t,h1,h⟩:=Option.bind_eq_some_iff.mp h
  rw [h1]
  simp only [Option.bind_some]
  split at h
  · rename_i ct
    rw [if_pos ct]
    obtain ⟨b,h2,h⟩:=Option.bind_eq_some_iff.mp h
    obtain ⟨y,h3,h⟩:=Option.bind_eq_some_iff.mp h
    rw [h2]
    simp only [Option.bind_some]
    rw [h3]
    simp only [Option.bind_some]
    split at h
    · rename_i cy
      rw [if_pos cy,if_pos trivial]
      exact count_fold r c p e ns k _ _ _ h
    · rename_i cy
      rw [if_neg cy]
      exact count_fold r c p e ns k _ _ _ h
  · rename_i ct
    rw [if_neg ct]
    cases h;rfl
theorem impl_countSolutions.calls (k:Nat) (a0_0:Int) (a0_1:Int) (A0_2:Option Addr) (c0_2:Nat) (l0_2:List (S88)) (A0_3:Option Addr) (c0_3:Nat) (l0_3:List Int) (A0_4:Option Addr) (c0_4:Nat) (l0_4:List Int) (r:Int) (w:World) (hr0_2:Kd.C k88 w A0_2 l0_2.length l0_2) (hc0_2:l0_2.length ≤ c0_2) (hr0_3:Kd.C (Kd.int .i64) w A0_3 l0_3.length l0_3) (hc0_3:l0_3.length ≤ c0_3) (hr0_4:Kd.C (Kd.int .i64) w A0_4 l0_4.length l0_4) (hc0_4:l0_4.length ≤ c0_4) (h:impl_countSolutions.f k a0_0 a0_1 l0_2 l0_3 l0_4 = some r) :
  Calls Try.prog 69 #[.agg #[.int .i64 a0_0,.int .i64 a0_1,.slice A0_2 l0_2.length c0_2,.slice A0_3 l0_3.length c0_3,.slice A0_4 l0_4.length c0_4]] w fun e w'=>e = .returned (.int .i64 r)∧Below w.heap.size w w':=by
 replace h:=count_fold _ _ _ _ _ k _ _ _ h
 have S:=St.init (w:=w) (dc k88_heap at88 hr0_2 hc0_2 (dc (Kd.heap_int .i64) (atI .i64) hr0_3 hc0_3 (dc (Kd.heap_int .i64) (atI .i64) hr0_4 hc0_4 dn)))
 have F:=S.fc
 refine (callsIn_wide (n:=9)).1 ?_
 refine callsIn_of_wp_marks Try.func69 rfl trivial ?_ rfl
 simp only [Try.ntmps69,List.size_toArray,List.length_cons,List.length_nil,Nat.reduceAdd,Nat.reduceSub,Array.replicate_succ,Array.replicate_zero,List.push_toArray,List.append_toArray,List.nil_append,List.cons_append]
 refine wpIn_wide.2 ?_
 go_wp2_with (first | ((with_reducible refine gd 1 rfl (L ?_));refine bo 1 (.agg #[_,_,_,_,_]) S ?_;clear S F;intro gb W S;have F:=S.fc) | ((with_reducible refine gd 3 rfl (L ?_));refine al 3 S zi3 ?_;clear S F;intro gn W S;have F:=S.fc) | ((with_reducible refine gs (t:=3) rfl (L ?_));(first | refine sb (.int .i64 _) S sz3 ?_ | refine ro (.int .i64 _) S sz3 ?_ (ho:=rfl) (hx:=rfl) (hy:=rfl));(clear S F;intro W S;have F:=S.fc)) | ((with_reducible refine gate_callee (f:=72) rfl (L ?_));have hgn:=bx_of S;refine cl (some 5) Try.func72 (impl_solutionsOf.calls _ _ _ _ _ _ _ _ _ _ _ W) (hargs:=by (simp only [ma_,mb_,mc_,F] <;> rfl)) (h:=?_);rintro e W2 ⟨gc,rfl,hgc,hge,hb⟩;refine ⟨_,rfl,?_⟩;replace S:=S.go hb;clear F hb;have F:=S.fc))
 (try simp only [Act.put,za_,zb_,zc_])
 have hB:=S.below
 have hgn2:=bx_of S
 have hlt:=blk_lt hgn2.1
 have hlc:=blk_lt hgc
 have hne:gc ≠ gn:=by have:=blk_lt hgn.1;omega
 have hsz:=hB.size
 clear F S hgn
 refine (wpIn_wide (n:=9)).1 ?_
 refine wpIn_folds (σ:=Int) (gf:=105) (lb:=#[.pointer (some ⟨gc,0,none⟩)]) (fin:=fun s' go=>(r,true) = (s',go)) (s0:=0) rfl (by decide) rfl trivial (enters_ Try.func105 (by kernel_rfl) rfl)
  (fun Wl hb hz=>sols_folds (fun _ s _ _ _=>some (wrap64 (s + 1),true)) _ k gc a0_0 a0_1 A0_2 c0_2 l0_2 A0_3 c0_3 l0_3 A0_4 c0_4 l0_4 0 (r,true) (fun j=>j = gn∨j = W2.heap.size + 1) 0 Wl (Nat.zero_le _) (fun W' hk=>?hq) hc0_2 hc0_3 hc0_4 h)
  kept_trans (fun W o _=>kept_put _ _ (.inr rfl)) (fun s args W s' go hR=>by obtain ⟨_,_,_,_,_,_,_,rfl,_⟩:=hR;rfl)
  (fun s W=>bxr gn 3 [.int .i64 s] W∧Below w.heap.size w W) (fun _ _ _=>False)
  (fun s W W' hs hg=>⟨bxr_grown hs.1 hg (by omega),hs.2.grown hg hs.2.size (fun k e=>by cases e;omega)⟩) (fun _ _ _ _ h _=>h)
  ⟨hgn2.1,hB⟩
  (fun s args a' s' go W=>(bxr gn 3 [.int .i64 s] W∧Below w.heap.size w W)∧s' = wrap64 (s + 1)∧go = true∧∃ v,a' = { tmps:=#[.agg #[.int .i64 a0_0,.int .i64 a0_1,.slice A0_2 l0_2.length c0_2,.slice A0_3 l0_3.length c0_3,.slice A0_4 l0_4.length c0_4],.pointer (some ⟨gb,0,none⟩),.int .i64 0,.pointer (some ⟨gn,0,none⟩),.agg #[.int .i64 a0_0,.int .i64 a0_1,.slice A0_2 l0_2.length c0_2,.slice A0_3 l0_3.length c0_3,.slice A0_4 l0_4.length c0_4],.func (.func 105) #[] #[.pointer (some ⟨gc,0,none⟩)],v,undef,undef,undef],defers:=[] }) ?hA ?assign ?body ?done ?stop
 case hq =>
  have key:∀ j,j < w.heap.size→W'.heap[j]? = w.heap[j]?:=fun j hj=>(hk.2 j (by have:=hb.size;omega) (by have:=hgn2.2;omega)).trans ((hb.block j (by omega)).trans (hB.block j hj))
  exact ⟨(hk.2 gc (by have:=hb.size;omega) (by omega)).trans ((hb.block gc hlc).trans hgc),k88_heap.C key hr0_2,(Kd.heap_int .i64).C key hr0_3,(Kd.heap_int .i64).C key hr0_4⟩
 case hA=>exact fun s args a' s' go _ W W' hs hg=>⟨⟨bxr_grown hs.1.1 hg (by omega),hs.1.2.grown hg hs.1.2.size (fun k e=>by cases e;omega)⟩,hs.2⟩
 case assign =>
  intro l s args W s' go K hz hi hR hK
  obtain ⟨_,bR,bC,bX,hst,A,cap,rfl,_⟩:=hR
  cases hst
  exact wpIn_skip (hK _ _ (KeepsFrom.refl _ _) (Kept.refl _ _) ⟨hi,rfl,rfl,.agg #[.int .i64 bR,.int .i64 bC,.slice A bX.length cap],by simp⟩)
 case body =>
  rintro l s args a' W s' go ⟨⟨hc,hB3⟩,rfl,rfl,v,rfl⟩
  have S:=St_box hB3 hgn2.2 hc dn
  have F:=S.fc
  refine wpIn_block (reg_in rfl (by rintro ⟨_,_,h⟩;exact h) ?_)
  go_wp2_with ((with_reducible refine gs (t:=3) rfl (L ?_));(first | refine sb (.int .i64 _) S sz3 ?_ | refine ro (.int .i64 _) S sz3 ?_ (ho:=rfl) (hx:=rfl) (hy:=rfl));(clear S F;intro W S;have F:=S.fc))
  exact ⟨rfl,keeps_of hc S.kept,S.kept.mono (fun _ h=>.inl h),bx_at S 0 rfl,S.below⟩
 case done =>
  rintro s' W hs ⟨hc,hB3⟩ hD
  cases hs
  have hcell:=(blk_cell hc 0).trans rfl
  go_wp2
  refine ⟨by simp,.inl ⟨_,_,rfl,run_takeDeferred hD,?_⟩⟩
  exact ⟨_,results_tmp rfl _ _ _,rfl,hB3.grown (grownBy_putObj' W _ _) hB3.size (fun k e=>by cases e;exact hsz)⟩
 case stop=>exact fun c s' W _ h _=>h.elim

/-! ### impl_UsefulParts: function 20 -/
mutual
def impl_UsefulParts.j0:Nat→Bool→Int→Int→List (S88)→List Int→List Int→Option (List Int × Bool)
 | 0,_,_,_,_,_,_=>none
 | k + 1,x14,x592000,x592001,x592002,x592003,x592004=>if x14 = true then (some (([]:List Int),false)) else (impl_UsefulParts.l0 k (([]:List Int)) (x592002.length:Int) 0 x592000 x592001 x592002 x592003 x592004)
def impl_UsefulParts.l0:Nat→List Int→Int→Int→Int→Int→List (S88)→List Int→List Int→Option (List Int × Bool)
 | 0,_,_,_,_,_,_,_,_=>none
 | k + 1,x4,x18,x19,x592000,x592001,x592002,x592003,x592004=>if x19 < x18 then ((some (([]:List (S88)):List (S88))).bind fun y598=>(if 0 ≤ x19 then (if x19 ≤ (x592002.length:Int) then ((some (x592002.take (x19:Int).toNat:List (S88))).bind fun y601=>(if y598.length + y601.length < 8796093022208 then ((some (y598 ++ y601:List (S88))).bind fun y605=>(if 0 ≤ (wrap64 (x19 + 1)) then (if (wrap64 (x19 + 1)) ≤ (x592002.length:Int) then ((some (x592002.drop ((wrap64 (x19 + 1)):Int).toNat:List (S88))).bind fun y608=>(if y605.length + y608.length < 8796093022208 then ((impl_countSolutions.f k x592000 x592001 (y605 ++ y608) x592003 x592004).bind fun t615=>(if t615 = 0 then (if x4.length < 17592186044416 then (impl_UsefulParts.l0 k (x4 ++ [x19]) x18 (wrap64 (x19 + 1)) x592000 x592001 x592002 x592003 x592004) else (none)) else (impl_UsefulParts.l0 k x4 x18 (wrap64 (x19 + 1)) x592000 x592001 x592002 x592003 x592004))) else (none))) else (none)) else (none))) else (none))) else (none)) else (none))) else (some (x4,true))
end
def impl_UsefulParts.f (k:Nat) (a0_0:Int) (a0_1:Int) (l0_2:List (S88)) (l0_3:List Int) (l0_4:List Int):Option (List Int × Bool):=(impl_IsChallenge.f k a0_0 a0_1 l0_2 l0_3 l0_4).bind fun t592=>(if t592 = true then ((impl_countSolutions.f k a0_0 a0_1 l0_2 l0_3 l0_4).bind fun t593=>(impl_UsefulParts.j0 k (t593 == 0) a0_0 a0_1 l0_2 l0_3 l0_4)) else (impl_UsefulParts.j0 k true a0_0 a0_1 l0_2 l0_3 l0_4))
def impl_UsefulParts.T8:Bool × List (List Nat × List Nat):=(true,[([],[]),([],[]),([1],[1]),([],[]),([2,3],[2,3]),([0,4],[0,4]),([],[]),([6],[6]),([],[]),([8],[8]),([7,9],[7,9]),([5,10,5],[5,10]),([0,1,2,3,4,5,6,7,8,9,10,11],[]),([12,11,11,0,1,2,3,4,5,6,7,8,9,10,11],[11,12])])
def impl_UsefulParts.B8:List Nat:=[0,0,2,0,14,31,0,64,0,256,960,2047,4095,8191]
theorem impl_UsefulParts.tab8:rtab .any (opsOf Try.f20 8) = impl_UsefulParts.T8:=by kernel_rfl
theorem impl_UsefulParts.bits8:waitsOk impl_UsefulParts.T8.2 impl_UsefulParts.B8 = true:=by kernel_rfl
theorem impl_UsefulParts.calls (k:Nat) (a0_0:Int) (a0_1:Int) (A0_2:Option Addr) (c0_2:Nat) (l0_2:List (S88)) (A0_3:Option Addr) (c0_3:Nat) (l0_3:List Int) (A0_4:Option Addr) (c0_4:Nat) (l0_4:List Int) (r1:List Int) (r2:Bool) (w:World) (hr0_2:Kd.C k88 w A0_2 l0_2.length l0_2) (hc0_2:l0_2.length ≤ c0_2) (hr0_3:Kd.C (Kd.int .i64) w A0_3 l0_3.length l0_3) (hc0_3:l0_3.length ≤ c0_3) (hr0_4:Kd.C (Kd.int .i64) w A0_4 l0_4.length l0_4) (hc0_4:l0_4.length ≤ c0_4) (h:impl_UsefulParts.f k a0_0 a0_1 l0_2 l0_3 l0_4 = some (r1,r2)) :
  Calls Try.prog 20 #[.agg #[.int .i64 a0_0,.int .i64 a0_1,.slice A0_2 l0_2.length c0_2,.slice A0_3 l0_3.length c0_3,.slice A0_4 l0_4.length c0_4]] w fun e w'=>∃ v0_:Value,e = .returned (.tuple #[v0_,.bool r2])∧Kd.R (Kd.int .i64) 3 w' w.heap.size (fun _=>True) v0_ r1∧Below w.heap.size w w':=by
 have HR0_2:=Aside0.mk hr0_2;have HC0_2:=Aside0.mk hc0_2;clear hr0_2 hc0_2;have HR0_3:=Aside0.mk hr0_3;have HC0_3:=Aside0.mk hc0_3;clear hr0_3 hc0_3;have HR0_4:=Aside0.mk hr0_4;have HC0_4:=Aside0.mk hc0_4;clear hr0_4 hc0_4;have HB:=Aside0.mk (Below.refl w.heap.size w);have H:((impl_IsChallenge.f k a0_0 a0_1 l0_2 l0_3 l0_4).bind fun t592=>(if t592 = true then ((impl_countSolutions.f k a0_0 a0_1 l0_2 l0_3 l0_4).bind fun t593=>(impl_UsefulParts.j0 k (t593 == 0) a0_0 a0_1 l0_2 l0_3 l0_4)) else (impl_UsefulParts.j0 k true a0_0 a0_1 l0_2 l0_3 l0_4))) = some (r1,r2):=h;clear h;have HC2:=Aside0.mk H;clear H;go_enter Try.func20,Try.ntmps20;go_upto_region 1 with (first | ((with_reducible refine gate_dst (N:=1) rfl ?_);refine box_event ?hg (N:=1) ?hd (cs:=#[.int .i64 a0_0,.int .i64 a0_1,.slice A0_2 l0_2.length c0_2,.slice A0_3 l0_3.length c0_3,.slice A0_4 l0_4.length c0_4]) (t:=31) ?hr ?_;(case hd=>rfl);(case hg=>rfl);(case hr=>first | (go_simp;done) | (go_simp;rfl));intro gb591 hg w3 hbox hb;refine ev4 (bs HB hb) (hbox) (gle hg HB) (gle hg HB) ?_;clear HB;intro HB BK591 GW591 GE591;clear hb hbox hg))
 (try simp only [Act.put,za_,zb_,zc_])
 go_cut [14] (fun v14 wc=>∃ (kq:Nat) (x14_1:Bool),v14 = .bool x14_1∧Aside0 (impl_UsefulParts.j0 kq x14_1 a0_0 a0_1 l0_2 l0_3 l0_4 = some (r1,r2))∧Aside0 (kq ≤ k)∧Aside0 (wc.heap[gb591]? = some (.cells #[.int .i64 a0_0,.int .i64 a0_1,(.slice A0_2 l0_2.length c0_2),(.slice A0_3 l0_3.length c0_3),(.slice A0_4 l0_4.length c0_4)] 31 (0,0)))∧Aside0 (Below w.heap.size w wc))
 case first =>
  have H:=HC2.out;clear HC2;replace H:=Option.bind_eq_some_iff.mp H;obtain ⟨t592,A40,H⟩:=H;(try dsimp only at H)
  have A4:=Aside0.mk A40;clear A40;by_cases c5:t592 = true
  ·subst c5;have H1:((impl_countSolutions.f k a0_0 a0_1 l0_2 l0_3 l0_4).bind fun t593=>(impl_UsefulParts.j0 k (t593 == 0) a0_0 a0_1 l0_2 l0_3 l0_4)) = some (r1,r2):=by rw [if_pos rfl] at H;exact H
   clear H;have H:=H1;clear H1;replace H:=Option.bind_eq_some_iff.mp H;obtain ⟨t593,A60,H⟩:=H;(try dsimp only at H)
   have A6:=Aside0.mk A60;clear A60;have H':=Aside0.mk H;clear H;obtain ⟨hcz7_0,hcz7_1,hcz7_2,hcz7_3,hcz7_4,hfz7_0,hfz7_1,hfz7_2,hfz7_3,hfz7_4⟩:=bt5 BK591;go_wp2_with (first | ((with_reducible refine gate_callee (f:=63) rfl ?_);refine gL_ (some 8) Try.func63 #[.agg #[.int .i64 a0_0,.int .i64 a0_1,.slice A0_2 l0_2.length c0_2,.slice A0_3 l0_3.length c0_3,.slice A0_4 l0_4.length c0_4]] (h:=?_);(with_reducible refine (impl_IsChallenge.calls k a0_0 a0_1 _ _ l0_2 _ _ l0_3 _ _ l0_4 true _ (Kd.C_mv (Kd.C_below HR0_2.out HB.out)) HC0_2.out (Kd.C_mv (Kd.C_below HR0_3.out HB.out)) HC0_3.out (Kd.C_mv (Kd.C_below HR0_4.out HB.out)) HC0_4.out A4.out).mono ?_);rintro e w8 ⟨rfl,hb⟩;refine ⟨_,rfl,?_⟩;refine ev2 (kb BK591 hb) (bs HB hb) ?_;clear BK591 HB;intro BK591 HB;(try clear hb);obtain ⟨hcz9_0,hcz9_1,hcz9_2,hcz9_3,hcz9_4,hfz9_0,hfz9_1,hfz9_2,hfz9_3,hfz9_4⟩:=bt5 BK591) | (go_at_call 69;(with_reducible refine (impl_countSolutions.calls k a0_0 a0_1 _ _ l0_2 _ _ l0_3 _ _ l0_4 t593 _ (Kd.C_mv (Kd.C_below HR0_2.out HB.out)) HC0_2.out (Kd.C_mv (Kd.C_below HR0_3.out HB.out)) HC0_3.out (Kd.C_mv (Kd.C_below HR0_4.out HB.out)) HC0_4.out A6.out).mono ?_);rintro e w10 ⟨rfl,hb⟩;refine ev2 (kb BK591 hb) (bs HB hb) ?_;clear BK591 HB;intro BK591 HB;(try clear hb)))
   go_meet
   case rel=>exact ⟨_,((t593 == 0)),(by first | rfl | (simp;done) | (simp [*];done)),H',⟨by first | omega | exact Nat.le_refl _⟩,⟨km_ BK591⟩,⟨bm HB⟩⟩
  ·replace c5:=Bool.eq_false_iff.mpr c5;subst c5;have H1:(impl_UsefulParts.j0 k true a0_0 a0_1 l0_2 l0_3 l0_4) = some (r1,r2):=by rw [if_neg (show ¬ (false = true) by decide)] at H;exact H
   clear H;have H:=H1;clear H1;have H':=Aside0.mk H;clear H;obtain ⟨hcz11_0,hcz11_1,hcz11_2,hcz11_3,hcz11_4,hfz11_0,hfz11_1,hfz11_2,hfz11_3,hfz11_4⟩:=bt5 BK591;go_wp2_with (first | ((with_reducible refine gate_callee (f:=63) rfl ?_);refine gL_ (some 8) Try.func63 #[.agg #[.int .i64 a0_0,.int .i64 a0_1,.slice A0_2 l0_2.length c0_2,.slice A0_3 l0_3.length c0_3,.slice A0_4 l0_4.length c0_4]] (h:=?_);(with_reducible refine (impl_IsChallenge.calls k a0_0 a0_1 _ _ l0_2 _ _ l0_3 _ _ l0_4 false _ (Kd.C_mv (Kd.C_below HR0_2.out HB.out)) HC0_2.out (Kd.C_mv (Kd.C_below HR0_3.out HB.out)) HC0_3.out (Kd.C_mv (Kd.C_below HR0_4.out HB.out)) HC0_4.out A4.out).mono ?_);rintro e w12 ⟨rfl,hb⟩;refine ⟨_,rfl,?_⟩;refine ev2 (kb BK591 hb) (bs HB hb) ?_;clear BK591 HB;intro BK591 HB;(try clear hb)))
   go_meet
   case rel=>exact ⟨_,(true),(by first | rfl | (simp;done) | (simp [*];done)),H',⟨by first | omega | exact Nat.le_refl _⟩,⟨km_ BK591⟩,⟨bm HB⟩⟩
 case rest =>
  clear HC2;(try clear c2);obtain ⟨kq,x14_1,rfl,HA,HJ1,BK591,HB⟩:=hcut;cases kq with
  | zero=>exact absurd HA.out (by simp [impl_UsefulParts.j0])
  | succ kj1 =>
   have H:=HA.out;clear HA;simp only [impl_UsefulParts.j0] at H;by_cases c13:x14_1 = true
   ·subst c13;have H1:(some (([]:List Int),false)) = some (r1,r2):=by rw [if_pos rfl] at H;exact H
    clear H;have H:=H1;clear H1;simp only [Option.some.injEq,Prod.mk.injEq] at H;obtain ⟨rfl,rfl⟩:=H;go_wp2;go_ret2
    exact ⟨_,by first | rfl | (simp [e0_,e1_] <;> rfl) | (simp [*,e0_,e1_] <;> rfl),by first | exact Kd.R_nil _ _ _ _ _ | exact Kd.N_nil _ _ _ _ _ | exact Kd.V_nil _ _ _ _ _ | exact Kd.Q_nil _ _ _ _ _ | exact Kd.S_nil _ _ _ _ _,bm HB⟩
   ·replace c13:=Bool.eq_false_iff.mpr c13;subst c13;have H1:(impl_UsefulParts.l0 kj1 (([]:List Int)) (l0_2.length:Int) 0 a0_0 a0_1 l0_2 l0_3 l0_4) = some (r1,r2):=by rw [if_neg (show ¬ (false = true) by decide)] at H;exact H
    clear H;have H:=H1;clear H1;obtain ⟨y594,hy594⟩:∃ y_:List Int,y_ = (([]:List Int)):=⟨_,rfl⟩
    replace H:(impl_UsefulParts.l0 kj1 y594 (l0_2.length:Int) 0 a0_0 a0_1 l0_2 l0_3 l0_4) = some (r1,r2):=by first | (rw [hy594];with_reducible exact H) | (have H2_:=(Option.bind_some _ _).symm.trans H;rw [hy594];with_reducible exact H2_) | (have H2_:=(Option.bind_some _ _).symm.trans H;with_reducible exact H2_) | with_reducible exact H | (rw [hy594];exact H) | exact H
    have Ny594:=Aside0.mk hy594;clear hy594;have H':=Aside0.mk H;clear H;go_wp2_with (first | ((with_reducible refine gate_dst (N:=15) rfl ?_);refine Kd.R_lit (Kd.int .i64) _ 3 ?hg (N:=15) ?hd (xs:=([]:List Int)) (inner:=[]) (ok:=fun _=>True) (okp:=fun _=>True) ?hr ?hp (fun _ hk=>hk) trivial (Below.refl _ _) (Nat.le_refl _) (by simp) ?_;(case hd=>rfl);(case hg=>rfl);(case hr=>first | (go_simp;done) | (go_simp;rfl));(case hp=>exact (Reps.none _ _));intro v595 w14 ho15 hb hg_ hnew_;clear hg_ hnew_;(first | rw [← Ny594.out] at ho15 | (simp only [Int.reduceToNat] at ho15;rw [← Ny594.out] at ho15));refine ev3 (Kd.R_lower ho15 (below_size (bm HB))) (kb BK591 hb) (bs HB hb) ?_;clear BK591 HB;intro HO596 BK591 HB;clear hb ho15;obtain ⟨hcz16_0,hcz16_1,hcz16_2,hcz16_3,hcz16_4,hfz16_0,hfz16_1,hfz16_2,hfz16_3,hfz16_4⟩:=bt5 BK591))
    go_loopg [4,19] kj1 (fun kq v4 v19 w'=>∃ (x4_2:List Int) (x19_2:Int),v19 = .int .i64 x19_2∧Aside0 (impl_UsefulParts.l0 kq x4_2 (l0_2.length:Int) x19_2 a0_0 a0_1 l0_2 l0_3 l0_4 = some (r1,r2))∧Aside0 (kq ≤ kj1)∧Aside0 (Kd.R (Kd.int .i64) 3 w' w.heap.size (fun _=>True) v4 x4_2)∧Aside0 (w'.heap[gb591]? = some (.cells #[.int .i64 a0_0,.int .i64 a0_1,(.slice A0_2 l0_2.length c0_2),(.slice A0_3 l0_3.length c0_3),(.slice A0_4 l0_4.length c0_4)] 31 (0,0)))∧Aside0 (Below w.heap.size w w'))
    case atStart=>exact ⟨(y594),(0),(by first | rfl | (simp;done) | (simp [*];done)),H',⟨Nat.le_refl _⟩,⟨Kd.R_mv HO596.out⟩,⟨km_ BK591⟩,⟨bm HB⟩⟩
    case round =>
     clear H';(try clear c1);(try clear c2);(try clear p2);(try clear c13);(try clear hcz16_0 hcz16_1 hcz16_2 hcz16_3 hcz16_4 hfz16_0 hfz16_1 hfz16_2 hfz16_3 hfz16_4);obtain ⟨x4_2,x19_2,rfl,HA,HK2,HO_4,BK591,HB⟩:=hrel;cases gk with
     | zero=>exact absurd HA.out (by simp [impl_UsefulParts.l0])
     | succ k2 =>
      have H:=HA.out;clear HA;simp only [impl_UsefulParts.l0] at H;by_cases c17:x19_2 < (l0_2.length:Int)
      ·rw [if_pos c17] at H;have c17b0:decide (x19_2 < (l0_2.length:Int)) = true:=decide_eq_true c17;clear c17;obtain ⟨y598,hy598⟩:∃ y_:List (S88),y_ = (([]:List (S88))):=⟨_,rfl⟩
       replace H:(if 0 ≤ x19_2 then (if x19_2 ≤ (l0_2.length:Int) then ((some (l0_2.take (x19_2:Int).toNat:List (S88))).bind fun y601=>(if y598.length + y601.length < 8796093022208 then ((some (y598 ++ y601:List (S88))).bind fun y605=>(if 0 ≤ (wrap64 (x19_2 + 1)) then (if (wrap64 (x19_2 + 1)) ≤ (l0_2.length:Int) then ((some (l0_2.drop ((wrap64 (x19_2 + 1)):Int).toNat:List (S88))).bind fun y608=>(if y605.length + y608.length < 8796093022208 then ((impl_countSolutions.f k2 a0_0 a0_1 (y605 ++ y608) l0_3 l0_4).bind fun t615=>(if t615 = 0 then (if x4_2.length < 17592186044416 then (impl_UsefulParts.l0 k2 (x4_2 ++ [x19_2]) (l0_2.length:Int) (wrap64 (x19_2 + 1)) a0_0 a0_1 l0_2 l0_3 l0_4) else (none)) else (impl_UsefulParts.l0 k2 x4_2 (l0_2.length:Int) (wrap64 (x19_2 + 1)) a0_0 a0_1 l0_2 l0_3 l0_4))) else (none))) else (none)) else (none))) else (none))) else (none)) else (none)) = some (r1,r2):=by first | (rw [hy598];with_reducible exact H) | (have H2_:=(Option.bind_some _ _).symm.trans H;rw [hy598];with_reducible exact H2_) | (have H2_:=(Option.bind_some _ _).symm.trans H;with_reducible exact H2_) | with_reducible exact H | (rw [hy598];exact H) | exact H
       have Ny598:=Aside0.mk hy598;clear hy598;replace H:=np_ H;obtain ⟨c18,H⟩:=H;have c18b0:=eq_true c18;have c18b1:decide (0 ≤ x19_2) = true:=decide_eq_true c18;clear c18;replace H:=np_ H;obtain ⟨c19,H⟩:=H;have c19b0:=eq_true c19;have c19b1:decide (x19_2 ≤ (l0_2.length:Int)) = true:=decide_eq_true c19;clear c19;obtain ⟨y601,hy601⟩:∃ y_:List (S88),y_ = (l0_2.take (x19_2:Int).toNat):=⟨_,rfl⟩
       replace H:(if y598.length + y601.length < 8796093022208 then ((some (y598 ++ y601:List (S88))).bind fun y605=>(if 0 ≤ (wrap64 (x19_2 + 1)) then (if (wrap64 (x19_2 + 1)) ≤ (l0_2.length:Int) then ((some (l0_2.drop ((wrap64 (x19_2 + 1)):Int).toNat:List (S88))).bind fun y608=>(if y605.length + y608.length < 8796093022208 then ((impl_countSolutions.f k2 a0_0 a0_1 (y605 ++ y608) l0_3 l0_4).bind fun t615=>(if t615 = 0 then (if x4_2.length < 17592186044416 then (impl_UsefulParts.l0 k2 (x4_2 ++ [x19_2]) (l0_2.length:Int) (wrap64 (x19_2 + 1)) a0_0 a0_1 l0_2 l0_3 l0_4) else (none)) else (impl_UsefulParts.l0 k2 x4_2 (l0_2.length:Int) (wrap64 (x19_2 + 1)) a0_0 a0_1 l0_2 l0_3 l0_4))) else (none))) else (none)) else (none))) else (none)) = some (r1,r2):=by first | (rw [hy601];with_reducible exact H) | (have H2_:=(Option.bind_some _ _).symm.trans H;rw [hy601];with_reducible exact H2_) | (have H2_:=(Option.bind_some _ _).symm.trans H;with_reducible exact H2_) | with_reducible exact H | (rw [hy601];exact H) | exact H
       have Ny601:=Aside0.mk hy601;clear hy601;replace H:=np_ H;obtain ⟨c20,H⟩:=H;have LMc20:=Aside0.mk c20;clear c20;obtain ⟨y605,hy605⟩:∃ y_:List (S88),y_ = (y598 ++ y601):=⟨_,rfl⟩
       replace H:(if 0 ≤ (wrap64 (x19_2 + 1)) then (if (wrap64 (x19_2 + 1)) ≤ (l0_2.length:Int) then ((some (l0_2.drop ((wrap64 (x19_2 + 1)):Int).toNat:List (S88))).bind fun y608=>(if y605.length + y608.length < 8796093022208 then ((impl_countSolutions.f k2 a0_0 a0_1 (y605 ++ y608) l0_3 l0_4).bind fun t615=>(if t615 = 0 then (if x4_2.length < 17592186044416 then (impl_UsefulParts.l0 k2 (x4_2 ++ [x19_2]) (l0_2.length:Int) (wrap64 (x19_2 + 1)) a0_0 a0_1 l0_2 l0_3 l0_4) else (none)) else (impl_UsefulParts.l0 k2 x4_2 (l0_2.length:Int) (wrap64 (x19_2 + 1)) a0_0 a0_1 l0_2 l0_3 l0_4))) else (none))) else (none)) else (none)) = some (r1,r2):=by first | (rw [hy605];with_reducible exact H) | (have H2_:=(Option.bind_some _ _).symm.trans H;rw [hy605];with_reducible exact H2_) | (have H2_:=(Option.bind_some _ _).symm.trans H;with_reducible exact H2_) | with_reducible exact H | (rw [hy605];exact H) | exact H
       have Ny605:=Aside0.mk hy605;clear hy605;obtain ⟨ji21,hji21⟩:∃ j_:Int,(wrap64 (x19_2 + 1)) = j_:=⟨_,rfl⟩
       replace H:(if 0 ≤ (ji21) then (if (ji21) ≤ (l0_2.length:Int) then ((some (l0_2.drop ((ji21):Int).toNat:List (S88))).bind fun y608=>(if y605.length + y608.length < 8796093022208 then ((impl_countSolutions.f k2 a0_0 a0_1 (y605 ++ y608) l0_3 l0_4).bind fun t615=>(if t615 = 0 then (if x4_2.length < 17592186044416 then (impl_UsefulParts.l0 k2 (x4_2 ++ [x19_2]) (l0_2.length:Int) ji21 a0_0 a0_1 l0_2 l0_3 l0_4) else (none)) else (impl_UsefulParts.l0 k2 x4_2 (l0_2.length:Int) ji21 a0_0 a0_1 l0_2 l0_3 l0_4))) else (none))) else (none)) else (none)) = some (r1,r2):=by first | (rw [hji21] at H;exact H) | (simp only [hji21] at H ⊢;exact H)
       have hji21w:(IntKind.i64.wrap (x19_2 + 1)) = ji21:=(i64_w _).trans hji21;replace H:=np_ H;obtain ⟨c22,H⟩:=H;have c22b0:=eq_true c22;have c22b1:decide (0 ≤ (ji21)) = true:=decide_eq_true c22;clear c22;replace H:=np_ H;obtain ⟨c23,H⟩:=H;have c23b0:=eq_true c23;have c23b1:decide ((ji21) ≤ (l0_2.length:Int)) = true:=decide_eq_true c23;clear c23;obtain ⟨y608,hy608⟩:∃ y_:List (S88),y_ = (l0_2.drop ((ji21):Int).toNat):=⟨_,rfl⟩
       replace H:(if y605.length + y608.length < 8796093022208 then ((impl_countSolutions.f k2 a0_0 a0_1 (y605 ++ y608) l0_3 l0_4).bind fun t615=>(if t615 = 0 then (if x4_2.length < 17592186044416 then (impl_UsefulParts.l0 k2 (x4_2 ++ [x19_2]) (l0_2.length:Int) ji21 a0_0 a0_1 l0_2 l0_3 l0_4) else (none)) else (impl_UsefulParts.l0 k2 x4_2 (l0_2.length:Int) ji21 a0_0 a0_1 l0_2 l0_3 l0_4))) else (none)) = some (r1,r2):=by first | (rw [hy608];with_reducible exact H) | (have H2_:=(Option.bind_some _ _).symm.trans H;rw [hy608];with_reducible exact H2_) | (have H2_:=(Option.bind_some _ _).symm.trans H;with_reducible exact H2_) | with_reducible exact H | (rw [hy608];exact H) | exact H
       have Ny608:=Aside0.mk hy608;clear hy608;replace H:=np_ H;obtain ⟨c24,H⟩:=H;have LMc24:=Aside0.mk c24;clear c24;obtain ⟨y612,hy612⟩:∃ y_:List (S88),y_ = (y605 ++ y608):=⟨_,rfl⟩
       replace H:((impl_countSolutions.f k2 a0_0 a0_1 y612 l0_3 l0_4).bind fun t615=>(if t615 = 0 then (if x4_2.length < 17592186044416 then (impl_UsefulParts.l0 k2 (x4_2 ++ [x19_2]) (l0_2.length:Int) ji21 a0_0 a0_1 l0_2 l0_3 l0_4) else (none)) else (impl_UsefulParts.l0 k2 x4_2 (l0_2.length:Int) ji21 a0_0 a0_1 l0_2 l0_3 l0_4))) = some (r1,r2):=by first | (rw [hy612];with_reducible exact H) | (have H2_:=(Option.bind_some _ _).symm.trans H;rw [hy612];with_reducible exact H2_) | (have H2_:=(Option.bind_some _ _).symm.trans H;with_reducible exact H2_) | with_reducible exact H | (rw [hy612];exact H) | exact H
       have Ny612:=Aside0.mk hy612;clear hy612;replace H:=Option.bind_eq_some_iff.mp H;obtain ⟨t615,A250,H⟩:=H;(try dsimp only at H)
       have A25:=Aside0.mk A250;clear A250;by_cases c26:t615 = 0
       ·rw [if_pos c26] at H;have c26b0:(t615 == 0) = true:=beq_iff_eq.mpr c26;have c26b1:(t615 != 0) = false:=bne_eq_false_iff_eq.mpr c26;clear c26;replace H:=np_ H;obtain ⟨c27,H⟩:=H;have LMc27:=Aside0.mk c27;clear c27;obtain ⟨y616,hy616⟩:∃ y_:List Int,y_ = (x4_2 ++ [x19_2]):=⟨_,rfl⟩
        replace H:(impl_UsefulParts.l0 k2 y616 (l0_2.length:Int) ji21 a0_0 a0_1 l0_2 l0_3 l0_4) = some (r1,r2):=by first | (rw [hy616];with_reducible exact H) | (have H2_:=(Option.bind_some _ _).symm.trans H;rw [hy616];with_reducible exact H2_) | (have H2_:=(Option.bind_some _ _).symm.trans H;with_reducible exact H2_) | with_reducible exact H | (rw [hy616];exact H) | exact H
        have Ny616:=Aside0.mk hy616;clear hy616;have H':=Aside0.mk H;clear H;obtain ⟨hcz28_0,hcz28_1,hcz28_2,hcz28_3,hcz28_4,hfz28_0,hfz28_1,hfz28_2,hfz28_3,hfz28_4⟩:=bt5 BK591;try go_wp2_with (first | ((with_reducible refine gate_dst (N:=6) rfl ?_);refine box_event ?hg (N:=6) ?hd (cs:=#[.int .i64 0,.int .i64 0,.slice none 0 0,.slice none 0 0,.slice none 0 0]) (t:=31) ?hr ?_;(case hd=>rfl);(case hg=>rfl);(case hr=>first | (go_simp;done) | (go_simp;rfl));intro gb597 hg w29 hbox hb;refine ev8 (Kd.R_below (Kd.R_mv HO_4.out) hb) (kb BK591 hb) (bs HB hb) (hbox) (gle hg HB) (gle hg HB) (gnf hg BK591) (gne hg BK591) ?_;clear HO_4 BK591 HB;intro HO_4 BK591 HB BK597 GW597 GE597 NB591_597 NB597_591;clear hb hbox hg;have hnb30:=NB597_591.out;have hnc30:=NB591_597.out;obtain ⟨hcz31_0,hcz31_1,hcz31_2,hcz31_3,hcz31_4,hfz31_0,hfz31_1,hfz31_2,hfz31_3,hfz31_4⟩:=bt5 BK597))
        have n0_:Aside0 (Kd.R (Kd.int .i64) 3 (((((w29.setCell ⟨gb597,0,none⟩ (.int .i64 a0_0)).setCell ⟨gb597,1,none⟩ (.int .i64 a0_1)).setCell ⟨gb597,2,none⟩ (.slice A0_2 l0_2.length c0_2)).setCell ⟨gb597,3,none⟩ (.slice A0_3 l0_3.length c0_3)).setCell ⟨gb597,4,none⟩ (.slice A0_4 l0_4.length c0_4)) w.heap.size (fun _=>True) u4 x4_2):=⟨Kd.R_mv (Kd.R_mono (ok':=fun k_=>True) (Kd.R_far (p:=⟨gb597,4,none⟩) (Kd.R_far (p:=⟨gb597,3,none⟩) (Kd.R_far (p:=⟨gb597,2,none⟩) (Kd.R_far (p:=⟨gb597,1,none⟩) (Kd.R_far (p:=⟨gb597,0,none⟩) (Kd.R_types HO_4.out BK597.out (by decide)) (fun _ hk=>hk.2) (.int .i64 a0_0)) (fun _ hk=>hk.2) (.int .i64 a0_1)) (fun _ hk=>hk.2) (.slice A0_2 l0_2.length c0_2)) (fun _ hk=>hk.2) (.slice A0_3 l0_3.length c0_3)) (fun _ hk=>hk.2) (.slice A0_4 l0_4.length c0_4)) (fun _ hk=>trivial))⟩
        have n1_:Aside0 ((((((w29.setCell ⟨gb597,0,none⟩ (.int .i64 a0_0)).setCell ⟨gb597,1,none⟩ (.int .i64 a0_1)).setCell ⟨gb597,2,none⟩ (.slice A0_2 l0_2.length c0_2)).setCell ⟨gb597,3,none⟩ (.slice A0_3 l0_3.length c0_3)).setCell ⟨gb597,4,none⟩ (.slice A0_4 l0_4.length c0_4)).heap[gb591]? = some (.cells #[.int .i64 a0_0,.int .i64 a0_1,.slice A0_2 l0_2.length c0_2,.slice A0_3 l0_3.length c0_3,.slice A0_4 l0_4.length c0_4] 31 (0,0))):=⟨fp BK591 rfl⟩
        have n2_:Aside0 ((((((w29.setCell ⟨gb597,0,none⟩ (.int .i64 a0_0)).setCell ⟨gb597,1,none⟩ (.int .i64 a0_1)).setCell ⟨gb597,2,none⟩ (.slice A0_2 l0_2.length c0_2)).setCell ⟨gb597,3,none⟩ (.slice A0_3 l0_3.length c0_3)).setCell ⟨gb597,4,none⟩ (.slice A0_4 l0_4.length c0_4)).heap[gb597]? = some (.cells #[.int .i64 a0_0,.int .i64 a0_1,.slice A0_2 l0_2.length c0_2,.slice A0_3 l0_3.length c0_3,.slice A0_4 l0_4.length c0_4] 31 (0,0))):=⟨fp BK597 rfl⟩
        have n3_:Aside0 (Below w.heap.size w (((((w29.setCell ⟨gb597,0,none⟩ (.int .i64 a0_0)).setCell ⟨gb597,1,none⟩ (.int .i64 a0_1)).setCell ⟨gb597,2,none⟩ (.slice A0_2 l0_2.length c0_2)).setCell ⟨gb597,3,none⟩ (.slice A0_3 l0_3.length c0_3)).setCell ⟨gb597,4,none⟩ (.slice A0_4 l0_4.length c0_4))):=⟨bm HB⟩
        (try clear HO_4);(try clear BK591);(try clear BK597);(try clear HB);generalize (((((w29.setCell ⟨gb597,0,none⟩ (.int .i64 a0_0)).setCell ⟨gb597,1,none⟩ (.int .i64 a0_1)).setCell ⟨gb597,2,none⟩ (.slice A0_2 l0_2.length c0_2)).setCell ⟨gb597,3,none⟩ (.slice A0_3 l0_3.length c0_3)).setCell ⟨gb597,4,none⟩ (.slice A0_4 l0_4.length c0_4)) = w32 at n0_ n1_ n2_ n3_ ⊢
        have HO_4:=n0_;have BK591:=n1_;have BK597:=n2_;have HB:=n3_;clear n0_ n1_ n2_ n3_;refine ev4 (Kd.R_drew HO_4.out) (blk_drew BK591.out) (blk_drew BK597.out) (below_drew1 HB.out) ?_;clear HO_4 BK591 BK597 HB;intro HO_4 BK591 BK597 HB;have q34:(x19_2:Int) ≤ ((l0_2.length:Int):Int):=of_decide_eq_true (by first | (with_reducible assumption) | assumption);obtain ⟨i034,hi034,_,hsz34,_⟩:=info_parts info88;have hroom34:l0_2.length ≤ c0_2:=HC0_2.out;have hC34:Kd.C k88 _ A0_2 l0_2.length l0_2:=HR0_2.out;have hcut34:=cut_to (P:=Try.prog) 29 88 .i64 Try.underlying29 hi034 A0_2 l0_2.length c0_2 x19_2 (of_decide_eq_true (by first | (with_reducible assumption) | assumption)) q34 hroom34;have hr34:=Kd.C_take (m:=(x19_2:Int).toNat) hC34 (by omega);have hy34:y601.length = (x19_2:Int).toNat:=(by rw [Ny601.out,List.length_take];omega)
        rw [← Ny601.out] at hr34;rw [← hy34] at hcut34;have HR604:=Aside0.mk hr34;have HC604:=Aside0.mk (show y601.length ≤ c0_2 from by omega);clear hr34 hC34 hroom34 hi034 hsz34;have KY34:=Aside0.mk hy34;clear hy34;replace q34:=eq_true q34;have q35:((ji21):Int) ≤ ((l0_2.length:Int):Int):=of_decide_eq_true (by first | (with_reducible assumption) | assumption);obtain ⟨i035,hi035,_,hsz35,_⟩:=info_parts info88;have hroom35:l0_2.length ≤ c0_2:=HC0_2.out;have hC35:Kd.C k88 _ A0_2 l0_2.length l0_2:=HR0_2.out;have q035:(0:Int) ≤ ((ji21):Int):=of_decide_eq_true (by first | (with_reducible assumption) | assumption);have hcut35:=cut_from (P:=Try.prog) 29 88 .i64 Try.underlying29 hi035 2 hsz35 A0_2 l0_2.length c0_2 (ji21) q035 q35;have hr35:=Kd.C_drop (m:=((ji21):Int).toNat) (c:=c0_2) hC35 (by omega) hroom35;obtain ⟨A35,hA35⟩:∃ A1,A1 = (if c0_2 = ((ji21):Int).toNat then A0_2 else (A0_2:Option Addr).map (·.add (((ji21):Int).toNat * 2))):=⟨_,rfl⟩
        obtain ⟨c35,hc35⟩:∃ c1,c1 = c0_2 - ((ji21):Int).toNat:=⟨_,rfl⟩
        have hy35:y608.length = l0_2.length - ((ji21):Int).toNat:=(by rw [Ny608.out,List.length_drop] <;> omega)
        rw [show (l0_2).drop ((ji21):Int).toNat = y608 from Ny608.out.symm] at hr35;replace hr35:Kd.C k88 _ A35 y608.length y608:=(by rw [hA35];exact hr35)
        rw [← hy35,← hA35,← hc35] at hcut35;have HR611:=Aside0.mk hr35;have HC611:=Aside0.mk (show y608.length ≤ c35 from by rw [hy35,hc35];exact Nat.sub_le_sub_right hroom35 _);clear hr35 hC35 hroom35 hi035 hsz35 hc35;have KY35:=Aside0.mk hy35;have KA35:=Aside0.mk hA35;clear hy35 hA35;replace q35:=eq_true q35;refine start_ (n:=14) (S:=fun w'=>w'.cell? ⟨gb591,0,none⟩ = some (.int .i64 a0_0)∧w'.cell? ⟨gb591,1,none⟩ = some (.int .i64 a0_1)∧w'.cell? ⟨gb591,2,none⟩ = some (.slice A0_2 l0_2.length c0_2)∧w'.cell? ⟨gb591,3,none⟩ = some (.slice A0_3 l0_3.length c0_3)∧w'.cell? ⟨gb591,4,none⟩ = some (.slice A0_4 l0_4.length c0_4)) (ds:=[]) #[Z,Z,Z,Z,Z,Z,Z,Z,Z,Z,Z,Z,Z,Z] (by kernel_rfl) rfl rfl ⟨(blk_cell BK591.out 0).trans rfl,(blk_cell BK591.out 1).trans rfl,(blk_cell BK591.out 2).trans rfl,(blk_cell BK591.out 3).trans rfl,(blk_cell BK591.out 4).trans rfl⟩ (fun hHeld=>?_);refine with_tabW impl_UsefulParts.tab8 impl_UsefulParts.bits8 (fun HT_ HW_=>?_);generalize w32.drew = w33 at HO_4 BK591 BK597 HB HR604 HR611 hHeld ⊢
        refine pA 1 (some 24) ?_ #[Z,Y,Z,Z,Z,Z,Z,Z,Z,Z,Z,Z,Z,Z] rfl rfl HT_ (by kernel_rfl) (fun _ _ _ h=>h) (by rfl) ?_ ?_ ?_ ?_;rotate_left
        ·intro w';go_simp;with_reducible rfl
        rotate_left
        ·simp only [Act.put,za_,zb_,zc_,i64_w,i32_w];rfl
        refine pA 3 (some 26) ?_ #[Z,Y,Z,Y,Z,Z,Z,Z,Z,Z,Z,Z,Z,Z] rfl rfl HT_ (by kernel_rfl) (fun _ _ _ h=>h) (by rfl) ?_ ?_ ?_ ?_;rotate_left
        ·intro w';go_simp;with_reducible rfl
        rotate_left
        ·simp only [Act.put,za_,zb_,zc_,i64_w,i32_w];rfl
        refine pA 6 (some 29) ?_ #[Z,Y,Z,Y,Z,Z,Y,Z,Z,Z,Z,Z,Z,Z] rfl rfl HT_ (by kernel_rfl) (fun _ _ _ h=>h) (by rfl) ?_ ?_ ?_ ?_;rotate_left
        ·intro w';go_simp;with_reducible rfl
        rotate_left
        ·simp only [Act.put,za_,zb_,zc_,i64_w,i32_w];rfl
        refine pA 8 (some 31) ?_ #[Z,Y,Z,Y,Z,Z,Y,Z,Y,Z,Z,Z,Z,Z] rfl rfl HT_ (by kernel_rfl) (fun _ _ _ h=>h) (by rfl) ?_ ?_ ?_ ?_;rotate_left
        ·intro w';go_simp;with_reducible rfl
        rotate_left
        ·simp only [Act.put,za_,zb_,zc_,i64_w,i32_w];rfl
        refine pA 9 (some 32) ?_ #[Z,Y,Z,Y,Z,Z,Y,Z,Y,Y,Z,Z,Z,Z] rfl rfl HT_ (by kernel_rfl) (fun _ _ _ h=>h) (by rfl) ?_ ?_ ?_ ?_;rotate_left
        ·intro w';go_simp;with_reducible rfl
        rotate_left
        ·simp only [Act.put,za_,zb_,zc_,i64_w,i32_w];rfl
        refine tA 2 (some 25) ?_ #[Z,Y,Y,Y,Z,Z,Y,Z,Y,Y,Z,Z,Z,Z] rfl rfl HT_ HW_ (by kernel_rfl) (fun _ _ _ h=>h) (by rfl) ?_ hHeld ?_ ?_ ?_;rotate_left
        ·rintro w' ⟨s0,s1,s2,s3,s4⟩;go_simp;with_reducible rfl
        rotate_left
        ·simp only [Act.put,za_,zb_,zc_,i64_w,i32_w];rfl
        refine pA 4 (some 27) ?_ #[Z,Y,Y,Y,Y,Z,Y,Z,Y,Y,Z,Z,Z,Z] rfl rfl HT_ (by kernel_rfl) (fun _ _ _ h=>h) (by rfl) ?_ ?_ ?_ ?_;rotate_left
        ·intro w';go_simp;with_reducible rfl
        rotate_left
        ·simp only [Act.put,za_,zb_,zc_,i64_w,i32_w];rfl
        refine tA 7 (some 30) ?_ #[Z,Y,Y,Y,Y,Z,Y,Y,Y,Y,Z,Z,Z,Z] rfl rfl HT_ HW_ (by kernel_rfl) (fun _ _ _ h=>h) (by rfl) ?_ hHeld ?_ ?_ ?_;rotate_left
        ·rintro w' ⟨s0,s1,s2,s3,s4⟩;go_simp;with_reducible rfl
        rotate_left
        ·simp only [Act.put,za_,zb_,zc_,i64_w,i32_w];rfl
        refine pA 10 (some 33) ?_ #[Z,Y,Y,Y,Y,Z,Y,Y,Y,Y,Y,Z,Z,Z] rfl rfl HT_ (by kernel_rfl) (fun _ _ _ h=>h) (by rfl) ?_ ?_ ?_ ?_;rotate_left
        ·intro w';go_simp;with_reducible rfl
        rotate_left
        ·simp only [Act.put,za_,zb_,zc_,i64_w,i32_w];rfl
        refine one_ (i:=0) (N:=some 23) #[Y,Y,Y,Y,Y,Z,Y,Y,Y,Y,Y,Z,Z,Z] rfl rfl (one_of HT_.out (by kernel_rfl)) (by decide) (fun K hK=>?_);refine Kd.R_lit_step k88 _ 88 ?hg (N:=23) ?hd (xs:=([]:List (S88))) (inner:=[]) (ok:=fun _=>True) (okp:=fun _=>True) ?hr ?hp (fun _ hk=>hk) trivial (Below.refl _ _) (Nat.le_refl _) (by simp) ?_;(case hd=>rfl);(case hg=>rfl);(case hr=>first | (go_simp;done) | (go_simp;rfl));(case hp=>exact (Reps.none _ _));intro v599 w36 ho37 hb hg_ hnew_;clear hg_ hnew_;(first | rw [← Ny598.out] at ho37 | (simp only [Int.reduceToNat] at ho37;rw [← Ny598.out] at ho37))
        refine ev5 (Kd.R_below (Kd.R_mv HO_4.out) hb) (Kd.R_lower ho37 (below_size (bm HB))) (kb BK591 hb) (kb BK597 hb) (bs HB hb) ?_;clear HO_4 BK591 BK597 HB;intro HO_4 HO600 BK591 BK597 HB;clear hb ho37;refine hK.out _ _ ⟨(blk_cell BK591.out 0).trans rfl,(blk_cell BK591.out 1).trans rfl,(blk_cell BK591.out 2).trans rfl,(blk_cell BK591.out 3).trans rfl,(blk_cell BK591.out 4).trans rfl⟩ (fun hHeld=>?_);clear hK K;refine norm_ (a':=?_) ?_ ?_;rotate_left
        ·show Act.put _ (some 23) _ = _
         simp only [Act.put,za_,zb_,zc_,i64_w,i32_w];rfl
        refine one_ (i:=5) (N:=some 28) #[Y,Y,Y,Y,Y,Y,Y,Y,Y,Y,Y,Z,Z,Z] rfl rfl (one_of HT_.out (by kernel_rfl)) (by decide) (fun K hK=>?_);refine Kd.R_append_rows_step k88 (w0:=w) w.heap.size (by rfl) (.tmp 23) (.tmp 27) 29 88 (.agg #[(.int .i64 0),(.int .i64 0)]) 16 rfl Try.underlying29 info88 rfl (by decide) (by omega) v599 y598 y601 _ _ _ (fun _=>True) (fun _=>False) rfl rfl ?aO ?aR (fun _ _ h=>h) (fun _ h=>h.elim) ?aF ?aB ?aS ?aL ?_;(case aR=>exact Kd.C_mv (Kd.C_below HR604.out HB.out))
        (case aB=>exact (bm HB))
        (case aF=>exact (fun _ _=>trivial))
        (case aO=>exact (Kd.R_mv HO600.out))
        (case aS=>exact (below_size (bm HB)))
        (case aL=>have:=LMc20.out;omega)
        intro v606 w38 ho hb hg hat;rw [← Ny605.out] at ho;refine ev5 (Kd.R_over' (Kd.R_mv HO_4.out) (Kd.R_typed (Kd.R_mv HO600.out)) (by decide) hg) (blk_grown (km_ BK591) hg (Kd.R_ne HO600.out BK591.out (by decide))) (blk_grown (km_ BK597) hg (Kd.R_ne HO600.out BK597.out (by decide))) (hb) (ho) ?_;clear HO_4 BK591 BK597 HB HO600;intro HO_4 BK591 BK597 HB HO607;clear ho hb hg hat;refine hK.out _ _ ⟨(blk_cell BK591.out 0).trans rfl,(blk_cell BK591.out 1).trans rfl,(blk_cell BK591.out 2).trans rfl,(blk_cell BK591.out 3).trans rfl,(blk_cell BK591.out 4).trans rfl⟩ (fun hHeld=>?_);clear hK K;refine norm_ (a':=?_) ?_ ?_;rotate_left
        ·show Act.put _ (some 28) _ = _
         simp only [Act.put,za_,zb_,zc_,i64_w,i32_w];rfl
        refine one_ (i:=11) (N:=some 34) #[Y,Y,Y,Y,Y,Y,Y,Y,Y,Y,Y,Y,Z,Z] rfl rfl (one_of HT_.out (by kernel_rfl)) (by decide) (fun K hK=>?_);refine Kd.R_append_rows_step k88 (w0:=w) w.heap.size (by rfl) (.tmp 28) (.tmp 33) 29 88 (.agg #[(.int .i64 0),(.int .i64 0)]) 16 rfl Try.underlying29 info88 rfl (by decide) (by omega) v606 y605 y608 _ _ _ (fun _=>True) (fun _=>False) rfl rfl ?aO ?aR (fun _ _ h=>h) (fun _ h=>h.elim) ?aF ?aB ?aS ?aL ?_;(case aR=>exact Kd.C_mv (Kd.C_below HR611.out HB.out))
        (case aB=>exact (bm HB))
        (case aF=>exact (fun _ _=>trivial))
        (case aO=>exact (Kd.R_mv HO607.out))
        (case aS=>exact (below_size (bm HB)))
        (case aL=>have:=LMc24.out;omega)
        intro v613 w39 ho hb hg hat;rw [← Ny612.out] at ho;refine ev5 (Kd.R_over' (Kd.R_mv HO_4.out) (Kd.R_typed (Kd.R_mv HO607.out)) (by decide) hg) (blk_grown (km_ BK591) hg (Kd.R_ne HO607.out BK591.out (by decide))) (blk_grown (km_ BK597) hg (Kd.R_ne HO607.out BK597.out (by decide))) (hb) (ho) ?_;clear HO_4 BK591 BK597 HB HO607;intro HO_4 BK591 BK597 HB HO614;clear ho hb hg hat;obtain ⟨Ao40,co40,eo40⟩:=Kd.R_slice HO614.out;(first | subst eo40 | (injection eo40 with f1_ f2_ f3_;have f4_:=f1_.symm;have f5_:=f3_.symm;clear f1_ f2_ f3_;subst f4_;subst f5_))
        refine hK.out _ _ ⟨(blk_cell BK591.out 0).trans rfl,(blk_cell BK591.out 1).trans rfl,(blk_cell BK591.out 2).trans rfl,(blk_cell BK591.out 3).trans rfl,(blk_cell BK591.out 4).trans rfl⟩ (fun hHeld=>?_);clear hK K;refine norm_ (a':=?_) ?_ ?_;rotate_left
        ·show Act.put _ (some 34) _ = _
         simp only [Act.put,za_,zb_,zc_,i64_w,i32_w];rfl
        refine pA 12 (some 35) ?_ #[Y,Y,Y,Y,Y,Y,Y,Y,Y,Y,Y,Y,Y,Z] rfl rfl HT_ (by kernel_rfl) (fun _ _ _ h=>h) (by rfl) ?_ ?_ ?_ ?_;rotate_left
        ·intro w';go_simp;with_reducible rfl
        rotate_left
        ·simp only [Act.put,za_,zb_,zc_,i64_w,i32_w];rfl
        refine one_ (i:=13) (N:=none) #[Y,Y,Y,Y,Y,Y,Y,Y,Y,Y,Y,Y,Y,Y] rfl rfl (one_of HT_.out (by kernel_rfl)) (by decide) (fun K hK=>?_);have hs41:w39.cell? ⟨gb597,2,none⟩ = some (.slice A0_2 l0_2.length c0_2):=(blk_cell BK597.out 2).trans rfl;have hfs41:=blk_frozen BK597.out 2;have hns41_0:=NB591_597.out;have hms41_0:=NB597_591.out;refine skip_ (w1:=?_) (by rfl) rfl ?_ ?_;rotate_left
        ·go_simp;rfl
        refine hK.out _ _ ⟨((cell_far (p:=⟨gb597,_,none⟩) NB591_597.out _).trans (hHeld.1)),((cell_far (p:=⟨gb597,_,none⟩) NB591_597.out _).trans (hHeld.2.1)),((cell_far (p:=⟨gb597,_,none⟩) NB591_597.out _).trans (hHeld.2.2.1)),((cell_far (p:=⟨gb597,_,none⟩) NB591_597.out _).trans (hHeld.2.2.2.1)),((cell_far (p:=⟨gb597,_,none⟩) NB591_597.out _).trans (hHeld.2.2.2.2))⟩ (fun hHeld=>?_);clear hK K;refine done_ (done_of HT_.out (by kernel_rfl)) ?_;obtain ⟨hcz42_0,hcz42_1,hcz42_2,hcz42_3,hcz42_4,hfz42_0,hfz42_1,hfz42_2,hfz42_3,hfz42_4⟩:=bt5 BK597;try go_wp2_with (first | ((with_reducible refine gate_callee (f:=69) rfl ?_);refine gL_ (some 37) Try.func69 #[.agg #[.int .i64 a0_0,.int .i64 a0_1,.slice Ao40 y612.length co40,.slice A0_3 l0_3.length c0_3,.slice A0_4 l0_4.length c0_4]] (h:=?_);(with_reducible refine (impl_countSolutions.calls k2 a0_0 a0_1 _ _ y612 _ _ l0_3 _ _ l0_4 t615 _ ?side1 ((Kd.R_reads' HO614.out).2.1) (Kd.C_below HR0_3.out (bm HB)) HC0_3.out (Kd.C_below HR0_4.out (bm HB)) HC0_4.out A25.out).mono ?_);(case side1=>exact (Kd.R_reads' (Kd.R_ft HO614.out BK597.out (by decide))).2.2);rintro e w43 ⟨rfl,hb⟩;refine ⟨_,rfl,?_⟩;refine ev5 (Kd.R_below (Kd.R_ft HO_4.out BK597.out (by decide)) hb) (Kd.R_below (Kd.R_ft HO614.out BK597.out (by decide)) hb) (blk_below (g:=gb591) (o:=.cells #[.int .i64 a0_0,.int .i64 a0_1,.slice A0_2 l0_2.length c0_2,.slice A0_3 l0_3.length c0_3,.slice A0_4 l0_4.length c0_4] 31 (0,0)) (fp BK591 rfl) hb) (blk_below (g:=gb597) (o:=.cells #[.int .i64 a0_0,.int .i64 a0_1,.slice Ao40 y612.length co40,.slice A0_3 l0_3.length c0_3,.slice A0_4 l0_4.length c0_4] 31 (0,0)) (fp BK597 rfl) hb) (bs HB hb) ?_;clear HO_4 HO614 BK591 BK597 HB;intro HO_4 HO614 BK591 BK597 HB;(try clear hb)) | ((with_reducible refine gate_builtin (b:=.append) (xs:=#[.tmp 39,.tmp 41]) rfl ?_);at_builtin;refine Kd.R_append (Kd.int .i64) (w0:=w) w.heap.size rfl (.tmp 39) (.tmp 41) 23 3 (.int .i64 0) 8 rfl Try.underlying23 info3 rfl (by decide) (by omega) u4 x4_2 x19_2 [.int .i64 x19_2] (fun _=>True) (fun _=>False) rfl rfl ?aP (fun _ hk=>hk.elim) ?aF ?aO ?aB ?aS ?aL ?_;(case aP=>exact rfl);(case aB=>exact (bm HB));(case aF=>exact (fun _ _=>trivial));(case aO=>exact (Kd.R_mv HO_4.out));(case aS=>exact (below_size (bm HB)));(case aL=>have:=LMc27.out;omega);intro v617 w44 ho hb hg hat;rw [← Ny616.out] at ho;refine ev5 (blk_grown (km_ BK591) hg (Kd.R_ne HO_4.out BK591.out (by decide))) (blk_grown (km_ BK597) hg (Kd.R_ne HO_4.out BK597.out (by decide))) (Kd.R_over' (Kd.R_mv HO614.out) (Kd.R_typed (Kd.R_mv HO_4.out)) (by decide) hg) (hb) (ho) ?_;clear BK591 BK597 HO614 HB HO_4;intro BK591 BK597 HO614 HB HO618;clear ho hb hg hat))
        go_roundg k2
        case measure=>have:=HJ1.out;have:=HK2.out;omega
        case rel=>exact ⟨(y616),(ji21),(by first | rfl | (simp;done) | (simp only [← hji21] <;> (first | rfl | simp)) | (simp [*];done)),H',⟨by have:=HJ1.out;have:=HK2.out;omega⟩,⟨Kd.R_mv HO618.out⟩,⟨km_ BK591⟩,⟨bm HB⟩⟩
       ·rw [if_neg c26] at H;have c26b0:(t615 == 0) = false:=beq_eq_false_iff_ne.mpr c26;have c26b1:(t615 != 0) = true:=bne_iff_ne.mpr c26;have H':=Aside0.mk H;clear H;obtain ⟨hcz45_0,hcz45_1,hcz45_2,hcz45_3,hcz45_4,hfz45_0,hfz45_1,hfz45_2,hfz45_3,hfz45_4⟩:=bt5 BK591;try go_wp2_with (first | ((with_reducible refine gate_dst (N:=6) rfl ?_);refine box_event ?hg (N:=6) ?hd (cs:=#[.int .i64 0,.int .i64 0,.slice none 0 0,.slice none 0 0,.slice none 0 0]) (t:=31) ?hr ?_;(case hd=>rfl);(case hg=>rfl);(case hr=>first | (go_simp;done) | (go_simp;rfl));intro gb597 hg w46 hbox hb;refine ev8 (Kd.R_below (Kd.R_mv HO_4.out) hb) (kb BK591 hb) (bs HB hb) (hbox) (gle hg HB) (gle hg HB) (gnf hg BK591) (gne hg BK591) ?_;clear HO_4 BK591 HB;intro HO_4 BK591 HB BK597 GW597 GE597 NB591_597 NB597_591;clear hb hbox hg;have hnb47:=NB597_591.out;have hnc47:=NB591_597.out;obtain ⟨hcz48_0,hcz48_1,hcz48_2,hcz48_3,hcz48_4,hfz48_0,hfz48_1,hfz48_2,hfz48_3,hfz48_4⟩:=bt5 BK597))
        have n0_:Aside0 (Kd.R (Kd.int .i64) 3 (((((w46.setCell ⟨gb597,0,none⟩ (.int .i64 a0_0)).setCell ⟨gb597,1,none⟩ (.int .i64 a0_1)).setCell ⟨gb597,2,none⟩ (.slice A0_2 l0_2.length c0_2)).setCell ⟨gb597,3,none⟩ (.slice A0_3 l0_3.length c0_3)).setCell ⟨gb597,4,none⟩ (.slice A0_4 l0_4.length c0_4)) w.heap.size (fun _=>True) u4 x4_2):=⟨Kd.R_mv (Kd.R_mono (ok':=fun k_=>True) (Kd.R_far (p:=⟨gb597,4,none⟩) (Kd.R_far (p:=⟨gb597,3,none⟩) (Kd.R_far (p:=⟨gb597,2,none⟩) (Kd.R_far (p:=⟨gb597,1,none⟩) (Kd.R_far (p:=⟨gb597,0,none⟩) (Kd.R_types HO_4.out BK597.out (by decide)) (fun _ hk=>hk.2) (.int .i64 a0_0)) (fun _ hk=>hk.2) (.int .i64 a0_1)) (fun _ hk=>hk.2) (.slice A0_2 l0_2.length c0_2)) (fun _ hk=>hk.2) (.slice A0_3 l0_3.length c0_3)) (fun _ hk=>hk.2) (.slice A0_4 l0_4.length c0_4)) (fun _ hk=>trivial))⟩
        have n1_:Aside0 ((((((w46.setCell ⟨gb597,0,none⟩ (.int .i64 a0_0)).setCell ⟨gb597,1,none⟩ (.int .i64 a0_1)).setCell ⟨gb597,2,none⟩ (.slice A0_2 l0_2.length c0_2)).setCell ⟨gb597,3,none⟩ (.slice A0_3 l0_3.length c0_3)).setCell ⟨gb597,4,none⟩ (.slice A0_4 l0_4.length c0_4)).heap[gb591]? = some (.cells #[.int .i64 a0_0,.int .i64 a0_1,.slice A0_2 l0_2.length c0_2,.slice A0_3 l0_3.length c0_3,.slice A0_4 l0_4.length c0_4] 31 (0,0))):=⟨fp BK591 rfl⟩
        have n2_:Aside0 ((((((w46.setCell ⟨gb597,0,none⟩ (.int .i64 a0_0)).setCell ⟨gb597,1,none⟩ (.int .i64 a0_1)).setCell ⟨gb597,2,none⟩ (.slice A0_2 l0_2.length c0_2)).setCell ⟨gb597,3,none⟩ (.slice A0_3 l0_3.length c0_3)).setCell ⟨gb597,4,none⟩ (.slice A0_4 l0_4.length c0_4)).heap[gb597]? = some (.cells #[.int .i64 a0_0,.int .i64 a0_1,.slice A0_2 l0_2.length c0_2,.slice A0_3 l0_3.length c0_3,.slice A0_4 l0_4.length c0_4] 31 (0,0))):=⟨fp BK597 rfl⟩
        have n3_:Aside0 (Below w.heap.size w (((((w46.setCell ⟨gb597,0,none⟩ (.int .i64 a0_0)).setCell ⟨gb597,1,none⟩ (.int .i64 a0_1)).setCell ⟨gb597,2,none⟩ (.slice A0_2 l0_2.length c0_2)).setCell ⟨gb597,3,none⟩ (.slice A0_3 l0_3.length c0_3)).setCell ⟨gb597,4,none⟩ (.slice A0_4 l0_4.length c0_4))):=⟨bm HB⟩
        (try clear HO_4);(try clear BK591);(try clear BK597);(try clear HB);generalize (((((w46.setCell ⟨gb597,0,none⟩ (.int .i64 a0_0)).setCell ⟨gb597,1,none⟩ (.int .i64 a0_1)).setCell ⟨gb597,2,none⟩ (.slice A0_2 l0_2.length c0_2)).setCell ⟨gb597,3,none⟩ (.slice A0_3 l0_3.length c0_3)).setCell ⟨gb597,4,none⟩ (.slice A0_4 l0_4.length c0_4)) = w49 at n0_ n1_ n2_ n3_ ⊢
        have HO_4:=n0_;have BK591:=n1_;have BK597:=n2_;have HB:=n3_;clear n0_ n1_ n2_ n3_;refine ev4 (Kd.R_drew HO_4.out) (blk_drew BK591.out) (blk_drew BK597.out) (below_drew1 HB.out) ?_;clear HO_4 BK591 BK597 HB;intro HO_4 BK591 BK597 HB;have q51:(x19_2:Int) ≤ ((l0_2.length:Int):Int):=of_decide_eq_true (by first | (with_reducible assumption) | assumption);obtain ⟨i051,hi051,_,hsz51,_⟩:=info_parts info88;have hroom51:l0_2.length ≤ c0_2:=HC0_2.out;have hC51:Kd.C k88 _ A0_2 l0_2.length l0_2:=HR0_2.out;have hcut51:=cut_to (P:=Try.prog) 29 88 .i64 Try.underlying29 hi051 A0_2 l0_2.length c0_2 x19_2 (of_decide_eq_true (by first | (with_reducible assumption) | assumption)) q51 hroom51;have hr51:=Kd.C_take (m:=(x19_2:Int).toNat) hC51 (by omega);have hy51:y601.length = (x19_2:Int).toNat:=(by rw [Ny601.out,List.length_take];omega)
        rw [← Ny601.out] at hr51;rw [← hy51] at hcut51;have HR604:=Aside0.mk hr51;have HC604:=Aside0.mk (show y601.length ≤ c0_2 from by omega);clear hr51 hC51 hroom51 hi051 hsz51;have KY51:=Aside0.mk hy51;clear hy51;replace q51:=eq_true q51;have q52:((ji21):Int) ≤ ((l0_2.length:Int):Int):=of_decide_eq_true (by first | (with_reducible assumption) | assumption);obtain ⟨i052,hi052,_,hsz52,_⟩:=info_parts info88;have hroom52:l0_2.length ≤ c0_2:=HC0_2.out;have hC52:Kd.C k88 _ A0_2 l0_2.length l0_2:=HR0_2.out;have q052:(0:Int) ≤ ((ji21):Int):=of_decide_eq_true (by first | (with_reducible assumption) | assumption);have hcut52:=cut_from (P:=Try.prog) 29 88 .i64 Try.underlying29 hi052 2 hsz52 A0_2 l0_2.length c0_2 (ji21) q052 q52;have hr52:=Kd.C_drop (m:=((ji21):Int).toNat) (c:=c0_2) hC52 (by omega) hroom52;obtain ⟨A52,hA52⟩:∃ A1,A1 = (if c0_2 = ((ji21):Int).toNat then A0_2 else (A0_2:Option Addr).map (·.add (((ji21):Int).toNat * 2))):=⟨_,rfl⟩
        obtain ⟨c52,hc52⟩:∃ c1,c1 = c0_2 - ((ji21):Int).toNat:=⟨_,rfl⟩
        have hy52:y608.length = l0_2.length - ((ji21):Int).toNat:=(by rw [Ny608.out,List.length_drop] <;> omega)
        rw [show (l0_2).drop ((ji21):Int).toNat = y608 from Ny608.out.symm] at hr52;replace hr52:Kd.C k88 _ A52 y608.length y608:=(by rw [hA52];exact hr52)
        rw [← hy52,← hA52,← hc52] at hcut52;have HR611:=Aside0.mk hr52;have HC611:=Aside0.mk (show y608.length ≤ c52 from by rw [hy52,hc52];exact Nat.sub_le_sub_right hroom52 _);clear hr52 hC52 hroom52 hi052 hsz52 hc52;have KY52:=Aside0.mk hy52;have KA52:=Aside0.mk hA52;clear hy52 hA52;replace q52:=eq_true q52;refine start_ (n:=14) (S:=fun w'=>w'.cell? ⟨gb591,0,none⟩ = some (.int .i64 a0_0)∧w'.cell? ⟨gb591,1,none⟩ = some (.int .i64 a0_1)∧w'.cell? ⟨gb591,2,none⟩ = some (.slice A0_2 l0_2.length c0_2)∧w'.cell? ⟨gb591,3,none⟩ = some (.slice A0_3 l0_3.length c0_3)∧w'.cell? ⟨gb591,4,none⟩ = some (.slice A0_4 l0_4.length c0_4)) (ds:=[]) #[Z,Z,Z,Z,Z,Z,Z,Z,Z,Z,Z,Z,Z,Z] (by kernel_rfl) rfl rfl ⟨(blk_cell BK591.out 0).trans rfl,(blk_cell BK591.out 1).trans rfl,(blk_cell BK591.out 2).trans rfl,(blk_cell BK591.out 3).trans rfl,(blk_cell BK591.out 4).trans rfl⟩ (fun hHeld=>?_);refine with_tabW impl_UsefulParts.tab8 impl_UsefulParts.bits8 (fun HT_ HW_=>?_);generalize w49.drew = w50 at HO_4 BK591 BK597 HB HR604 HR611 hHeld ⊢
        refine pA 1 (some 24) ?_ #[Z,Y,Z,Z,Z,Z,Z,Z,Z,Z,Z,Z,Z,Z] rfl rfl HT_ (by kernel_rfl) (fun _ _ _ h=>h) (by rfl) ?_ ?_ ?_ ?_;rotate_left
        ·intro w';go_simp;with_reducible rfl
        rotate_left
        ·simp only [Act.put,za_,zb_,zc_,i64_w,i32_w];rfl
        refine pA 3 (some 26) ?_ #[Z,Y,Z,Y,Z,Z,Z,Z,Z,Z,Z,Z,Z,Z] rfl rfl HT_ (by kernel_rfl) (fun _ _ _ h=>h) (by rfl) ?_ ?_ ?_ ?_;rotate_left
        ·intro w';go_simp;with_reducible rfl
        rotate_left
        ·simp only [Act.put,za_,zb_,zc_,i64_w,i32_w];rfl
        refine pA 6 (some 29) ?_ #[Z,Y,Z,Y,Z,Z,Y,Z,Z,Z,Z,Z,Z,Z] rfl rfl HT_ (by kernel_rfl) (fun _ _ _ h=>h) (by rfl) ?_ ?_ ?_ ?_;rotate_left
        ·intro w';go_simp;with_reducible rfl
        rotate_left
        ·simp only [Act.put,za_,zb_,zc_,i64_w,i32_w];rfl
        refine pA 8 (some 31) ?_ #[Z,Y,Z,Y,Z,Z,Y,Z,Y,Z,Z,Z,Z,Z] rfl rfl HT_ (by kernel_rfl) (fun _ _ _ h=>h) (by rfl) ?_ ?_ ?_ ?_;rotate_left
        ·intro w';go_simp;with_reducible rfl
        rotate_left
        ·simp only [Act.put,za_,zb_,zc_,i64_w,i32_w];rfl
        refine pA 9 (some 32) ?_ #[Z,Y,Z,Y,Z,Z,Y,Z,Y,Y,Z,Z,Z,Z] rfl rfl HT_ (by kernel_rfl) (fun _ _ _ h=>h) (by rfl) ?_ ?_ ?_ ?_;rotate_left
        ·intro w';go_simp;with_reducible rfl
        rotate_left
        ·simp only [Act.put,za_,zb_,zc_,i64_w,i32_w];rfl
        refine tA 2 (some 25) ?_ #[Z,Y,Y,Y,Z,Z,Y,Z,Y,Y,Z,Z,Z,Z] rfl rfl HT_ HW_ (by kernel_rfl) (fun _ _ _ h=>h) (by rfl) ?_ hHeld ?_ ?_ ?_;rotate_left
        ·rintro w' ⟨s0,s1,s2,s3,s4⟩;go_simp;with_reducible rfl
        rotate_left
        ·simp only [Act.put,za_,zb_,zc_,i64_w,i32_w];rfl
        refine pA 4 (some 27) ?_ #[Z,Y,Y,Y,Y,Z,Y,Z,Y,Y,Z,Z,Z,Z] rfl rfl HT_ (by kernel_rfl) (fun _ _ _ h=>h) (by rfl) ?_ ?_ ?_ ?_;rotate_left
        ·intro w';go_simp;with_reducible rfl
        rotate_left
        ·simp only [Act.put,za_,zb_,zc_,i64_w,i32_w];rfl
        refine tA 7 (some 30) ?_ #[Z,Y,Y,Y,Y,Z,Y,Y,Y,Y,Z,Z,Z,Z] rfl rfl HT_ HW_ (by kernel_rfl) (fun _ _ _ h=>h) (by rfl) ?_ hHeld ?_ ?_ ?_;rotate_left
        ·rintro w' ⟨s0,s1,s2,s3,s4⟩;go_simp;with_reducible rfl
        rotate_left
        ·simp only [Act.put,za_,zb_,zc_,i64_w,i32_w];rfl
        refine pA 10 (some 33) ?_ #[Z,Y,Y,Y,Y,Z,Y,Y,Y,Y,Y,Z,Z,Z] rfl rfl HT_ (by kernel_rfl) (fun _ _ _ h=>h) (by rfl) ?_ ?_ ?_ ?_;rotate_left
        ·intro w';go_simp;with_reducible rfl
        rotate_left
        ·simp only [Act.put,za_,zb_,zc_,i64_w,i32_w];rfl
        refine one_ (i:=0) (N:=some 23) #[Y,Y,Y,Y,Y,Z,Y,Y,Y,Y,Y,Z,Z,Z] rfl rfl (one_of HT_.out (by kernel_rfl)) (by decide) (fun K hK=>?_);refine Kd.R_lit_step k88 _ 88 ?hg (N:=23) ?hd (xs:=([]:List (S88))) (inner:=[]) (ok:=fun _=>True) (okp:=fun _=>True) ?hr ?hp (fun _ hk=>hk) trivial (Below.refl _ _) (Nat.le_refl _) (by simp) ?_;(case hd=>rfl);(case hg=>rfl);(case hr=>first | (go_simp;done) | (go_simp;rfl));(case hp=>exact (Reps.none _ _));intro v599 w53 ho54 hb hg_ hnew_;clear hg_ hnew_;(first | rw [← Ny598.out] at ho54 | (simp only [Int.reduceToNat] at ho54;rw [← Ny598.out] at ho54))
        refine ev5 (Kd.R_below (Kd.R_mv HO_4.out) hb) (Kd.R_lower ho54 (below_size (bm HB))) (kb BK591 hb) (kb BK597 hb) (bs HB hb) ?_;clear HO_4 BK591 BK597 HB;intro HO_4 HO600 BK591 BK597 HB;clear hb ho54;refine hK.out _ _ ⟨(blk_cell BK591.out 0).trans rfl,(blk_cell BK591.out 1).trans rfl,(blk_cell BK591.out 2).trans rfl,(blk_cell BK591.out 3).trans rfl,(blk_cell BK591.out 4).trans rfl⟩ (fun hHeld=>?_);clear hK K;refine norm_ (a':=?_) ?_ ?_;rotate_left
        ·show Act.put _ (some 23) _ = _
         simp only [Act.put,za_,zb_,zc_,i64_w,i32_w];rfl
        refine one_ (i:=5) (N:=some 28) #[Y,Y,Y,Y,Y,Y,Y,Y,Y,Y,Y,Z,Z,Z] rfl rfl (one_of HT_.out (by kernel_rfl)) (by decide) (fun K hK=>?_);refine Kd.R_append_rows_step k88 (w0:=w) w.heap.size (by rfl) (.tmp 23) (.tmp 27) 29 88 (.agg #[(.int .i64 0),(.int .i64 0)]) 16 rfl Try.underlying29 info88 rfl (by decide) (by omega) v599 y598 y601 _ _ _ (fun _=>True) (fun _=>False) rfl rfl ?aO ?aR (fun _ _ h=>h) (fun _ h=>h.elim) ?aF ?aB ?aS ?aL ?_;(case aR=>exact Kd.C_mv (Kd.C_below HR604.out HB.out))
        (case aB=>exact (bm HB))
        (case aF=>exact (fun _ _=>trivial))
        (case aO=>exact (Kd.R_mv HO600.out))
        (case aS=>exact (below_size (bm HB)))
        (case aL=>have:=LMc20.out;omega)
        intro v606 w55 ho hb hg hat;rw [← Ny605.out] at ho;refine ev5 (Kd.R_over' (Kd.R_mv HO_4.out) (Kd.R_typed (Kd.R_mv HO600.out)) (by decide) hg) (blk_grown (km_ BK591) hg (Kd.R_ne HO600.out BK591.out (by decide))) (blk_grown (km_ BK597) hg (Kd.R_ne HO600.out BK597.out (by decide))) (hb) (ho) ?_;clear HO_4 BK591 BK597 HB HO600;intro HO_4 BK591 BK597 HB HO607;clear ho hb hg hat;refine hK.out _ _ ⟨(blk_cell BK591.out 0).trans rfl,(blk_cell BK591.out 1).trans rfl,(blk_cell BK591.out 2).trans rfl,(blk_cell BK591.out 3).trans rfl,(blk_cell BK591.out 4).trans rfl⟩ (fun hHeld=>?_);clear hK K;refine norm_ (a':=?_) ?_ ?_;rotate_left
        ·show Act.put _ (some 28) _ = _
         simp only [Act.put,za_,zb_,zc_,i64_w,i32_w];rfl
        refine one_ (i:=11) (N:=some 34) #[Y,Y,Y,Y,Y,Y,Y,Y,Y,Y,Y,Y,Z,Z] rfl rfl (one_of HT_.out (by kernel_rfl)) (by decide) (fun K hK=>?_);refine Kd.R_append_rows_step k88 (w0:=w) w.heap.size (by rfl) (.tmp 28) (.tmp 33) 29 88 (.agg #[(.int .i64 0),(.int .i64 0)]) 16 rfl Try.underlying29 info88 rfl (by decide) (by omega) v606 y605 y608 _ _ _ (fun _=>True) (fun _=>False) rfl rfl ?aO ?aR (fun _ _ h=>h) (fun _ h=>h.elim) ?aF ?aB ?aS ?aL ?_;(case aR=>exact Kd.C_mv (Kd.C_below HR611.out HB.out))
        (case aB=>exact (bm HB))
        (case aF=>exact (fun _ _=>trivial))
        (case aO=>exact (Kd.R_mv HO607.out))
        (case aS=>exact (below_size (bm HB)))
        (case aL=>have:=LMc24.out;omega)
        intro v613 w56 ho hb hg hat;rw [← Ny612.out] at ho;refine ev5 (Kd.R_over' (Kd.R_mv HO_4.out) (Kd.R_typed (Kd.R_mv HO607.out)) (by decide) hg) (blk_grown (km_ BK591) hg (Kd.R_ne HO607.out BK591.out (by decide))) (blk_grown (km_ BK597) hg (Kd.R_ne HO607.out BK597.out (by decide))) (hb) (ho) ?_;clear HO_4 BK591 BK597 HB HO607;intro HO_4 BK591 BK597 HB HO614;clear ho hb hg hat;obtain ⟨Ao57,co57,eo57⟩:=Kd.R_slice HO614.out;(first | subst eo57 | (injection eo57 with f1_ f2_ f3_;have f4_:=f1_.symm;have f5_:=f3_.symm;clear f1_ f2_ f3_;subst f4_;subst f5_))
        refine hK.out _ _ ⟨(blk_cell BK591.out 0).trans rfl,(blk_cell BK591.out 1).trans rfl,(blk_cell BK591.out 2).trans rfl,(blk_cell BK591.out 3).trans rfl,(blk_cell BK591.out 4).trans rfl⟩ (fun hHeld=>?_);clear hK K;refine norm_ (a':=?_) ?_ ?_;rotate_left
        ·show Act.put _ (some 34) _ = _
         simp only [Act.put,za_,zb_,zc_,i64_w,i32_w];rfl
        refine pA 12 (some 35) ?_ #[Y,Y,Y,Y,Y,Y,Y,Y,Y,Y,Y,Y,Y,Z] rfl rfl HT_ (by kernel_rfl) (fun _ _ _ h=>h) (by rfl) ?_ ?_ ?_ ?_;rotate_left
        ·intro w';go_simp;with_reducible rfl
        rotate_left
        ·simp only [Act.put,za_,zb_,zc_,i64_w,i32_w];rfl
        refine one_ (i:=13) (N:=none) #[Y,Y,Y,Y,Y,Y,Y,Y,Y,Y,Y,Y,Y,Y] rfl rfl (one_of HT_.out (by kernel_rfl)) (by decide) (fun K hK=>?_);have hs58:w56.cell? ⟨gb597,2,none⟩ = some (.slice A0_2 l0_2.length c0_2):=(blk_cell BK597.out 2).trans rfl;have hfs58:=blk_frozen BK597.out 2;have hns58_0:=NB591_597.out;have hms58_0:=NB597_591.out;refine skip_ (w1:=?_) (by rfl) rfl ?_ ?_;rotate_left
        ·go_simp;rfl
        refine hK.out _ _ ⟨((cell_far (p:=⟨gb597,_,none⟩) NB591_597.out _).trans (hHeld.1)),((cell_far (p:=⟨gb597,_,none⟩) NB591_597.out _).trans (hHeld.2.1)),((cell_far (p:=⟨gb597,_,none⟩) NB591_597.out _).trans (hHeld.2.2.1)),((cell_far (p:=⟨gb597,_,none⟩) NB591_597.out _).trans (hHeld.2.2.2.1)),((cell_far (p:=⟨gb597,_,none⟩) NB591_597.out _).trans (hHeld.2.2.2.2))⟩ (fun hHeld=>?_);clear hK K;refine done_ (done_of HT_.out (by kernel_rfl)) ?_;obtain ⟨hcz59_0,hcz59_1,hcz59_2,hcz59_3,hcz59_4,hfz59_0,hfz59_1,hfz59_2,hfz59_3,hfz59_4⟩:=bt5 BK597;try go_wp2_with (first | ((with_reducible refine gate_callee (f:=69) rfl ?_);refine gL_ (some 37) Try.func69 #[.agg #[.int .i64 a0_0,.int .i64 a0_1,.slice Ao57 y612.length co57,.slice A0_3 l0_3.length c0_3,.slice A0_4 l0_4.length c0_4]] (h:=?_);(with_reducible refine (impl_countSolutions.calls k2 a0_0 a0_1 _ _ y612 _ _ l0_3 _ _ l0_4 t615 _ ?side1 ((Kd.R_reads' HO614.out).2.1) (Kd.C_below HR0_3.out (bm HB)) HC0_3.out (Kd.C_below HR0_4.out (bm HB)) HC0_4.out A25.out).mono ?_);(case side1=>exact (Kd.R_reads' (Kd.R_ft HO614.out BK597.out (by decide))).2.2);rintro e w60 ⟨rfl,hb⟩;refine ⟨_,rfl,?_⟩;refine ev5 (Kd.R_below (Kd.R_ft HO_4.out BK597.out (by decide)) hb) (Kd.R_below (Kd.R_ft HO614.out BK597.out (by decide)) hb) (blk_below (g:=gb591) (o:=.cells #[.int .i64 a0_0,.int .i64 a0_1,.slice A0_2 l0_2.length c0_2,.slice A0_3 l0_3.length c0_3,.slice A0_4 l0_4.length c0_4] 31 (0,0)) (fp BK591 rfl) hb) (blk_below (g:=gb597) (o:=.cells #[.int .i64 a0_0,.int .i64 a0_1,.slice Ao57 y612.length co57,.slice A0_3 l0_3.length c0_3,.slice A0_4 l0_4.length c0_4] 31 (0,0)) (fp BK597 rfl) hb) (bs HB hb) ?_;clear HO_4 HO614 BK591 BK597 HB;intro HO_4 HO614 BK591 BK597 HB;(try clear hb)))
        go_roundg k2
        case measure=>have:=HJ1.out;have:=HK2.out;omega
        case rel=>exact ⟨(x4_2),(ji21),(by first | rfl | (simp;done) | (simp only [← hji21] <;> (first | rfl | simp)) | (simp [*];done)),H',⟨by have:=HJ1.out;have:=HK2.out;omega⟩,⟨Kd.R_mv HO_4.out⟩,⟨km_ BK591⟩,⟨bm HB⟩⟩
      ·rw [if_neg c17] at H;have c17b0:decide (x19_2 < (l0_2.length:Int)) = false:=decide_eq_false c17;clear c17;simp only [Option.some.injEq,Prod.mk.injEq] at H;obtain ⟨rfl,rfl⟩:=H;go_wp2;go_ret2
       exact ⟨_,by first | rfl | (simp [e0_,e1_] <;> rfl) | (simp [*,e0_,e1_] <;> rfl),Kd.R_mv HO_4.out,bm HB⟩

/-! ### laws_heldIntS: function 24 -/
def laws_heldIntS.l0:Nat→List Int→Int→Int→Option (Int)
 | 0,_,_,_=>none
 | k + 1,x0,x1,x5=>if x5 < (x0.length:Int) then (if 0 ≤ x5 then (if (rd x0 x5) = x1 then (laws_heldIntS.l0 k x0 (wrap64 (x1 + 1)) (wrap64 (x5 + 1))) else (some (-1))) else (none)) else (some x1)
def laws_heldIntS.f (k:Nat) (l0:List Int) (a1:Int):Option (Int):=laws_heldIntS.l0 k l0 a1 0
theorem laws_heldIntS.calls (k:Nat) (A0:Option Addr) (c0:Nat) (l0:List Int) (a1:Int) (r:Int) (w:World) (hr0:Kd.C (Kd.int .i64) w A0 l0.length l0) (hc0:l0.length ≤ c0) (h:laws_heldIntS.f k l0 a1 = some r) :
  Calls Try.prog 24 #[.slice A0 l0.length c0,.int .i64 a1] w fun e w'=>e = .returned (.int .i64 r)∧Drawn0 w w':=by
 have HR0:=Aside0.mk hr0;have HC0:=Aside0.mk hc0;clear hr0 hc0;have H:(laws_heldIntS.l0 k l0 a1 0) = some r:=h;clear h;have H':=Aside0.mk H;clear H;go_enter Try.func24,Try.ntmps24;go_wp2;go_loopg [1,5] k (fun kq v1 v5 w'=>∃ (x1_1:Int) (x5_1:Int),v1 = .int .i64 x1_1∧v5 = .int .i64 x5_1∧Aside0 (laws_heldIntS.l0 kq l0 x1_1 x5_1 = some r)∧Aside0 (kq ≤ k)∧Drawn0 w w')
 case atStart=>exact ⟨(a1),(0),(by first | rfl | (simp;done) | (simp [*];done)),(by first | rfl | (simp;done) | (simp [*];done)),H',⟨Nat.le_refl _⟩,by repeat (first | exact Drawn0.refl _ | apply Drawn0.step)⟩
 case round =>
  clear H';(try clear c2);(try clear p2);obtain ⟨x1_1,x5_1,rfl,rfl,HA,HK1,⟨m1,rfl⟩⟩:=hrel;cases gk with
  | zero=>exact absurd HA.out (by simp [laws_heldIntS.l0])
  | succ k1 =>
   have H:=HA.out;clear HA;simp only [laws_heldIntS.l0] at H;by_cases c3:x5_1 < (l0.length:Int)
   ·rw [if_pos c3] at H;have c3b0:decide (x5_1 < (l0.length:Int)) = true:=decide_eq_true c3;clear c3;replace H:=np_ H;obtain ⟨c4,H⟩:=H;have c4b0:decide (0 ≤ x5_1) = true:=decide_eq_true c4;clear c4;by_cases c5:(rd l0 x5_1) = x1_1
    ·rw [if_pos c5] at H;have c5b0:((rd l0 x5_1) == x1_1) = true:=beq_iff_eq.mpr c5;have c5b1:((rd l0 x5_1) != x1_1) = false:=bne_eq_false_iff_eq.mpr c5;clear c5;have H':=Aside0.mk H;clear H;have p629:0 ≤ (x5_1:Int):=of_decide_eq_true (by first | (with_reducible assumption) | assumption);have q629:x5_1 < (l0.length:Int):=of_decide_eq_true (by first | (with_reducible assumption) | assumption);obtain ⟨ad629,e629,hx629_0⟩:=Kd.at_int HR0.out x5_1 p629 q629;cases e629;replace p629:=eq_true p629;replace q629:=eq_true q629;go_wp2;go_roundg k1
     case measure=>have:=HK1.out;omega
     case rel=>exact ⟨(wrap64 (x1_1 + 1)),(wrap64 (x5_1 + 1)),(by first | rfl | (simp;done) | (simp [*];done)),(by first | rfl | (simp;done) | (simp [*];done)),H',⟨by have:=HK1.out;omega⟩,by repeat (first | exact Drawn0.refl _ | apply Drawn0.step)⟩
    ·rw [if_neg c5] at H;have c5b0:((rd l0 x5_1) == x1_1) = false:=beq_eq_false_iff_ne.mpr c5;have c5b1:((rd l0 x5_1) != x1_1) = true:=bne_iff_ne.mpr c5;obtain rfl:=Option.some.inj H;have p629:0 ≤ (x5_1:Int):=of_decide_eq_true (by first | (with_reducible assumption) | assumption);have q629:x5_1 < (l0.length:Int):=of_decide_eq_true (by first | (with_reducible assumption) | assumption);obtain ⟨ad629,e629,hx629_0⟩:=Kd.at_int HR0.out x5_1 p629 q629;cases e629;replace p629:=eq_true p629;replace q629:=eq_true q629;go_wp2;go_ret;exact ⟨by first | rfl | (simp;done) | (simp [*];done),by repeat (first | exact Drawn0.refl _ | apply Drawn0.step)⟩
   ·rw [if_neg c3] at H;have c3b0:decide (x5_1 < (l0.length:Int)) = false:=decide_eq_false c3;clear c3;obtain rfl:=Option.some.inj H;go_wp2;go_ret;exact ⟨by first | rfl | (simp;done) | (simp [*];done),by repeat (first | exact Drawn0.refl _ | apply Drawn0.step)⟩
end Go.Proofs.Ytipaimgpmgbkiaa.F
