-- Printed by a program; checked here.
import Derived.Test.YtnmffpfiichjgaaF0
import Derived.Test.YtnmffpfiichjgaaF1
import Derived.Test.YtnmffpfiichjgaaF2
import Derived.Test.YtnmffpfiichjgaaF3
import Derived.Test.YtnmffpfiichjgaaF4
namespace Go.Proofs.Ytnmffpfiichjgaa.F
open Go.RowKit Go.Proofs.YtnmffpfiichjgaaV.PrintWords Go.Proofs.YtnmffpfiichjgaaV.PrintLast Go.Proofs.YtnmffpfiichjgaaV.PrintMore Go.Proofs.YtnmffpfiichjgaaV.Sl Go.Proofs.YtnmffpfiichjgaaV.Rf
attribute [local go_sem] max2_int min2_int max_two min_two max_three min_three max_four min_four ia_opt it_opt
attribute [local go_sem] Try.underlying4 Try.underlying23 Try.underlying24 Try.underlying25 Try.underlying27 Try.underlying30 Try.underlying42 Try.underlying68 Try.underlying80 Try.underlying111
set_option maxHeartbeats 8000000
set_option maxRecDepth 100000
set_option linter.unusedVariables false
set_option linter.unusedSimpArgs false

attribute [local go_sem high] eqA42
/-! ### spec_syGood: function 93 -/
mutual
def spec_syGood.l0:Nat→List (S42)→Int→Int→Int→Int→List (S42)→List Int→List Int→Option (Bool)
 | 0,_,_,_,_,_,_,_,_=>none
 | k + 1,x8,x9,x10,x572000,x572001,x572002,x572003,x572004=>if x10 < x9 then (if 0 ≤ x10 then (if x10 < (x8.length:Int) then ((spec_paGood.f ((rd_T42 x8 x10).f0) ((rd_T42 x8 x10).f1)).bind fun t574=>(if t574 = true then (spec_syGood.j1 k x10 x8 x9 x10 (((rd_T42 x8 x10).f0) == 0) x572000 x572001 x572002 x572003 x572004 ((rd_T42 x8 x10).f0) ((rd_T42 x8 x10).f1)) else (spec_syGood.j1 k x10 x8 x9 x10 true x572000 x572001 x572002 x572003 x572004 ((rd_T42 x8 x10).f0) ((rd_T42 x8 x10).f1)))) else (none)) else (none)) else ((spec_l1In.f x572000 1 4).bind fun t581=>(if t581 = true then ((spec_l1In.f x572001 1 4).bind fun t582=>(if t582 = true then ((spec_l1In.f (x572002.length:Int) 1 6).bind fun t583=>(if t583 = true then ((spec_l1In.f (x572003.length:Int) 1 8).bind fun t584=>(if t584 = true then (spec_syGood.j3 k ((x572004.length:Int) != (x572003.length:Int)) x572000 x572001 x572002 x572003 x572004) else (spec_syGood.j3 k true x572000 x572001 x572002 x572003 x572004))) else (spec_syGood.j3 k true x572000 x572001 x572002 x572003 x572004))) else (spec_syGood.j3 k true x572000 x572001 x572002 x572003 x572004))) else (spec_syGood.j3 k true x572000 x572001 x572002 x572003 x572004)))
def spec_syGood.j1:Nat→Int→List (S42)→Int→Int→Bool→Int→Int→List (S42)→List Int→List Int→Int→Int→Option (Bool)
 | 0,_,_,_,_,_,_,_,_,_,_,_,_=>none
 | k + 1,x3,x8,x9,x10,x22,x572000,x572001,x572002,x572003,x572004,x574000,x574001=>if x22 = true then (some false) else (if 0 ≤ x3 then (if x3 ≤ (x572002.length:Int) then ((some (x572002.take (x3:Int).toNat:List (S42))).bind fun y575=>(spec_syGood.l1 k x8 x9 x10 y575 (y575.length:Int) 0 x572000 x572001 x572002 x572003 x572004 x574000 x574001)) else (none)) else (none))
def spec_syGood.l1:Nat→List (S42)→Int→Int→List (S42)→Int→Int→Int→Int→List (S42)→List Int→List Int→Int→Int→Option (Bool)
 | 0,_,_,_,_,_,_,_,_,_,_,_,_,_=>none
 | k + 1,x8,x9,x10,x26,x27,x28,x572000,x572001,x572002,x572003,x572004,x574000,x574001=>if x28 < x27 then (if 0 ≤ x28 then (if x28 < (x26.length:Int) then (if (x574000 == ((rd_T42 x26 x28).f0) && (x574001 == ((rd_T42 x26 x28).f1))) = true then (some false) else (spec_syGood.l1 k x8 x9 x10 x26 x27 (wrap64 (x28 + 1)) x572000 x572001 x572002 x572003 x572004 x574000 x574001)) else (none)) else (none)) else (spec_syGood.l0 k x8 x9 (wrap64 (x10 + 1)) x572000 x572001 x572002 x572003 x572004)
def spec_syGood.j3:Nat→Bool→Int→Int→List (S42)→List Int→List Int→Option (Bool)
 | 0,_,_,_,_,_,_=>none
 | k + 1,x69,x572000,x572001,x572002,x572003,x572004=>if x69 = true then (some false) else ((spec_l1All.f k x572003 0 (wrap64 (x572001 - 1))).bind fun t585=>(if t585 = true then ((spec_l1All.f k x572004 0 (wrap64 (x572001 + 1))).bind fun t586=>(if t586 = true then ((spec_syTried.f k x572000 x572001 x572002 x572003 x572004).bind fun t587=>(some (decide (t587 ≤ 7000)))) else (some false))) else (some false)))
end
def spec_syGood.f (k:Nat) (a0_0:Int) (a0_1:Int) (l0_2:List (S42)) (l0_3:List Int) (l0_4:List Int):Option (Bool):=spec_syGood.l0 k l0_2 (l0_2.length:Int) 0 a0_0 a0_1 l0_2 l0_3 l0_4
theorem spec_syGood.calls (k:Nat) (a0_0:Int) (a0_1:Int) (A0_2:Option Addr) (c0_2:Nat) (l0_2:List (S42)) (A0_3:Option Addr) (c0_3:Nat) (l0_3:List Int) (A0_4:Option Addr) (c0_4:Nat) (l0_4:List Int) (r:Bool) (w:World) (hr0_2:Kd.C k42 w A0_2 l0_2.length l0_2) (hc0_2:l0_2.length ≤ c0_2) (hr0_3:Kd.C (Kd.int .i64) w A0_3 l0_3.length l0_3) (hc0_3:l0_3.length ≤ c0_3) (hr0_4:Kd.C (Kd.int .i64) w A0_4 l0_4.length l0_4) (hc0_4:l0_4.length ≤ c0_4) (h:spec_syGood.f k a0_0 a0_1 l0_2 l0_3 l0_4 = some r) :
  Calls Try.prog 93 #[.agg #[.int .i64 a0_0,.int .i64 a0_1,.slice A0_2 l0_2.length c0_2,.slice A0_3 l0_3.length c0_3,.slice A0_4 l0_4.length c0_4]] w fun e w'=>e = .returned (.bool r)∧Below w.heap.size w w':=by
 have HR0_2:=Aside0.mk hr0_2;have HC0_2:=Aside0.mk hc0_2;clear hr0_2 hc0_2;have HR0_3:=Aside0.mk hr0_3;have HC0_3:=Aside0.mk hc0_3;clear hr0_3 hc0_3;have HR0_4:=Aside0.mk hr0_4;have HC0_4:=Aside0.mk hc0_4;clear hr0_4 hc0_4;have HB:=Aside0.mk (Below.refl w.heap.size w);have H:(spec_syGood.l0 k l0_2 (l0_2.length:Int) 0 a0_0 a0_1 l0_2 l0_3 l0_4) = some r:=h;clear h;have H':=Aside0.mk H;clear H;go_enter Try.func93,Try.ntmps93;go_wp2_with (first | ((with_reducible refine gate_dst (N:=1) rfl ?_);refine box_event ?hg (N:=1) ?hd (cs:=#[.int .i64 a0_0,.int .i64 a0_1,.slice A0_2 l0_2.length c0_2,.slice A0_3 l0_3.length c0_3,.slice A0_4 l0_4.length c0_4]) (t:=27) ?hr ?_;(case hd=>rfl);(case hg=>rfl);(case hr=>first | (go_simp;done) | (go_simp;rfl));intro gb571 hg w2 hbox hb;refine ev4 (bs HB hb) (hbox) (gle hg HB) (gle hg HB) ?_;clear HB;intro HB BK571 GW571 GE571;clear hb hbox hg;obtain ⟨hcz3_0,hcz3_1,hcz3_2,hcz3_3,hcz3_4,hfz3_0,hfz3_1,hfz3_2,hfz3_3,hfz3_4⟩:=bt5 BK571))
 go_loopg [10] k (fun kq v10 w'=>∃ (x10_1:Int),v10 = .int .i64 x10_1∧Aside0 (spec_syGood.l0 kq l0_2 (l0_2.length:Int) x10_1 a0_0 a0_1 l0_2 l0_3 l0_4 = some r)∧Aside0 (kq ≤ k)∧Aside0 (w'.heap[gb571]? = some (.cells #[.int .i64 a0_0,.int .i64 a0_1,(.slice A0_2 l0_2.length c0_2),(.slice A0_3 l0_3.length c0_3),(.slice A0_4 l0_4.length c0_4)] 27 (0,0)))∧Aside0 (Below w.heap.size w w'))
 case atStart=>exact ⟨(0),(by first | rfl | (simp;done) | (simp [*];done)),H',⟨Nat.le_refl _⟩,⟨km_ BK571⟩,⟨bm HB⟩⟩
 case round =>
  clear H';(try clear p2);(try clear hcz3_0 hcz3_1 hcz3_2 hcz3_3 hcz3_4 hfz3_0 hfz3_1 hfz3_2 hfz3_3 hfz3_4);obtain ⟨x10_1,rfl,HA,HK1,BK571,HB⟩:=hrel;cases gk with
  | zero=>exact absurd HA.out (by simp [spec_syGood.l0])
  | succ k1 =>
   have H:=HA.out;clear HA;simp only [spec_syGood.l0] at H;by_cases c4:x10_1 < (l0_2.length:Int)
   ·rw [if_pos c4] at H;have c4b0:decide (x10_1 < (l0_2.length:Int)) = true:=decide_eq_true c4;clear c4;replace H:=np_ H;obtain ⟨c5,H⟩:=H;have c5b0:decide (0 ≤ x10_1) = true:=decide_eq_true c5;clear c5;replace H:=np_ H;obtain ⟨c6,H⟩:=H;have c6b0:decide (x10_1 < (l0_2.length:Int)) = true:=decide_eq_true c6;clear c6;have HC7:=Aside0.mk H;clear H;have p572:0 ≤ (x10_1:Int):=of_decide_eq_true (by first | (with_reducible assumption) | assumption);have q572:x10_1 < (l0_2.length:Int):=of_decide_eq_true (by first | (with_reducible assumption) | assumption);obtain ⟨ad572,e572,hx572_0,hx572_1⟩:=at_T42 HR0_2.out x10_1 p572 q572;cases e572;replace hx572_0:=(HB.out.cell (World.block_lt_of_cell? w _ hx572_0)).trans hx572_0;replace hx572_1:=(HB.out.cell (World.block_lt_of_cell? w _ hx572_1)).trans hx572_1;replace p572:=eq_true p572;replace q572:=eq_true q572;go_upto_region 4 with (first | ((with_reducible refine gate_dst (N:=4) rfl ?_);refine box_event ?hg (N:=4) ?hd (cs:=#[.int .i64 0,.int .i64 0]) (t:=42) ?hr ?_;(case hd=>rfl);(case hg=>rfl);(case hr=>first | (go_simp;done) | (go_simp;rfl));intro gb573 hg w8 hbox hb;refine ev7 (kb BK571 hb) (bs HB hb) (hbox) (gle hg HB) (gle hg HB) (gnf hg BK571) (gne hg BK571) ?_;clear BK571 HB;intro BK571 HB BK573 GW573 GE573 NB571_573 NB573_571;clear hb hbox hg;have hnb9:=NB573_571.out;have hnc9:=NB571_573.out;obtain ⟨hcz10_0,hcz10_1,hfz10_0,hfz10_1⟩:=bt2 BK573))
    (try simp only [Act.put,za_,zb_,zc_])
    go_cut [22] (fun v22 wc=>∃ (kq:Nat) (x22_6:Bool),v22 = .bool x22_6∧Aside0 (spec_syGood.j1 kq x10_1 l0_2 (l0_2.length:Int) x10_1 x22_6 a0_0 a0_1 l0_2 l0_3 l0_4 ((rd_T42 l0_2 x10_1).f0) ((rd_T42 l0_2 x10_1).f1) = some r)∧Aside0 (kq ≤ k1)∧Aside0 (wc.heap[gb571]? = some (.cells #[.int .i64 a0_0,.int .i64 a0_1,(.slice (some ad572) l0_2.length c0_2),(.slice A0_3 l0_3.length c0_3),(.slice A0_4 l0_4.length c0_4)] 27 (0,0)))∧Aside0 (wc.heap[gb573]? = some (.cells #[.int .i64 ((rd_T42 l0_2 x10_1).f0),.int .i64 ((rd_T42 l0_2 x10_1).f1)] 42 (0,0)))∧Aside0 (Below w.heap.size w wc))
    case first =>
     have H:=HC7.out;clear HC7;replace H:=Option.bind_eq_some_iff.mp H;obtain ⟨t574,A110,H⟩:=H;(try dsimp only at H)
     have A11:=Aside0.mk A110;clear A110;by_cases c12:t574 = true
     ·subst c12;have H1:(spec_syGood.j1 k1 x10_1 l0_2 (l0_2.length:Int) x10_1 (((rd_T42 l0_2 x10_1).f0) == 0) a0_0 a0_1 l0_2 l0_3 l0_4 ((rd_T42 l0_2 x10_1).f0) ((rd_T42 l0_2 x10_1).f1)) = some r:=by rw [if_pos rfl] at H;exact H
      clear H;have H:=H1;clear H1;have H':=Aside0.mk H;clear H;have hnb13:=NB573_571.out;have hnc13:=NB571_573.out;obtain ⟨hcz14_0,hcz14_1,hfz14_0,hfz14_1⟩:=bt2 BK573;go_wp2_with (first | ((with_reducible refine gate_callee (f:=180) rfl ?_);refine gL_ (some 16) Try.func180 #[.agg #[.int .i64 ((rd_T42 l0_2 x10_1).f0),.int .i64 ((rd_T42 l0_2 x10_1).f1)]] (h:=?_);(with_reducible refine (spec_paGood.calls ((rd_T42 l0_2 x10_1).f0) ((rd_T42 l0_2 x10_1).f1) true _ A11.out).mono ?_);rintro e w15 ⟨rfl,hb⟩;refine ⟨_,rfl,?_⟩;refine ev3 (blk_below (g:=gb571) (o:=.cells #[.int .i64 a0_0,.int .i64 a0_1,.slice (some ad572) l0_2.length c0_2,.slice A0_3 l0_3.length c0_3,.slice A0_4 l0_4.length c0_4] 27 (0,0)) (fp BK571 rfl) hb) (blk_below (g:=gb573) (o:=.cells #[.int .i64 ((rd_T42 l0_2 x10_1).f0),.int .i64 ((rd_T42 l0_2 x10_1).f1)] 42 (0,0)) (fp BK573 rfl) hb) (bs HB hb) ?_;clear BK571 BK573 HB;intro BK571 BK573 HB;(try clear hb);obtain ⟨hcz16_0,hcz16_1,hfz16_0,hfz16_1⟩:=bt2 BK573))
      go_meet
      case rel=>exact ⟨_,((((rd_T42 l0_2 x10_1).f0) == 0)),(by first | rfl | (simp;done) | (simp [*];done)),H',⟨by have:=HK1.out;first | omega | exact Nat.le_refl _⟩,⟨km_ BK571⟩,⟨km_ BK573⟩,⟨bm HB⟩⟩
     ·replace c12:=Bool.eq_false_iff.mpr c12;subst c12;have H1:(spec_syGood.j1 k1 x10_1 l0_2 (l0_2.length:Int) x10_1 true a0_0 a0_1 l0_2 l0_3 l0_4 ((rd_T42 l0_2 x10_1).f0) ((rd_T42 l0_2 x10_1).f1)) = some r:=by rw [if_neg (show ¬ (false = true) by decide)] at H;exact H
      clear H;have H:=H1;clear H1;have H':=Aside0.mk H;clear H;have hnb17:=NB573_571.out;have hnc17:=NB571_573.out;obtain ⟨hcz18_0,hcz18_1,hfz18_0,hfz18_1⟩:=bt2 BK573;go_wp2_with (first | ((with_reducible refine gate_callee (f:=180) rfl ?_);refine gL_ (some 16) Try.func180 #[.agg #[.int .i64 ((rd_T42 l0_2 x10_1).f0),.int .i64 ((rd_T42 l0_2 x10_1).f1)]] (h:=?_);(with_reducible refine (spec_paGood.calls ((rd_T42 l0_2 x10_1).f0) ((rd_T42 l0_2 x10_1).f1) false _ A11.out).mono ?_);rintro e w19 ⟨rfl,hb⟩;refine ⟨_,rfl,?_⟩;refine ev3 (blk_below (g:=gb571) (o:=.cells #[.int .i64 a0_0,.int .i64 a0_1,.slice (some ad572) l0_2.length c0_2,.slice A0_3 l0_3.length c0_3,.slice A0_4 l0_4.length c0_4] 27 (0,0)) (fp BK571 rfl) hb) (blk_below (g:=gb573) (o:=.cells #[.int .i64 ((rd_T42 l0_2 x10_1).f0),.int .i64 ((rd_T42 l0_2 x10_1).f1)] 42 (0,0)) (fp BK573 rfl) hb) (bs HB hb) ?_;clear BK571 BK573 HB;intro BK571 BK573 HB;(try clear hb)))
      go_meet
      case rel=>exact ⟨_,(true),(by first | rfl | (simp;done) | (simp [*];done)),H',⟨by have:=HK1.out;first | omega | exact Nat.le_refl _⟩,⟨km_ BK571⟩,⟨km_ BK573⟩,⟨bm HB⟩⟩
    case rest =>
     clear HC7;(try clear p2);(try clear c4);(try clear c4b0);(try clear c5);(try clear c5b0);(try clear p5);(try clear q5);(try clear hx5);(try clear c6);(try clear c6b0);(try clear c9);(try clear hcz10_0 hcz10_1 hfz10_0 hfz10_1);(try clear hcz3_0 hcz3_1 hcz3_2 hcz3_3 hcz3_4 hfz3_0 hfz3_1 hfz3_2 hfz3_3 hfz3_4);(try clear hx572_0);(try clear hx572_1);(try clear p2);(try clear p572);(try clear q572);obtain ⟨kq,x22_6,rfl,HA,HJ6,BK571,BK573,HB⟩:=hcut;cases kq with
     | zero=>exact absurd HA.out (by simp [spec_syGood.j1])
     | succ kj6 =>
      have H:=HA.out;clear HA;simp only [spec_syGood.j1] at H;by_cases c20:x22_6 = true
      ·subst c20;have H1:(some false) = some r:=by rw [if_pos rfl] at H;exact H
       clear H;have H:=H1;clear H1;obtain rfl:=Option.some.inj H;go_wp2;go_ret;exact ⟨by first | rfl | (simp [e0_,e1_] <;> rfl) | (simp [*,e0_,e1_] <;> rfl),bm HB⟩
      ·replace c20:=Bool.eq_false_iff.mpr c20;subst c20;have H1:(if 0 ≤ x10_1 then (if x10_1 ≤ (l0_2.length:Int) then ((some (l0_2.take (x10_1:Int).toNat:List (S42))).bind fun y575=>(spec_syGood.l1 kj6 l0_2 (l0_2.length:Int) x10_1 y575 (y575.length:Int) 0 a0_0 a0_1 l0_2 l0_3 l0_4 ((rd_T42 l0_2 x10_1).f0) ((rd_T42 l0_2 x10_1).f1))) else (none)) else (none)) = some r:=by rw [if_neg (show ¬ (false = true) by decide)] at H;exact H
       clear H;have H:=H1;clear H1;replace H:=np_ H;obtain ⟨c21,H⟩:=H;have c21b0:=eq_true c21;have c21b1:decide (0 ≤ x10_1) = true:=decide_eq_true c21;clear c21;replace H:=np_ H;obtain ⟨c22,H⟩:=H;have c22b0:=eq_true c22;have c22b1:decide (x10_1 ≤ (l0_2.length:Int)) = true:=decide_eq_true c22;clear c22;obtain ⟨y575,hy575⟩:∃ y_:List (S42),y_ = (l0_2.take (x10_1:Int).toNat):=⟨_,rfl⟩
       replace H:(spec_syGood.l1 kj6 l0_2 (l0_2.length:Int) x10_1 y575 (y575.length:Int) 0 a0_0 a0_1 l0_2 l0_3 l0_4 ((rd_T42 l0_2 x10_1).f0) ((rd_T42 l0_2 x10_1).f1)) = some r:=by first | (rw [hy575];with_reducible exact H) | (have H2_:=(Option.bind_some _ _).symm.trans H;rw [hy575];with_reducible exact H2_) | (have H2_:=(Option.bind_some _ _).symm.trans H;with_reducible exact H2_) | with_reducible exact H | (rw [hy575];exact H) | exact H
       have Ny575:=Aside0.mk hy575;clear hy575;have H':=Aside0.mk H;clear H;have hnb23:=NB571_573.out;have hnc23:=NB573_571.out;obtain ⟨hcz24_0,hcz24_1,hcz24_2,hcz24_3,hcz24_4,hfz24_0,hfz24_1,hfz24_2,hfz24_3,hfz24_4⟩:=bt5 BK571;have q25:(x10_1:Int) ≤ ((l0_2.length:Int):Int):=of_decide_eq_true (by first | (with_reducible assumption) | assumption);obtain ⟨i025,hi025,_,hsz25,_⟩:=info_parts info42;have hroom25:l0_2.length ≤ c0_2:=HC0_2.out;have hC25:Kd.C k42 _ (some ad572) l0_2.length l0_2:=HR0_2.out;have hcut25:=cut_to (P:=Try.prog) 24 42 .i64 Try.underlying24 hi025 (some ad572) l0_2.length c0_2 x10_1 (of_decide_eq_true (by first | (with_reducible assumption) | assumption)) q25 hroom25;have hr25:=Kd.C_take (m:=(x10_1:Int).toNat) hC25 (by omega);have hy25:y575.length = (x10_1:Int).toNat:=(by rw [Ny575.out,List.length_take];omega)
       rw [← Ny575.out] at hr25;rw [← hy25] at hcut25;have HR578:=Aside0.mk hr25;have HC578:=Aside0.mk (show y575.length ≤ c0_2 from by omega);clear hr25 hC25 hroom25 hi025 hsz25;have KY25:=Aside0.mk hy25;clear hy25;replace q25:=eq_true q25;go_wp2;go_loopg [28] kj6 (fun kq v28 w'=>∃ (x28_3:Int),v28 = .int .i64 x28_3∧Aside0 (spec_syGood.l1 kq l0_2 (l0_2.length:Int) x10_1 y575 (y575.length:Int) x28_3 a0_0 a0_1 l0_2 l0_3 l0_4 ((rd_T42 l0_2 x10_1).f0) ((rd_T42 l0_2 x10_1).f1) = some r)∧Aside0 (kq ≤ kj6)∧Aside0 (w'.heap[gb571]? = some (.cells #[.int .i64 a0_0,.int .i64 a0_1,(.slice (some ad572) l0_2.length c0_2),(.slice A0_3 l0_3.length c0_3),(.slice A0_4 l0_4.length c0_4)] 27 (0,0)))∧Aside0 (w'.heap[gb573]? = some (.cells #[.int .i64 ((rd_T42 l0_2 x10_1).f0),.int .i64 ((rd_T42 l0_2 x10_1).f1)] 42 (0,0)))∧Aside0 (Below w.heap.size w w'))
       case atStart=>exact ⟨(0),(by first | rfl | (simp;done) | (simp [*];done)),H',⟨Nat.le_refl _⟩,⟨km_ BK571⟩,⟨km_ BK573⟩,⟨bm HB⟩⟩
       case round =>
        clear H';(try clear c2);(try clear p2);(try clear q2);(try clear c4);(try clear c4b0);(try clear c5);(try clear c5b0);(try clear p5);(try clear q5);(try clear hx5);(try clear c6);(try clear c6b0);(try clear c9);(try clear c20);(try clear c21);(try clear c21b0);(try clear c21b1);(try clear c22);(try clear c22b0);(try clear c22b1);(try clear c23);(try clear q25);(try clear hcz10_0 hcz10_1 hfz10_0 hfz10_1);(try clear hcz24_0 hcz24_1 hcz24_2 hcz24_3 hcz24_4 hfz24_0 hfz24_1 hfz24_2 hfz24_3 hfz24_4);(try clear hcz3_0 hcz3_1 hcz3_2 hcz3_3 hcz3_4 hfz3_0 hfz3_1 hfz3_2 hfz3_3 hfz3_4);(try clear hx572_0);(try clear hx572_1);(try clear p2);(try clear p5);(try clear p572);(try clear q25);(try clear q5);(try clear q572);obtain ⟨x28_3,rfl,HA,HK3,BK571,BK573,HB⟩:=hrel;cases gk with
        | zero=>exact absurd HA.out (by simp [spec_syGood.l1])
        | succ k3 =>
         have H:=HA.out;clear HA;simp only [spec_syGood.l1] at H;by_cases c26:x28_3 < (y575.length:Int)
         ·rw [if_pos c26] at H;have c26b0:decide (x28_3 < (y575.length:Int)) = true:=decide_eq_true c26;clear c26;replace H:=np_ H;obtain ⟨c27,H⟩:=H;have c27b0:decide (0 ≤ x28_3) = true:=decide_eq_true c27;clear c27;replace H:=np_ H;obtain ⟨c28,H⟩:=H;have c28b0:decide (x28_3 < (y575.length:Int)) = true:=decide_eq_true c28;clear c28;by_cases c29:(((rd_T42 l0_2 x10_1).f0) == ((rd_T42 y575 x28_3).f0) && (((rd_T42 l0_2 x10_1).f1) == ((rd_T42 y575 x28_3).f1))) = true
          ·rw [if_pos c29] at H;have c29b0:(((rd_T42 l0_2 x10_1).f0) == ((rd_T42 y575 x28_3).f0) && (((rd_T42 l0_2 x10_1).f1) == ((rd_T42 y575 x28_3).f1))) = true:=c29;(try (have c29b1:decide (((rd_T42 l0_2 x10_1).f0) = ((rd_T42 y575 x28_3).f0) && (((rd_T42 l0_2 x10_1).f1) == ((rd_T42 y575 x28_3).f1))) = true:=by simpa using c29))
           (try (have c29b2:(((rd_T42 l0_2 x10_1).f0) == ((rd_T42 y575 x28_3).f0) && (((rd_T42 l0_2 x10_1).f1) == ((rd_T42 y575 x28_3).f1))) = true:=by simpa using c29))
           clear c29;obtain rfl:=Option.some.inj H;have p579:0 ≤ (x28_3:Int):=of_decide_eq_true (by first | (with_reducible assumption) | assumption);have q579:x28_3 < (y575.length:Int):=of_decide_eq_true (by first | (with_reducible assumption) | assumption);obtain ⟨ad579,e579,hx579_0,hx579_1⟩:=at_T42 HR578.out x28_3 p579 q579;obtain rfl:ad572 = ad579:=(by injection e579)
           replace hx579_0:=(HB.out.cell (World.block_lt_of_cell? w _ hx579_0)).trans hx579_0;replace hx579_1:=(HB.out.cell (World.block_lt_of_cell? w _ hx579_1)).trans hx579_1;replace p579:=eq_true p579;replace q579:=eq_true q579;go_wp2_with (first | ((with_reducible refine gate_dst (N:=6) rfl ?_);refine box_event ?hg (N:=6) ?hd (cs:=#[.int .i64 0,.int .i64 0]) (t:=42) ?hr ?_;(case hd=>rfl);(case hg=>rfl);(case hr=>first | (go_simp;done) | (go_simp;rfl));intro gb580 hg w30 hbox hb;refine ev10 (kb BK571 hb) (kb BK573 hb) (bs HB hb) (hbox) (gle hg HB) (gle hg HB) (gnf hg BK571) (gne hg BK571) (gnf hg BK573) (gne hg BK573) ?_;clear BK571 BK573 HB;intro BK571 BK573 HB BK580 GW580 GE580 NB571_580 NB580_571 NB573_580 NB580_573;clear hb hbox hg;have hnb31:=NB580_571.out;have hnc31:=NB571_580.out;have hnb32:=NB580_573.out;have hnc32:=NB573_580.out;obtain ⟨hcz33_0,hcz33_1,hfz33_0,hfz33_1⟩:=bt2 BK580;have hnb34:=NB573_571.out;have hnc34:=NB571_573.out;obtain ⟨hcz35_0,hcz35_1,hfz35_0,hfz35_1⟩:=bt2 BK573))
           go_ret;exact ⟨by first | rfl | (simp [e0_,e1_] <;> rfl) | (simp [*,e0_,e1_] <;> rfl),bm HB⟩
          ·rw [if_neg c29] at H;have c29b0:(((rd_T42 l0_2 x10_1).f0) == ((rd_T42 y575 x28_3).f0) && (((rd_T42 l0_2 x10_1).f1) == ((rd_T42 y575 x28_3).f1))) = false:=by simpa using c29
           (try (have c29b1:decide (((rd_T42 l0_2 x10_1).f0) = ((rd_T42 y575 x28_3).f0) && (((rd_T42 l0_2 x10_1).f1) == ((rd_T42 y575 x28_3).f1))) = false:=by simpa using c29))
           (try (have c29b2:(((rd_T42 l0_2 x10_1).f0) == ((rd_T42 y575 x28_3).f0) && (((rd_T42 l0_2 x10_1).f1) == ((rd_T42 y575 x28_3).f1))) = false:=by simpa using c29))
           (try (have c29b3:¬ (((rd_T42 l0_2 x10_1).f0) = ((rd_T42 y575 x28_3).f0) && (((rd_T42 l0_2 x10_1).f1) == ((rd_T42 y575 x28_3).f1))):=by simpa using c29))
           clear c29;have H':=Aside0.mk H;clear H;have p579:0 ≤ (x28_3:Int):=of_decide_eq_true (by first | (with_reducible assumption) | assumption);have q579:x28_3 < (y575.length:Int):=of_decide_eq_true (by first | (with_reducible assumption) | assumption);obtain ⟨ad579,e579,hx579_0,hx579_1⟩:=at_T42 HR578.out x28_3 p579 q579;obtain rfl:ad572 = ad579:=(by injection e579)
           replace hx579_0:=(HB.out.cell (World.block_lt_of_cell? w _ hx579_0)).trans hx579_0;replace hx579_1:=(HB.out.cell (World.block_lt_of_cell? w _ hx579_1)).trans hx579_1;replace p579:=eq_true p579;replace q579:=eq_true q579;go_wp2_with (first | ((with_reducible refine gate_dst (N:=6) rfl ?_);refine box_event ?hg (N:=6) ?hd (cs:=#[.int .i64 0,.int .i64 0]) (t:=42) ?hr ?_;(case hd=>rfl);(case hg=>rfl);(case hr=>first | (go_simp;done) | (go_simp;rfl));intro gb580 hg w36 hbox hb;refine ev10 (kb BK571 hb) (kb BK573 hb) (bs HB hb) (hbox) (gle hg HB) (gle hg HB) (gnf hg BK571) (gne hg BK571) (gnf hg BK573) (gne hg BK573) ?_;clear BK571 BK573 HB;intro BK571 BK573 HB BK580 GW580 GE580 NB571_580 NB580_571 NB573_580 NB580_573;clear hb hbox hg;have hnb37:=NB580_571.out;have hnc37:=NB571_580.out;have hnb38:=NB580_573.out;have hnc38:=NB573_580.out;obtain ⟨hcz39_0,hcz39_1,hfz39_0,hfz39_1⟩:=bt2 BK580;have hnb40:=NB573_571.out;have hnc40:=NB571_573.out;obtain ⟨hcz41_0,hcz41_1,hfz41_0,hfz41_1⟩:=bt2 BK573))
           go_roundg k3
           case measure=>have:=HK1.out;have:=HJ6.out;have:=HK3.out;omega
           case rel=>exact ⟨(wrap64 (x28_3 + 1)),(by first | rfl | (simp;done) | (simp [*];done)),H',⟨by have:=HK1.out;have:=HJ6.out;have:=HK3.out;omega⟩,⟨fp BK571 rfl⟩,⟨fp BK573 rfl⟩,⟨bm HB⟩⟩
         ·rw [if_neg c26] at H;have c26b0:decide (x28_3 < (y575.length:Int)) = false:=decide_eq_false c26;clear c26;have H':=Aside0.mk H;clear H;go_wp2;go_roundg k3
          case measure=>have:=HK1.out;have:=HJ6.out;have:=HK3.out;omega
          case rel=>exact ⟨(wrap64 (x10_1 + 1)),(by first | rfl | (simp;done) | (simp [*];done)),H',⟨by have:=HK1.out;have:=HJ6.out;have:=HK3.out;omega⟩,⟨km_ BK571⟩,⟨bm HB⟩⟩
   ·rw [if_neg c4] at H;have c4b0:decide (x10_1 < (l0_2.length:Int)) = false:=decide_eq_false c4;clear c4;have HC42:=Aside0.mk H;clear H;go_upto_region 13 with (fail)
    go_cut [69] (fun v69 wc=>∃ (kq:Nat) (x69_41:Bool),v69 = .bool x69_41∧Aside0 (spec_syGood.j3 kq x69_41 a0_0 a0_1 l0_2 l0_3 l0_4 = some r)∧Aside0 (kq ≤ k1)∧Aside0 (wc.heap[gb571]? = some (.cells #[.int .i64 a0_0,.int .i64 a0_1,(.slice A0_2 l0_2.length c0_2),(.slice A0_3 l0_3.length c0_3),(.slice A0_4 l0_4.length c0_4)] 27 (0,0)))∧Aside0 (Below w.heap.size w wc))
    case first =>
     have H:=HC42.out;clear HC42;replace H:=Option.bind_eq_some_iff.mp H;obtain ⟨t581,A430,H⟩:=H;(try dsimp only at H)
     have A43:=Aside0.mk A430;clear A430;by_cases c44:t581 = true
     ·subst c44;have H1:((spec_l1In.f a0_1 1 4).bind fun t582=>(if t582 = true then ((spec_l1In.f (l0_2.length:Int) 1 6).bind fun t583=>(if t583 = true then ((spec_l1In.f (l0_3.length:Int) 1 8).bind fun t584=>(if t584 = true then (spec_syGood.j3 k1 ((l0_4.length:Int) != (l0_3.length:Int)) a0_0 a0_1 l0_2 l0_3 l0_4) else (spec_syGood.j3 k1 true a0_0 a0_1 l0_2 l0_3 l0_4))) else (spec_syGood.j3 k1 true a0_0 a0_1 l0_2 l0_3 l0_4))) else (spec_syGood.j3 k1 true a0_0 a0_1 l0_2 l0_3 l0_4))) = some r:=by rw [if_pos rfl] at H;exact H
      clear H;have H:=H1;clear H1;replace H:=Option.bind_eq_some_iff.mp H;obtain ⟨t582,A450,H⟩:=H;(try dsimp only at H)
      have A45:=Aside0.mk A450;clear A450;by_cases c46:t582 = true
      ·subst c46;have H1:((spec_l1In.f (l0_2.length:Int) 1 6).bind fun t583=>(if t583 = true then ((spec_l1In.f (l0_3.length:Int) 1 8).bind fun t584=>(if t584 = true then (spec_syGood.j3 k1 ((l0_4.length:Int) != (l0_3.length:Int)) a0_0 a0_1 l0_2 l0_3 l0_4) else (spec_syGood.j3 k1 true a0_0 a0_1 l0_2 l0_3 l0_4))) else (spec_syGood.j3 k1 true a0_0 a0_1 l0_2 l0_3 l0_4))) = some r:=by rw [if_pos rfl] at H;exact H
       clear H;have H:=H1;clear H1;replace H:=Option.bind_eq_some_iff.mp H;obtain ⟨t583,A470,H⟩:=H;(try dsimp only at H)
       have A47:=Aside0.mk A470;clear A470;by_cases c48:t583 = true
       ·subst c48;have H1:((spec_l1In.f (l0_3.length:Int) 1 8).bind fun t584=>(if t584 = true then (spec_syGood.j3 k1 ((l0_4.length:Int) != (l0_3.length:Int)) a0_0 a0_1 l0_2 l0_3 l0_4) else (spec_syGood.j3 k1 true a0_0 a0_1 l0_2 l0_3 l0_4))) = some r:=by rw [if_pos rfl] at H;exact H
        clear H;have H:=H1;clear H1;replace H:=Option.bind_eq_some_iff.mp H;obtain ⟨t584,A490,H⟩:=H;(try dsimp only at H)
        have A49:=Aside0.mk A490;clear A490;by_cases c50:t584 = true
        ·subst c50;have H1:(spec_syGood.j3 k1 ((l0_4.length:Int) != (l0_3.length:Int)) a0_0 a0_1 l0_2 l0_3 l0_4) = some r:=by rw [if_pos rfl] at H;exact H
         clear H;have H:=H1;clear H1;have H':=Aside0.mk H;clear H;obtain ⟨hcz51_0,hcz51_1,hcz51_2,hcz51_3,hcz51_4,hfz51_0,hfz51_1,hfz51_2,hfz51_3,hfz51_4⟩:=bt5 BK571;go_wp2_with (first | ((with_reducible refine gate_callee (f:=116) rfl ?_);refine gL_ (some 39) Try.func116 #[.int .i64 a0_0,.int .i64 1,.int .i64 4] (h:=?_);(with_reducible refine (spec_l1In.calls a0_0 1 4 true _ A43.out).mono ?_);rintro e w' ⟨rfl,⟨nd,rfl⟩⟩;refine ⟨_,rfl,?_⟩) | (go_at_call 116;(with_reducible refine (spec_l1In.calls a0_1 1 4 true _ A45.out).mono ?_);rintro e w' ⟨rfl,⟨nd,rfl⟩⟩) | (go_at_call 116;(with_reducible refine (spec_l1In.calls (l0_2.length:Int) 1 6 true _ A47.out).mono ?_);rintro e w' ⟨rfl,⟨nd,rfl⟩⟩) | (go_at_call 116;(with_reducible refine (spec_l1In.calls (l0_3.length:Int) 1 8 true _ A49.out).mono ?_);rintro e w' ⟨rfl,⟨nd,rfl⟩⟩))
         go_meet
         case rel=>exact ⟨_,(((l0_4.length:Int) != (l0_3.length:Int))),(by first | rfl | (simp;done) | (simp [*];done)),H',⟨by have:=HK1.out;first | omega | exact Nat.le_refl _⟩,⟨km_ BK571⟩,⟨bm HB⟩⟩
        ·replace c50:=Bool.eq_false_iff.mpr c50;subst c50;have H1:(spec_syGood.j3 k1 true a0_0 a0_1 l0_2 l0_3 l0_4) = some r:=by rw [if_neg (show ¬ (false = true) by decide)] at H;exact H
         clear H;have H:=H1;clear H1;have H':=Aside0.mk H;clear H;obtain ⟨hcz52_0,hcz52_1,hcz52_2,hcz52_3,hcz52_4,hfz52_0,hfz52_1,hfz52_2,hfz52_3,hfz52_4⟩:=bt5 BK571;go_wp2_with (first | ((with_reducible refine gate_callee (f:=116) rfl ?_);refine gL_ (some 39) Try.func116 #[.int .i64 a0_0,.int .i64 1,.int .i64 4] (h:=?_);(with_reducible refine (spec_l1In.calls a0_0 1 4 true _ A43.out).mono ?_);rintro e w' ⟨rfl,⟨nd,rfl⟩⟩;refine ⟨_,rfl,?_⟩) | (go_at_call 116;(with_reducible refine (spec_l1In.calls a0_1 1 4 true _ A45.out).mono ?_);rintro e w' ⟨rfl,⟨nd,rfl⟩⟩) | (go_at_call 116;(with_reducible refine (spec_l1In.calls (l0_2.length:Int) 1 6 true _ A47.out).mono ?_);rintro e w' ⟨rfl,⟨nd,rfl⟩⟩) | (go_at_call 116;(with_reducible refine (spec_l1In.calls (l0_3.length:Int) 1 8 false _ A49.out).mono ?_);rintro e w' ⟨rfl,⟨nd,rfl⟩⟩))
         go_meet
         case rel=>exact ⟨_,(true),(by first | rfl | (simp;done) | (simp [*];done)),H',⟨by have:=HK1.out;first | omega | exact Nat.le_refl _⟩,⟨km_ BK571⟩,⟨bm HB⟩⟩
       ·replace c48:=Bool.eq_false_iff.mpr c48;subst c48;have H1:(spec_syGood.j3 k1 true a0_0 a0_1 l0_2 l0_3 l0_4) = some r:=by rw [if_neg (show ¬ (false = true) by decide)] at H;exact H
        clear H;have H:=H1;clear H1;have H':=Aside0.mk H;clear H;obtain ⟨hcz53_0,hcz53_1,hcz53_2,hcz53_3,hcz53_4,hfz53_0,hfz53_1,hfz53_2,hfz53_3,hfz53_4⟩:=bt5 BK571;go_wp2_with (first | ((with_reducible refine gate_callee (f:=116) rfl ?_);refine gL_ (some 39) Try.func116 #[.int .i64 a0_0,.int .i64 1,.int .i64 4] (h:=?_);(with_reducible refine (spec_l1In.calls a0_0 1 4 true _ A43.out).mono ?_);rintro e w' ⟨rfl,⟨nd,rfl⟩⟩;refine ⟨_,rfl,?_⟩) | (go_at_call 116;(with_reducible refine (spec_l1In.calls a0_1 1 4 true _ A45.out).mono ?_);rintro e w' ⟨rfl,⟨nd,rfl⟩⟩) | (go_at_call 116;(with_reducible refine (spec_l1In.calls (l0_2.length:Int) 1 6 false _ A47.out).mono ?_);rintro e w' ⟨rfl,⟨nd,rfl⟩⟩))
        go_meet
        case rel=>exact ⟨_,(true),(by first | rfl | (simp;done) | (simp [*];done)),H',⟨by have:=HK1.out;first | omega | exact Nat.le_refl _⟩,⟨km_ BK571⟩,⟨bm HB⟩⟩
      ·replace c46:=Bool.eq_false_iff.mpr c46;subst c46;have H1:(spec_syGood.j3 k1 true a0_0 a0_1 l0_2 l0_3 l0_4) = some r:=by rw [if_neg (show ¬ (false = true) by decide)] at H;exact H
       clear H;have H:=H1;clear H1;have H':=Aside0.mk H;clear H;obtain ⟨hcz54_0,hcz54_1,hcz54_2,hcz54_3,hcz54_4,hfz54_0,hfz54_1,hfz54_2,hfz54_3,hfz54_4⟩:=bt5 BK571;go_wp2_with (first | ((with_reducible refine gate_callee (f:=116) rfl ?_);refine gL_ (some 39) Try.func116 #[.int .i64 a0_0,.int .i64 1,.int .i64 4] (h:=?_);(with_reducible refine (spec_l1In.calls a0_0 1 4 true _ A43.out).mono ?_);rintro e w' ⟨rfl,⟨nd,rfl⟩⟩;refine ⟨_,rfl,?_⟩) | (go_at_call 116;(with_reducible refine (spec_l1In.calls a0_1 1 4 false _ A45.out).mono ?_);rintro e w' ⟨rfl,⟨nd,rfl⟩⟩))
       go_meet
       case rel=>exact ⟨_,(true),(by first | rfl | (simp;done) | (simp [*];done)),H',⟨by have:=HK1.out;first | omega | exact Nat.le_refl _⟩,⟨km_ BK571⟩,⟨bm HB⟩⟩
     ·replace c44:=Bool.eq_false_iff.mpr c44;subst c44;have H1:(spec_syGood.j3 k1 true a0_0 a0_1 l0_2 l0_3 l0_4) = some r:=by rw [if_neg (show ¬ (false = true) by decide)] at H;exact H
      clear H;have H:=H1;clear H1;have H':=Aside0.mk H;clear H;obtain ⟨hcz55_0,hcz55_1,hcz55_2,hcz55_3,hcz55_4,hfz55_0,hfz55_1,hfz55_2,hfz55_3,hfz55_4⟩:=bt5 BK571;go_wp2_with (first | ((with_reducible refine gate_callee (f:=116) rfl ?_);refine gL_ (some 39) Try.func116 #[.int .i64 a0_0,.int .i64 1,.int .i64 4] (h:=?_);(with_reducible refine (spec_l1In.calls a0_0 1 4 false _ A43.out).mono ?_);rintro e w' ⟨rfl,⟨nd,rfl⟩⟩;refine ⟨_,rfl,?_⟩))
      go_meet
      case rel=>exact ⟨_,(true),(by first | rfl | (simp;done) | (simp [*];done)),H',⟨by have:=HK1.out;first | omega | exact Nat.le_refl _⟩,⟨km_ BK571⟩,⟨bm HB⟩⟩
    case rest =>
     clear HC42;(try clear p2);(try clear c4);(try clear c4b0);(try clear c9);(try clear hcz3_0 hcz3_1 hcz3_2 hcz3_3 hcz3_4 hfz3_0 hfz3_1 hfz3_2 hfz3_3 hfz3_4);(try clear p2);obtain ⟨kq,x69_41,rfl,HA,HJ41,BK571,HB⟩:=hcut;cases kq with
     | zero=>exact absurd HA.out (by simp [spec_syGood.j3])
     | succ kj41 =>
      have H:=HA.out;clear HA;simp only [spec_syGood.j3] at H;by_cases c56:x69_41 = true
      ·subst c56;have H1:(some false) = some r:=by rw [if_pos rfl] at H;exact H
       clear H;have H:=H1;clear H1;obtain rfl:=Option.some.inj H;go_wp2;go_ret;exact ⟨by first | rfl | (simp [e0_,e1_] <;> rfl) | (simp [*,e0_,e1_] <;> rfl),bm HB⟩
      ·replace c56:=Bool.eq_false_iff.mpr c56;subst c56;have H1:((spec_l1All.f kj41 l0_3 0 (wrap64 (a0_1 - 1))).bind fun t585=>(if t585 = true then ((spec_l1All.f kj41 l0_4 0 (wrap64 (a0_1 + 1))).bind fun t586=>(if t586 = true then ((spec_syTried.f kj41 a0_0 a0_1 l0_2 l0_3 l0_4).bind fun t587=>(some (decide (t587 ≤ 7000)))) else (some false))) else (some false))) = some r:=by rw [if_neg (show ¬ (false = true) by decide)] at H;exact H
       clear H;have H:=H1;clear H1;replace H:=Option.bind_eq_some_iff.mp H;obtain ⟨t585,A570,H⟩:=H;(try dsimp only at H)
       have A57:=Aside0.mk A570;clear A570;by_cases c58:t585 = true
       ·subst c58;have H1:((spec_l1All.f kj41 l0_4 0 (wrap64 (a0_1 + 1))).bind fun t586=>(if t586 = true then ((spec_syTried.f kj41 a0_0 a0_1 l0_2 l0_3 l0_4).bind fun t587=>(some (decide (t587 ≤ 7000)))) else (some false))) = some r:=by rw [if_pos rfl] at H;exact H
        clear H;have H:=H1;clear H1;replace H:=Option.bind_eq_some_iff.mp H;obtain ⟨t586,A590,H⟩:=H;(try dsimp only at H)
        have A59:=Aside0.mk A590;clear A590;by_cases c60:t586 = true
        ·subst c60;have H1:((spec_syTried.f kj41 a0_0 a0_1 l0_2 l0_3 l0_4).bind fun t587=>(some (decide (t587 ≤ 7000)))) = some r:=by rw [if_pos rfl] at H;exact H
         clear H;have H:=H1;clear H1;replace H:=Option.bind_eq_some_iff.mp H;obtain ⟨t587,A610,H⟩:=H;(try dsimp only at H)
         have A61:=Aside0.mk A610;clear A610;obtain rfl:=Option.some.inj H;obtain ⟨hcz62_0,hcz62_1,hcz62_2,hcz62_3,hcz62_4,hfz62_0,hfz62_1,hfz62_2,hfz62_3,hfz62_4⟩:=bt5 BK571;go_wp2_with (first | ((with_reducible refine gate_callee (f:=124) rfl ?_);refine gL_ (some 75) Try.func124 #[.slice A0_3 l0_3.length c0_3,.int .i64 0,.int .i64 (wrap64 (a0_1 - 1))] (h:=?_);(with_reducible refine (spec_l1All.calls kj41 _ _ l0_3 0 (wrap64 (a0_1 - 1)) true _ (Kd.C_mv (Kd.C_below HR0_3.out HB.out)) HC0_3.out A57.out).mono ?_);rintro e w' ⟨rfl,⟨nd,rfl⟩⟩;refine ⟨_,rfl,?_⟩) | (go_at_call 124;(with_reducible refine (spec_l1All.calls kj41 _ _ l0_4 0 (wrap64 (a0_1 + 1)) true _ (Kd.C_below HR0_4.out (bm HB)) HC0_4.out A59.out).mono ?_);rintro e w' ⟨rfl,⟨nd,rfl⟩⟩) | (go_at_call 129;(with_reducible refine (spec_syTried.calls kj41 a0_0 a0_1 _ _ l0_2 _ _ l0_3 _ _ l0_4 t587 _ (Kd.C_below HR0_2.out (bm HB)) HC0_2.out (Kd.C_below HR0_3.out (bm HB)) HC0_3.out (Kd.C_below HR0_4.out (bm HB)) HC0_4.out A61.out).mono ?_);rintro e w63 ⟨rfl,hb⟩;refine ev2 (kb BK571 hb) (bs HB hb) ?_;clear BK571 HB;intro BK571 HB;(try clear hb)))
         go_ret;exact ⟨by first | rfl | (simp [e0_,e1_] <;> rfl) | (simp [*,e0_,e1_] <;> rfl),bm HB⟩
        ·replace c60:=Bool.eq_false_iff.mpr c60;subst c60;have H1:(some false) = some r:=by rw [if_neg (show ¬ (false = true) by decide)] at H;exact H
         clear H;have H:=H1;clear H1;obtain rfl:=Option.some.inj H;obtain ⟨hcz64_0,hcz64_1,hcz64_2,hcz64_3,hcz64_4,hfz64_0,hfz64_1,hfz64_2,hfz64_3,hfz64_4⟩:=bt5 BK571;go_wp2_with (first | ((with_reducible refine gate_callee (f:=124) rfl ?_);refine gL_ (some 75) Try.func124 #[.slice A0_3 l0_3.length c0_3,.int .i64 0,.int .i64 (wrap64 (a0_1 - 1))] (h:=?_);(with_reducible refine (spec_l1All.calls kj41 _ _ l0_3 0 (wrap64 (a0_1 - 1)) true _ (Kd.C_mv (Kd.C_below HR0_3.out HB.out)) HC0_3.out A57.out).mono ?_);rintro e w' ⟨rfl,⟨nd,rfl⟩⟩;refine ⟨_,rfl,?_⟩) | (go_at_call 124;(with_reducible refine (spec_l1All.calls kj41 _ _ l0_4 0 (wrap64 (a0_1 + 1)) false _ (Kd.C_below HR0_4.out (bm HB)) HC0_4.out A59.out).mono ?_);rintro e w' ⟨rfl,⟨nd,rfl⟩⟩))
         go_ret;exact ⟨by first | rfl | (simp [e0_,e1_] <;> rfl) | (simp [*,e0_,e1_] <;> rfl),bm HB⟩
       ·replace c58:=Bool.eq_false_iff.mpr c58;subst c58;have H1:(some false) = some r:=by rw [if_neg (show ¬ (false = true) by decide)] at H;exact H
        clear H;have H:=H1;clear H1;obtain rfl:=Option.some.inj H;obtain ⟨hcz65_0,hcz65_1,hcz65_2,hcz65_3,hcz65_4,hfz65_0,hfz65_1,hfz65_2,hfz65_3,hfz65_4⟩:=bt5 BK571;go_wp2_with (first | ((with_reducible refine gate_callee (f:=124) rfl ?_);refine gL_ (some 75) Try.func124 #[.slice A0_3 l0_3.length c0_3,.int .i64 0,.int .i64 (wrap64 (a0_1 - 1))] (h:=?_);(with_reducible refine (spec_l1All.calls kj41 _ _ l0_3 0 (wrap64 (a0_1 - 1)) false _ (Kd.C_mv (Kd.C_below HR0_3.out HB.out)) HC0_3.out A57.out).mono ?_);rintro e w' ⟨rfl,⟨nd,rfl⟩⟩;refine ⟨_,rfl,?_⟩))
        go_ret;exact ⟨by first | rfl | (simp [e0_,e1_] <;> rfl) | (simp [*,e0_,e1_] <;> rfl),bm HB⟩

/-! ### spec_boParts: function 133 -/
def spec_boParts.l0:Nat→List Int→List (S42)→Int→Int→Option (List Int)
  | 0,_,_,_,_=>none
  | k + 1,x3,x8,x9,x10=>if x10 < x9 then (if 0 ≤ x10 then (if x10 < (x8.length:Int) then (if 0 ≤ ((rd_T42 x8 x10).f0) then (if ((rd_T42 x8 x10).f0) < (x3.length:Int) then (spec_boParts.l0 k (x3.set (((rd_T42 x8 x10).f0):Int).toNat (wrap64 ((rd x3 ((rd_T42 x8 x10).f0)) + 1))) x8 x9 (wrap64 (x10 + 1))) else (none)) else (none)) else (none)) else (none)) else (some x3)
def spec_boParts.f (k:Nat) (a0_0:Int) (a0_1:Int) (l0_2:List (S42)):Option (List Int):=if 8 ≤ 35184372088832 then (spec_boParts.l0 k (List.replicate 8 0) l0_2 (l0_2.length:Int) 0) else (none)
theorem spec_boParts.calls (k:Nat) (a0_0:Int) (a0_1:Int) (A0_2:Option Addr) (c0_2:Nat) (l0_2:List (S42)) (r:List Int) (w:World) (hr0_2:Kd.C k42 w A0_2 l0_2.length l0_2) (hc0_2:l0_2.length ≤ c0_2) (h:spec_boParts.f k a0_0 a0_1 l0_2 = some r) :
    Calls Try.prog 133 #[.agg #[.int .i64 a0_0,.int .i64 a0_1,.slice A0_2 l0_2.length c0_2]] w fun e w'=>∃ v0_:Value,e = .returned (v0_)∧Kd.R (Kd.int .i64) 3 w' w.heap.size (fun _=>True) v0_ r∧Below w.heap.size w w':=by
 have S:=St.init (w:=w) (dc k42_heap at42 hr0_2 hc0_2 dn)
 clear hr0_2 hc0_2
 have F:=S.fc
 have H:=h;clear h;unfold spec_boParts.f at H
 replace H:=np_ H;obtain ⟨c2,H⟩:=H;(try simp only [F] at c2)
 (first | (with_reducible replace H:=ob_ H;obtain ⟨y589,hy589,H⟩:=H;(try dsimp only at H)) | (obtain ⟨y589,hy589⟩:∃ y_:List Int,y_ = (List.replicate 8 0):=⟨_,rfl⟩;(try rw [← hy589] at H);(try simp only [Option.bind_some] at H)));have Ny589:=Aside0.mk hy589;clear hy589
 go_enter Try.func133,Try.ntmps133
 go_wp2_with (first | ((with_reducible refine gd 1 rfl (L ?_));refine bo 1 (.agg #[_,_,_]) S ?_;clear S F;intro gb588 W S;have F:=S.fc) | ((with_reducible refine gd 6 rfl (L ?_));refine mka 6 (atI .i64) S Try.underlying25 info3 ?_;clear S F;intro Ay589 cy589 W S;(try simp only [Int.reduceToNat] at S ⊢);(try rw [← Ny589.out] at S ⊢);have F:=S.fc))
 go_loopg [10] k (fun kq v10 w'=>∃ (x3_1:List Int) (x10_1:Int),v10 = .int .i64 x10_1∧spec_boParts.l0 kq x3_1 l0_2 (l0_2.length:Int) x10_1 = some r∧kq ≤ k∧St w w (fun _=>False) [bor at42 A0_2 c0_2 l0_2] w'  [row (atI .i64) 3 Ay589 y589.length cy589 x3_1,box gb588 30 [.int .i64 a0_0,.int .i64 a0_1,.slice A0_2 l0_2.length c0_2]])
 case atStart=>exact ⟨y589,0,(by first | rfl | (simp;done) | (simp [*];done) | (rw [w6_ (by omega) (by omega)])),(by first | exact H | (simp only [F];exact H)),Nat.le_refl _,S⟩
 case round =>
  clear H S F
  obtain ⟨x3_1,x10_1,rfl,HA,HK1,S⟩:=hrel
  have F:=S.fc
  cases gk with
  | zero=>exact absurd HA (by simp [spec_boParts.l0])
  | succ k1 =>
   have H:=HA;clear HA;simp only [spec_boParts.l0,F] at H
   replace H:=sp_ H;rcases H with ⟨c7,H⟩ | ⟨c7,H⟩
   · skip
     replace H:=np_ H;obtain ⟨c8,H⟩:=H;(try simp only [F] at c8)
     replace H:=np_ H;obtain ⟨c9,H⟩:=H;(try simp only [F] at c9)
     replace H:=np_ H;obtain ⟨c10,H⟩:=H;(try simp only [F] at c10)
     replace H:=np_ H;obtain ⟨c11,H⟩:=H;(try simp only [F] at c11)
     (first | (with_reducible replace H:=ob_ H;obtain ⟨y595,hy595,H⟩:=H;(try dsimp only at H)) | (obtain ⟨y595,hy595⟩:∃ y_:List Int,y_ = (x3_1.set (((rd_T42 l0_2 x10_1).f0):Int).toNat (wrap64 ((rd x3_1 ((rd_T42 l0_2 x10_1).f0)) + 1))):=⟨_,rfl⟩;(try rw [← hy595] at H);(try simp only [Option.bind_some] at H)));have Ny595:=Aside0.mk hy595;clear hy595
     go_wp2_with (first | ((with_reducible refine gd 5 rfl (L ?_));refine al 5 S zi42 ?_;clear S F;intro gb593 W S;have F:=S.fc) | ((with_reducible refine gs (t:=3) rfl (L ?_));refine ro (.int _ _) S sz3 ?_ (ho:=rfl) (hx:=rfl) (hy:=rfl);clear S F;intro W S;(try simp only [gd42] at S);(try rw [← Ny589.out] at S);(try rw [← Ny595.out] at S);have F:=S.fc) | ((with_reducible refine gs (t:=42) rfl (L ?_));refine sb (.agg #[_,_]) S sz42 ?_;clear S F;intro W S;(try simp only [gd42] at S);(try rw [← Ny589.out] at S);(try rw [← Ny595.out] at S);have F:=S.fc))
     go_roundg k1
     case measure=>omega
     case rel=>exact ⟨y595,(wrap64 (x10_1 + 1)),(by first | rfl | (simp;done) | (simp [*];done) | (rw [w6_ (by omega) (by omega)])),(by first | exact H | (simp only [F];exact H)),(by first | omega | exact Nat.le_refl _),S.tl⟩
   · skip
     obtain rfl:=Option.some.inj H
     go_wp2
     go_ret
     exact ⟨_,(by first | rfl | (simp [e0_,e1_] <;> rfl) | (simp [*,e0_,e1_] <;> rfl)),(by first | exact S.r | exact Kd.R_nil _ _ _ _ _),S.below⟩

/-! ### spec_sySize: function 130 -/
def spec_sySize.f (k:Nat) (a0_0:Int) (a0_1:Int) (l0_2:List (S42)):Option (Int):=(spec_boParts.f k a0_0 a0_1 l0_2).bind fun t597=>(if 0 < (t597.length:Int) then (some (wrap64 ((l0_2.length:Int) - (rd t597 0)))) else (none))
theorem spec_sySize.calls (k:Nat) (a0_0:Int) (a0_1:Int) (A0_2:Option Addr) (c0_2:Nat) (l0_2:List (S42)) (r:Int) (w:World) (hr0_2:Kd.C k42 w A0_2 l0_2.length l0_2) (hc0_2:l0_2.length ≤ c0_2) (h:spec_sySize.f k a0_0 a0_1 l0_2 = some r) :
    Calls Try.prog 130 #[.agg #[.int .i64 a0_0,.int .i64 a0_1,.slice A0_2 l0_2.length c0_2]] w fun e w'=>e = .returned (.int .i64 r)∧Below w.heap.size w w':=by
 have S:=St.init (w:=w) (dc k42_heap at42 hr0_2 hc0_2 dn)
 clear hr0_2 hc0_2
 have F:=S.fc
 have H:=h;clear h;unfold spec_sySize.f at H
 replace H:=Option.bind_eq_some_iff.mp H;obtain ⟨t597,A2,H⟩:=H;(try dsimp only at H)
 replace H:=np_ H;obtain ⟨c3,H⟩:=H;(try have m_t597:0 < t597.length:=by omega)
 obtain rfl:=Option.some.inj H
 go_enter Try.func130,Try.ntmps130
 go_wp2_with ((with_reducible refine gd 1 rfl (L ?_));refine bo 1 (.agg #[_,_,_]) S ?_;clear S F;intro gb596 W S;have F:=S.fc)
 refine rq S [(0,0),(1,1),(0,2),(1,3),(2,4),(0,5),(2,6),(0,7),(0,8)] [] (h:=?_);clear S F;intro W S;have S0:=S;have F:=S.fc
 repeat (first | (refine q0 (h:=?_)) | (refine q1 S0 (h:=?_)))
 refine lk2 (by rfl) (by exact (Eq.refl true)) ?_;refine cl (some 7) Try.func133 (spec_boParts.calls _ _ _ _ _ _ _ _ S.c S.n A2) (hargs:=by (simp only [ma_,mb_,mc_,F] <;> rfl)) (h:=?_);rintro e W ⟨v598,rfl,ho0,hb⟩;refine ⟨_,rfl,?_⟩;replace S:=S.got (atI .i64) hb ho0;obtain ⟨At597,ct597,rfl,S⟩:=S;clear F hb ho0;have F:=S.fc;(try have z_:=rd0_ S m_t597)
 clear S0;have S0:=S.tl;refine ⟨S0,?_⟩
 repeat (first | (refine q0 (h:=?_)) | (refine q2 S0 (h:=?_)))
 refine oz ?_
 try clear S0
 try go_wp2
 go_ret
 exact ⟨(by first | rfl | (simp [e0_,e1_] <;> rfl) | (simp [*,e0_,e1_] <;> rfl)),S.below⟩

/-! ### spec_syMeets: function 138 -/
def spec_syMeets.l0:Nat→List Int→Int→Int→Int→Int→List (S42)→List Int→List Int→Int→Int→List (S42)→Int→Int→List (S42)→Option (Bool)
  | 0,_,_,_,_,_,_,_,_,_,_,_,_,_,_=>none
  | k + 1,x12,x13,x14,x602000,x602001,x602002,x602003,x602004,x603000,x603001,x603002,x604000,x604001,x604002=>if x14 < x13 then (if 0 ≤ x14 then (if x14 < (x12.length:Int) then ((spec_flRun.f k x604000 x604001 x604002 (rd x12 x14)).bind fun bt605=>((spec_syEnd.f x603000 x603001 x603002 bt605.1 bt605.2.1 bt605.2.2.1).bind fun t615=>(if x14 < (x602004.length:Int) then (if t615 = (rd x602004 x14) then (spec_syMeets.l0 k x12 x13 (wrap64 (x14 + 1)) x602000 x602001 x602002 x602003 x602004 x603000 x603001 x603002 bt605.2.2.2.1 bt605.2.2.2.2.1 bt605.2.2.2.2.2) else (some false)) else (none)))) else (none)) else (none)) else (some true)
def spec_syMeets.f (k:Nat) (a0_0:Int) (a0_1:Int) (l0_2:List (S42)) (l0_3:List Int) (l0_4:List Int) (a1_0:Int) (a1_1:Int) (l1_2:List (S42)):Option (Bool):=spec_syMeets.l0 k l0_3 (l0_3.length:Int) 0 a0_0 a0_1 l0_2 l0_3 l0_4 a1_0 a1_1 l1_2 a1_0 a1_1 l1_2
theorem spec_syMeets.calls (k:Nat) (a0_0:Int) (a0_1:Int) (A0_2:Option Addr) (c0_2:Nat) (l0_2:List (S42)) (A0_3:Option Addr) (c0_3:Nat) (l0_3:List Int) (A0_4:Option Addr) (c0_4:Nat) (l0_4:List Int) (a1_0:Int) (a1_1:Int) (A1_2:Option Addr) (c1_2:Nat) (l1_2:List (S42)) (r:Bool) (w:World) (hr0_2:Kd.C k42 w A0_2 l0_2.length l0_2) (hc0_2:l0_2.length ≤ c0_2) (hr0_3:Kd.C (Kd.int .i64) w A0_3 l0_3.length l0_3) (hc0_3:l0_3.length ≤ c0_3) (hr0_4:Kd.C (Kd.int .i64) w A0_4 l0_4.length l0_4) (hc0_4:l0_4.length ≤ c0_4) (hr1_2:Kd.C k42 w A1_2 l1_2.length l1_2) (hc1_2:l1_2.length ≤ c1_2) (h:spec_syMeets.f k a0_0 a0_1 l0_2 l0_3 l0_4 a1_0 a1_1 l1_2 = some r) :
    Calls Try.prog 138 #[.agg #[.int .i64 a0_0,.int .i64 a0_1,.slice A0_2 l0_2.length c0_2,.slice A0_3 l0_3.length c0_3,.slice A0_4 l0_4.length c0_4],.agg #[.int .i64 a1_0,.int .i64 a1_1,.slice A1_2 l1_2.length c1_2]] w fun e w'=>e = .returned (.bool r)∧Below w.heap.size w w':=by
 have S:=St.init (w:=w) (dc k42_heap at42 hr0_2 hc0_2 (dc (Kd.heap_int .i64) (atI .i64) hr0_3 hc0_3 (dc (Kd.heap_int .i64) (atI .i64) hr0_4 hc0_4 (dc k42_heap at42 hr1_2 hc1_2 dn))))
 clear hr0_2 hc0_2 hr0_3 hc0_3 hr0_4 hc0_4 hr1_2 hc1_2
 have F:=S.fc
 have H:=h;clear h;unfold spec_syMeets.f at H
 go_enter Try.func138,Try.ntmps138
 go_wp2_with (first | ((with_reducible refine gd 2 rfl (L ?_));refine bo 2 (.agg #[_,_,_,_,_]) S ?_;clear S F;intro gb601 W S;have F:=S.fc) | ((with_reducible refine gd 3 rfl (L ?_));refine bo 3 (.agg #[_,_,_]) S ?_;clear S F;intro gb602 W S;have F:=S.fc) | ((with_reducible refine gd 5 rfl (L ?_));refine al 5 S zi30 ?_;clear S F;intro gb603 W S;have F:=S.fc) | ((with_reducible refine gs (t:=30) rfl (L ?_));refine sb (.agg #[_,_,_]) S sz30 ?_;(clear S F;intro W S;have F:=S.fc)))
 go_loopg [14] k (fun kq v14 w'=>∃ (x14_1:Int) (x604000_1:Int) (x604001_1:Int) (x604002_1:List (S42)) (Ax604002_1:Option Addr) (cx604002_1:Nat),v14 = .int .i64 x14_1∧spec_syMeets.l0 kq l0_3 (l0_3.length:Int) x14_1 a0_0 a0_1 l0_2 l0_3 l0_4 a1_0 a1_1 l1_2 x604000_1 x604001_1 x604002_1 = some r∧kq ≤ k∧St w w (fun _=>False) [bor at42 Ax604002_1 cx604002_1 x604002_1,bor at42 A0_2 c0_2 l0_2,bor (atI .i64) A0_3 c0_3 l0_3,bor (atI .i64) A0_4 c0_4 l0_4,bor at42 A1_2 c1_2 l1_2] w'  [box gb603 30 [.int .i64 x604000_1,.int .i64 x604001_1,.slice Ax604002_1 x604002_1.length cx604002_1],box gb602 30 [.int .i64 a1_0,.int .i64 a1_1,.slice A1_2 l1_2.length c1_2],box gb601 27 [.int .i64 a0_0,.int .i64 a0_1,.slice A0_2 l0_2.length c0_2,.slice A0_3 l0_3.length c0_3,.slice A0_4 l0_4.length c0_4]])
 case atStart=>exact ⟨0,a1_0,a1_1,l1_2,_,_,(by first | rfl | (simp;done) | (simp [*];done) | (rw [w6_ (by omega) (by omega)])),H,Nat.le_refl _,(S.dk [3,0,1,2,3])⟩
 case round =>
  clear H S F
  obtain ⟨x14_1,x604000_1,x604001_1,x604002_1,Ax604002_1,cx604002_1,rfl,HA,HK1,S⟩:=hrel
  have F:=S.fc
  cases gk with
  | zero=>exact absurd HA (by simp [spec_syMeets.l0])
  | succ k1 =>
   have H:=HA;clear HA;simp only [spec_syMeets.l0,F] at H
   replace H:=sp_ H;rcases H with ⟨c12,H⟩ | ⟨c12,H⟩
   · skip
     replace H:=np_ H;obtain ⟨c13,H⟩:=H
     replace H:=np_ H;obtain ⟨c14,H⟩:=H
     replace H:=Option.bind_eq_some_iff.mp H;obtain ⟨⟨t605,t606,t607,t608,t609,t610⟩,A15,H⟩:=H;(try dsimp only at H)
     replace H:=Option.bind_eq_some_iff.mp H;obtain ⟨t615,A16,H⟩:=H;(try dsimp only at H)
     replace H:=np_ H;obtain ⟨c17,H⟩:=H
     replace H:=sp_ H;rcases H with ⟨c18,H⟩ | ⟨c18,H⟩
     · skip
       replace c18:=ceq c18
       go_wp2_with (first | ((with_reducible refine gate_callee (f:=141) rfl (L ?_));refine cl (some 22) Try.func141 (spec_flRun.calls _ _ _ _ _ _ _ _ _ _ _ _ _ _ S.c S.n A15) (hargs:=by (simp only [ma_,mb_,mc_,F] <;> rfl)) (h:=?_);rintro e W ⟨v611,rfl,ho0,hb⟩;refine ⟨_,rfl,?_⟩;replace S:=S.got at42 hb ho0;obtain ⟨At610,ct610,rfl,S⟩:=S;clear F hb ho0;have F:=S.fc) | ((with_reducible refine gd 8 rfl (L ?_));refine al 8 S zi80 ?_;clear S F;intro gb613 W S;have F:=S.fc) | ((with_reducible refine gd 9 rfl (L ?_));refine al 9 S zi30 ?_;clear S F;intro gb614 W S;have F:=S.fc) | ((with_reducible refine gs (t:=30) rfl (L ?_));refine sb (.agg #[_,_,_]) S sz30 ?_;(clear S F;intro W S;have F:=S.fc)) | ((with_reducible refine gs (t:=80) rfl (L ?_));refine sb (.agg #[_,_,_]) S sz80 ?_;(clear S F;intro W S;have F:=S.fc)))
       refine rq S [(0,3),(0,5),(1,0),(1,1),(1,4),(0,6),(1,7),(2,2),(0,8)] [] (h:=?_);clear S F;intro W S;have S0:=S;have F:=S.fc
       repeat (first | (refine q0 (h:=?_)) | (refine q1 S0 (h:=?_)))
       refine lk2 (by rfl) (by exact (Eq.refl true)) ?_;refine cl (some 27) Try.func142 (spec_syEnd.calls _ _ _ _ _ _ _ _ _ _ S.c S.n A16) (hargs:=by (simp only [ma_,mb_,mc_,F] <;> rfl)) (h:=?_);rintro e W ⟨rfl,hb⟩;refine ⟨_,rfl,?_⟩;replace S:=S.go hb;clear F hb;have F:=S.fc
       clear S0;have S0:=S;refine ⟨S0,?_⟩
       repeat ((refine q0 (h:=?_)))
       refine oz ?_
       try clear S0
       go_wp2_with ((with_reducible refine gs (t:=30) rfl (L ?_));refine sb (.agg #[_,_,_]) S sz30 ?_;(clear S F;intro W S;have F:=S.fc))
       go_roundg k1
       case measure=>omega
       case rel=>exact ⟨(wrap64 (x14_1 + 1)),t608,t609,t610,_,_,(by first | rfl | (simp;done) | (simp [*];done) | (rw [w6_ (by omega) (by omega)])),H,(by first | omega | exact Nat.le_refl _),((S.fzr At610 rfl).dk [0,2,3,4,5]).tl.tl.tl⟩
     · skip
       replace c18:=cne c18
       obtain rfl:=Option.some.inj H
       go_wp2_with (first | ((with_reducible refine gate_callee (f:=141) rfl (L ?_));refine cl (some 22) Try.func141 (spec_flRun.calls _ _ _ _ _ _ _ _ _ _ _ _ _ _ S.c S.n A15) (hargs:=by (simp only [ma_,mb_,mc_,F] <;> rfl)) (h:=?_);rintro e W ⟨v611,rfl,ho0,hb⟩;refine ⟨_,rfl,?_⟩;replace S:=S.got at42 hb ho0;obtain ⟨At610,ct610,rfl,S⟩:=S;clear F hb ho0;have F:=S.fc) | ((with_reducible refine gd 8 rfl (L ?_));refine al 8 S zi80 ?_;clear S F;intro gb613 W S;have F:=S.fc) | ((with_reducible refine gd 9 rfl (L ?_));refine al 9 S zi30 ?_;clear S F;intro gb614 W S;have F:=S.fc) | ((with_reducible refine gs (t:=30) rfl (L ?_));refine sb (.agg #[_,_,_]) S sz30 ?_;(clear S F;intro W S;have F:=S.fc)) | ((with_reducible refine gs (t:=80) rfl (L ?_));refine sb (.agg #[_,_,_]) S sz80 ?_;(clear S F;intro W S;have F:=S.fc)))
       refine rq S [(0,3),(0,5),(1,0),(1,1),(1,4),(0,6),(1,7),(2,2),(0,8)] [] (h:=?_);clear S F;intro W S;have S0:=S;have F:=S.fc
       repeat (first | (refine q0 (h:=?_)) | (refine q1 S0 (h:=?_)))
       refine lk2 (by rfl) (by exact (Eq.refl true)) ?_;refine cl (some 27) Try.func142 (spec_syEnd.calls _ _ _ _ _ _ _ _ _ _ S.c S.n A16) (hargs:=by (simp only [ma_,mb_,mc_,F] <;> rfl)) (h:=?_);rintro e W ⟨rfl,hb⟩;refine ⟨_,rfl,?_⟩;replace S:=S.go hb;clear F hb;have F:=S.fc
       clear S0;have S0:=S;refine ⟨S0,?_⟩
       repeat ((refine q0 (h:=?_)))
       refine oz ?_
       try clear S0
       go_wp2
       go_ret
       exact ⟨(by first | rfl | (simp [e0_,e1_] <;> rfl) | (simp [*,e0_,e1_] <;> rfl)),S.below⟩
   · skip
     obtain rfl:=Option.some.inj H
     go_wp2
     go_ret
     exact ⟨(by first | rfl | (simp [e0_,e1_] <;> rfl) | (simp [*,e0_,e1_] <;> rfl)),S.below⟩

/-! ### spec_syCount: function 94 -/
def spec_syCount.l0:Nat→List Int→Int→Int→Int→Int→Int→Int→List (S42)→List Int→List Int→Option (List Int × Int × Int)
  | 0,_,_,_,_,_,_,_,_,_,_=>none
  | k + 1,x5,x6,x7,x8,x9,x618000,x618001,x618002,x618003,x618004=>(spec_syTried.f k x618000 x618001 x618002 x618003 x618004).bind fun t621=>(if x9 < t621 then ((spec_syBoard.f k x618000 x618001 x618002 x618003 x618004 x9).bind fun bt622=>((spec_syMeets.f k x618000 x618001 x618002 x618003 x618004 bt622.1 bt622.2.1 bt622.2.2).bind fun t628=>(if t628 = true then ((spec_sySize.f k bt622.1 bt622.2.1 bt622.2.2).bind fun t629=>(if 0 ≤ t629 then (if t629 < (x5.length:Int) then ((some (x5.set (t629:Int).toNat (wrap64 ((rd x5 t629) + 1)):List Int)).bind fun y631=>(if x6 < 0 then (if x7 < 0 then (spec_syCount.l0 k y631 x9 x9 t629 (wrap64 (x9 + 1)) x618000 x618001 x618002 x618003 x618004) else (if t629 < x8 then (spec_syCount.l0 k y631 x9 x9 t629 (wrap64 (x9 + 1)) x618000 x618001 x618002 x618003 x618004) else (spec_syCount.l0 k y631 x9 x7 x8 (wrap64 (x9 + 1)) x618000 x618001 x618002 x618003 x618004))) else (if x7 < 0 then (spec_syCount.l0 k y631 x6 x9 t629 (wrap64 (x9 + 1)) x618000 x618001 x618002 x618003 x618004) else (if t629 < x8 then (spec_syCount.l0 k y631 x6 x9 t629 (wrap64 (x9 + 1)) x618000 x618001 x618002 x618003 x618004) else (spec_syCount.l0 k y631 x6 x7 x8 (wrap64 (x9 + 1)) x618000 x618001 x618002 x618003 x618004))))) else (none)) else (none))) else (spec_syCount.l0 k x5 x6 x7 x8 (wrap64 (x9 + 1)) x618000 x618001 x618002 x618003 x618004)))) else (some (x5,x6,x7)))
def spec_syCount.f (k:Nat) (a0_0:Int) (a0_1:Int) (l0_2:List (S42)) (l0_3:List Int) (l0_4:List Int):Option (List Int × Int × Int):=if 0 ≤ (wrap64 ((wrap64 (a0_0 * a0_1)) + 1)) then (if (wrap64 ((wrap64 (a0_0 * a0_1)) + 1):Int).toNat ≤ 35184372088832 then (spec_syCount.l0 k (List.replicate (wrap64 ((wrap64 (a0_0 * a0_1)) + 1):Int).toNat 0) (-1) (-1) 0 0 a0_0 a0_1 l0_2 l0_3 l0_4) else (none)) else (none)
theorem spec_syCount.calls (k:Nat) (a0_0:Int) (a0_1:Int) (A0_2:Option Addr) (c0_2:Nat) (l0_2:List (S42)) (A0_3:Option Addr) (c0_3:Nat) (l0_3:List Int) (A0_4:Option Addr) (c0_4:Nat) (l0_4:List Int) (r1:List Int) (r2:Int) (r3:Int) (w:World) (hr0_2:Kd.C k42 w A0_2 l0_2.length l0_2) (hc0_2:l0_2.length ≤ c0_2) (hr0_3:Kd.C (Kd.int .i64) w A0_3 l0_3.length l0_3) (hc0_3:l0_3.length ≤ c0_3) (hr0_4:Kd.C (Kd.int .i64) w A0_4 l0_4.length l0_4) (hc0_4:l0_4.length ≤ c0_4) (h:spec_syCount.f k a0_0 a0_1 l0_2 l0_3 l0_4 = some (r1,r2,r3)) :
    Calls Try.prog 94 #[.agg #[.int .i64 a0_0,.int .i64 a0_1,.slice A0_2 l0_2.length c0_2,.slice A0_3 l0_3.length c0_3,.slice A0_4 l0_4.length c0_4]] w fun e w'=>∃ v0_:Value,e = .returned (.tuple #[v0_,.int .i64 r2,.int .i64 r3])∧Kd.R (Kd.int .i64) 3 w' w.heap.size (fun _=>True) v0_ r1∧Below w.heap.size w w':=by
 have S:=St.init (w:=w) (dc k42_heap at42 hr0_2 hc0_2 (dc (Kd.heap_int .i64) (atI .i64) hr0_3 hc0_3 (dc (Kd.heap_int .i64) (atI .i64) hr0_4 hc0_4 dn)))
 clear hr0_2 hc0_2 hr0_3 hc0_3 hr0_4 hc0_4
 have F:=S.fc
 have H:=h;clear h;unfold spec_syCount.f at H
 obtain ⟨ji2,hji2⟩:∃ j_:Int,(wrap64 ((wrap64 (a0_0 * a0_1)) + 1)) = j_:=⟨_,rfl⟩;simp only [hji2] at H
 have hji2w:(IntKind.i64.wrap ((wrap64 (a0_0 * a0_1)) + 1)) = ji2:=(i64_w _).trans hji2
 replace H:=np_ H;obtain ⟨c3,H⟩:=H;(try simp only [F] at c3)
 replace H:=np_ H;obtain ⟨c4,H⟩:=H;(try simp only [F] at c4)
 (first | (with_reducible replace H:=ob_ H;obtain ⟨y618,hy618,H⟩:=H;(try dsimp only at H)) | (obtain ⟨y618,hy618⟩:∃ y_:List Int,y_ = (List.replicate (ji2:Int).toNat 0):=⟨_,rfl⟩;(try rw [← hy618] at H);(try simp only [Option.bind_some] at H)));have Ny618:=Aside0.mk hy618;clear hy618
 go_enter Try.func94,Try.ntmps94
 go_wp2_with (first | ((with_reducible refine gd 1 rfl (L ?_));refine bo 1 (.agg #[_,_,_,_,_]) S ?_;clear S F;intro gb617 W S;have F:=S.fc) | ((with_reducible refine gd 18 rfl (L ?_));refine mka 18 (atI .i64) S Try.underlying25 info3 ?_;clear S F;intro Ay618 cy618 W S;(try simp only [Int.reduceToNat] at S ⊢);(try rw [← Ny618.out] at S ⊢);have F:=S.fc))
 go_loopg [6,7,8,9] k (fun kq v6 v7 v8 v9 w'=>∃ (x5_1:List Int) (x6_1:Int) (x7_1:Int) (x8_1:Int) (x9_1:Int),v6 = .int .i64 x6_1∧v7 = .int .i64 x7_1∧v8 = .int .i64 x8_1∧v9 = .int .i64 x9_1∧spec_syCount.l0 kq x5_1 x6_1 x7_1 x8_1 x9_1 a0_0 a0_1 l0_2 l0_3 l0_4 = some (r1,r2,r3)∧kq ≤ k∧St w w (fun _=>False) [bor at42 A0_2 c0_2 l0_2,bor (atI .i64) A0_3 c0_3 l0_3,bor (atI .i64) A0_4 c0_4 l0_4] w'  [row (atI .i64) 3 Ay618 y618.length cy618 x5_1,box gb617 27 [.int .i64 a0_0,.int .i64 a0_1,.slice A0_2 l0_2.length c0_2,.slice A0_3 l0_3.length c0_3,.slice A0_4 l0_4.length c0_4]])
 case atStart=>exact ⟨y618,(-1),(-1),0,0,(by first | rfl | (simp;done) | (simp [*];done) | (rw [w6_ (by omega) (by omega)])),(by first | rfl | (simp;done) | (simp [*];done) | (rw [w6_ (by omega) (by omega)])),(by first | rfl | (simp;done) | (simp [*];done) | (rw [w6_ (by omega) (by omega)])),(by first | rfl | (simp;done) | (simp [*];done) | (rw [w6_ (by omega) (by omega)])),(by first | exact H | (simp only [F];exact H)),Nat.le_refl _,S⟩
 case round =>
  clear H S F
  obtain ⟨x5_1,x6_1,x7_1,x8_1,x9_1,rfl,rfl,rfl,rfl,HA,HK1,S⟩:=hrel
  have F:=S.fc
  cases gk with
  | zero=>exact absurd HA (by simp [spec_syCount.l0])
  | succ k1 =>
   have H:=HA;clear HA;simp only [spec_syCount.l0,F] at H
   replace H:=Option.bind_eq_some_iff.mp H;obtain ⟨t621,A9,H⟩:=H;(try dsimp only at H)
   replace H:=sp_ H;rcases H with ⟨c10,H⟩ | ⟨c10,H⟩
   · skip
     replace H:=Option.bind_eq_some_iff.mp H;obtain ⟨⟨t622,t623,t624⟩,A11,H⟩:=H;(try dsimp only at H)
     replace H:=Option.bind_eq_some_iff.mp H;obtain ⟨t628,A12,H⟩:=H;(try dsimp only at H)
     replace H:=sp_ H;rcases H with ⟨c13,H⟩ | ⟨c13,H⟩
     · skip
       subst c13
       replace H:=Option.bind_eq_some_iff.mp H;obtain ⟨t629,A14,H⟩:=H;(try dsimp only at H)
       replace H:=np_ H;obtain ⟨c15,H⟩:=H;(try simp only [F] at c15)
       replace H:=np_ H;obtain ⟨c16,H⟩:=H;(try simp only [F] at c16)
       (first | (with_reducible replace H:=ob_ H;obtain ⟨y631,hy631,H⟩:=H;(try dsimp only at H)) | (obtain ⟨y631,hy631⟩:∃ y_:List Int,y_ = (x5_1.set (t629:Int).toNat (wrap64 ((rd x5_1 t629) + 1))):=⟨_,rfl⟩;(try rw [← hy631] at H);(try simp only [Option.bind_some] at H)));have Ny631:=Aside0.mk hy631;clear hy631
       replace H:=sp_ H;rcases H with ⟨c18,H⟩ | ⟨c18,H⟩
       · skip
         replace H:=sp_ H;rcases H with ⟨c19,H⟩ | ⟨c19,H⟩
         · skip
           go_wp2_with (first | ((with_reducible refine gate_callee (f:=129) rfl (L ?_));refine cl (some 21) Try.func129 (spec_syTried.calls _ _ _ _ _ _ _ _ _ _ _ _ _ _ S.c S.n S.c S.n S.c S.n A9) (hargs:=by (simp only [ma_,mb_,mc_,F] <;> rfl)) (h:=?_);rintro e W ⟨rfl,hb⟩;refine ⟨_,rfl,?_⟩;replace S:=S.go hb;clear F hb;have F:=S.fc) | ((with_reducible refine gate_callee (f:=95) rfl (L ?_));refine cl (some 27) Try.func95 (spec_syBoard.calls _ _ _ _ _ _ _ _ _ _ _ _ _ _ _ _ _ S.c S.n S.c S.n S.c S.n A11) (hargs:=by (simp only [ma_,mb_,mc_,F] <;> rfl)) (h:=?_);rintro e W ⟨v625,rfl,ho0,hb⟩;refine ⟨_,rfl,?_⟩;replace S:=S.got at42 hb ho0;obtain ⟨At624,ct624,rfl,S⟩:=S;clear F hb ho0;(try rw [← Ny618.out] at S);(try rw [← Ny631.out] at S);have F:=S.fc) | ((with_reducible refine gd 10 rfl (L ?_));refine al 10 S zi30 ?_;clear S F;intro gb627 W S;have F:=S.fc) | ((with_reducible refine gate_callee (f:=138) rfl (L ?_));refine cl (some 30) Try.func138 (spec_syMeets.calls _ _ _ _ _ _ _ _ _ _ _ _ _ _ _ _ _ _ _ S.c S.n S.c S.n S.c S.n S.c S.n A12) (hargs:=by (simp only [ma_,mb_,mc_,F] <;> rfl)) (h:=?_);rintro e W ⟨rfl,hb⟩;refine ⟨_,rfl,?_⟩;replace S:=S.go hb;clear F hb;have F:=S.fc) | ((with_reducible refine gate_callee (f:=130) rfl (L ?_));refine cl (some 33) Try.func130 (spec_sySize.calls _ _ _ _ _ _ _ _ S.c S.n A14) (hargs:=by (simp only [ma_,mb_,mc_,F] <;> rfl)) (h:=?_);rintro e W ⟨rfl,hb⟩;refine ⟨_,rfl,?_⟩;replace S:=S.go hb;clear F hb;have F:=S.fc) | ((with_reducible refine gs (t:=3) rfl (L ?_));refine ro (.int _ _) S sz3 ?_ (ho:=rfl) (hx:=rfl) (hy:=rfl);clear S F;intro W S;(try rw [← Ny618.out] at S);(try rw [← Ny631.out] at S);have F:=S.fc) | ((with_reducible refine gs (t:=30) rfl (L ?_));refine sb (.agg #[_,_,_]) S sz30 ?_;clear S F;intro W S;(try rw [← Ny618.out] at S);(try rw [← Ny631.out] at S);have F:=S.fc))
           go_roundg k1
           case measure=>omega
           case rel=>exact ⟨y631,x9_1,x9_1,t629,(wrap64 (x9_1 + 1)),(by first | rfl | (simp;done) | (simp [*];done) | (rw [w6_ (by omega) (by omega)])),(by first | rfl | (simp;done) | (simp [*];done) | (rw [w6_ (by omega) (by omega)])),(by first | rfl | (simp;done) | (simp [*];done) | (rw [w6_ (by omega) (by omega)])),(by first | rfl | (simp;done) | (simp [*];done) | (rw [w6_ (by omega) (by omega)])),(by first | exact H | (simp only [F];exact H)),(by first | omega | exact Nat.le_refl _),S.tl.tl⟩
         · skip
           replace H:=sp_ H;rcases H with ⟨c37,H⟩ | ⟨c37,H⟩
           · skip
             go_wp2_with (first | ((with_reducible refine gate_callee (f:=129) rfl (L ?_));refine cl (some 21) Try.func129 (spec_syTried.calls _ _ _ _ _ _ _ _ _ _ _ _ _ _ S.c S.n S.c S.n S.c S.n A9) (hargs:=by (simp only [ma_,mb_,mc_,F] <;> rfl)) (h:=?_);rintro e W ⟨rfl,hb⟩;refine ⟨_,rfl,?_⟩;replace S:=S.go hb;clear F hb;have F:=S.fc) | ((with_reducible refine gate_callee (f:=95) rfl (L ?_));refine cl (some 27) Try.func95 (spec_syBoard.calls _ _ _ _ _ _ _ _ _ _ _ _ _ _ _ _ _ S.c S.n S.c S.n S.c S.n A11) (hargs:=by (simp only [ma_,mb_,mc_,F] <;> rfl)) (h:=?_);rintro e W ⟨v625,rfl,ho0,hb⟩;refine ⟨_,rfl,?_⟩;replace S:=S.got at42 hb ho0;obtain ⟨At624,ct624,rfl,S⟩:=S;clear F hb ho0;(try rw [← Ny618.out] at S);(try rw [← Ny631.out] at S);have F:=S.fc) | ((with_reducible refine gd 10 rfl (L ?_));refine al 10 S zi30 ?_;clear S F;intro gb627 W S;have F:=S.fc) | ((with_reducible refine gate_callee (f:=138) rfl (L ?_));refine cl (some 30) Try.func138 (spec_syMeets.calls _ _ _ _ _ _ _ _ _ _ _ _ _ _ _ _ _ _ _ S.c S.n S.c S.n S.c S.n S.c S.n A12) (hargs:=by (simp only [ma_,mb_,mc_,F] <;> rfl)) (h:=?_);rintro e W ⟨rfl,hb⟩;refine ⟨_,rfl,?_⟩;replace S:=S.go hb;clear F hb;have F:=S.fc) | ((with_reducible refine gate_callee (f:=130) rfl (L ?_));refine cl (some 33) Try.func130 (spec_sySize.calls _ _ _ _ _ _ _ _ S.c S.n A14) (hargs:=by (simp only [ma_,mb_,mc_,F] <;> rfl)) (h:=?_);rintro e W ⟨rfl,hb⟩;refine ⟨_,rfl,?_⟩;replace S:=S.go hb;clear F hb;have F:=S.fc) | ((with_reducible refine gs (t:=3) rfl (L ?_));refine ro (.int _ _) S sz3 ?_ (ho:=rfl) (hx:=rfl) (hy:=rfl);clear S F;intro W S;(try rw [← Ny618.out] at S);(try rw [← Ny631.out] at S);have F:=S.fc) | ((with_reducible refine gs (t:=30) rfl (L ?_));refine sb (.agg #[_,_,_]) S sz30 ?_;clear S F;intro W S;(try rw [← Ny618.out] at S);(try rw [← Ny631.out] at S);have F:=S.fc))
             go_roundg k1
             case measure=>omega
             case rel=>exact ⟨y631,x9_1,x9_1,t629,(wrap64 (x9_1 + 1)),(by first | rfl | (simp;done) | (simp [*];done) | (rw [w6_ (by omega) (by omega)])),(by first | rfl | (simp;done) | (simp [*];done) | (rw [w6_ (by omega) (by omega)])),(by first | rfl | (simp;done) | (simp [*];done) | (rw [w6_ (by omega) (by omega)])),(by first | rfl | (simp;done) | (simp [*];done) | (rw [w6_ (by omega) (by omega)])),(by first | exact H | (simp only [F];exact H)),(by first | omega | exact Nat.le_refl _),S.tl.tl⟩
           · skip
             go_wp2_with (first | ((with_reducible refine gate_callee (f:=129) rfl (L ?_));refine cl (some 21) Try.func129 (spec_syTried.calls _ _ _ _ _ _ _ _ _ _ _ _ _ _ S.c S.n S.c S.n S.c S.n A9) (hargs:=by (simp only [ma_,mb_,mc_,F] <;> rfl)) (h:=?_);rintro e W ⟨rfl,hb⟩;refine ⟨_,rfl,?_⟩;replace S:=S.go hb;clear F hb;have F:=S.fc) | ((with_reducible refine gate_callee (f:=95) rfl (L ?_));refine cl (some 27) Try.func95 (spec_syBoard.calls _ _ _ _ _ _ _ _ _ _ _ _ _ _ _ _ _ S.c S.n S.c S.n S.c S.n A11) (hargs:=by (simp only [ma_,mb_,mc_,F] <;> rfl)) (h:=?_);rintro e W ⟨v625,rfl,ho0,hb⟩;refine ⟨_,rfl,?_⟩;replace S:=S.got at42 hb ho0;obtain ⟨At624,ct624,rfl,S⟩:=S;clear F hb ho0;(try rw [← Ny618.out] at S);(try rw [← Ny631.out] at S);have F:=S.fc) | ((with_reducible refine gd 10 rfl (L ?_));refine al 10 S zi30 ?_;clear S F;intro gb627 W S;have F:=S.fc) | ((with_reducible refine gate_callee (f:=138) rfl (L ?_));refine cl (some 30) Try.func138 (spec_syMeets.calls _ _ _ _ _ _ _ _ _ _ _ _ _ _ _ _ _ _ _ S.c S.n S.c S.n S.c S.n S.c S.n A12) (hargs:=by (simp only [ma_,mb_,mc_,F] <;> rfl)) (h:=?_);rintro e W ⟨rfl,hb⟩;refine ⟨_,rfl,?_⟩;replace S:=S.go hb;clear F hb;have F:=S.fc) | ((with_reducible refine gate_callee (f:=130) rfl (L ?_));refine cl (some 33) Try.func130 (spec_sySize.calls _ _ _ _ _ _ _ _ S.c S.n A14) (hargs:=by (simp only [ma_,mb_,mc_,F] <;> rfl)) (h:=?_);rintro e W ⟨rfl,hb⟩;refine ⟨_,rfl,?_⟩;replace S:=S.go hb;clear F hb;have F:=S.fc) | ((with_reducible refine gs (t:=3) rfl (L ?_));refine ro (.int _ _) S sz3 ?_ (ho:=rfl) (hx:=rfl) (hy:=rfl);clear S F;intro W S;(try rw [← Ny618.out] at S);(try rw [← Ny631.out] at S);have F:=S.fc) | ((with_reducible refine gs (t:=30) rfl (L ?_));refine sb (.agg #[_,_,_]) S sz30 ?_;clear S F;intro W S;(try rw [← Ny618.out] at S);(try rw [← Ny631.out] at S);have F:=S.fc))
             go_roundg k1
             case measure=>omega
             case rel=>exact ⟨y631,x9_1,x7_1,x8_1,(wrap64 (x9_1 + 1)),(by first | rfl | (simp;done) | (simp [*];done) | (rw [w6_ (by omega) (by omega)])),(by first | rfl | (simp;done) | (simp [*];done) | (rw [w6_ (by omega) (by omega)])),(by first | rfl | (simp;done) | (simp [*];done) | (rw [w6_ (by omega) (by omega)])),(by first | rfl | (simp;done) | (simp [*];done) | (rw [w6_ (by omega) (by omega)])),(by first | exact H | (simp only [F];exact H)),(by first | omega | exact Nat.le_refl _),S.tl.tl⟩
       · skip
         replace H:=sp_ H;rcases H with ⟨c72,H⟩ | ⟨c72,H⟩
         · skip
           go_wp2_with (first | ((with_reducible refine gate_callee (f:=129) rfl (L ?_));refine cl (some 21) Try.func129 (spec_syTried.calls _ _ _ _ _ _ _ _ _ _ _ _ _ _ S.c S.n S.c S.n S.c S.n A9) (hargs:=by (simp only [ma_,mb_,mc_,F] <;> rfl)) (h:=?_);rintro e W ⟨rfl,hb⟩;refine ⟨_,rfl,?_⟩;replace S:=S.go hb;clear F hb;have F:=S.fc) | ((with_reducible refine gate_callee (f:=95) rfl (L ?_));refine cl (some 27) Try.func95 (spec_syBoard.calls _ _ _ _ _ _ _ _ _ _ _ _ _ _ _ _ _ S.c S.n S.c S.n S.c S.n A11) (hargs:=by (simp only [ma_,mb_,mc_,F] <;> rfl)) (h:=?_);rintro e W ⟨v625,rfl,ho0,hb⟩;refine ⟨_,rfl,?_⟩;replace S:=S.got at42 hb ho0;obtain ⟨At624,ct624,rfl,S⟩:=S;clear F hb ho0;(try rw [← Ny618.out] at S);(try rw [← Ny631.out] at S);have F:=S.fc) | ((with_reducible refine gd 10 rfl (L ?_));refine al 10 S zi30 ?_;clear S F;intro gb627 W S;have F:=S.fc) | ((with_reducible refine gate_callee (f:=138) rfl (L ?_));refine cl (some 30) Try.func138 (spec_syMeets.calls _ _ _ _ _ _ _ _ _ _ _ _ _ _ _ _ _ _ _ S.c S.n S.c S.n S.c S.n S.c S.n A12) (hargs:=by (simp only [ma_,mb_,mc_,F] <;> rfl)) (h:=?_);rintro e W ⟨rfl,hb⟩;refine ⟨_,rfl,?_⟩;replace S:=S.go hb;clear F hb;have F:=S.fc) | ((with_reducible refine gate_callee (f:=130) rfl (L ?_));refine cl (some 33) Try.func130 (spec_sySize.calls _ _ _ _ _ _ _ _ S.c S.n A14) (hargs:=by (simp only [ma_,mb_,mc_,F] <;> rfl)) (h:=?_);rintro e W ⟨rfl,hb⟩;refine ⟨_,rfl,?_⟩;replace S:=S.go hb;clear F hb;have F:=S.fc) | ((with_reducible refine gs (t:=3) rfl (L ?_));refine ro (.int _ _) S sz3 ?_ (ho:=rfl) (hx:=rfl) (hy:=rfl);clear S F;intro W S;(try rw [← Ny618.out] at S);(try rw [← Ny631.out] at S);have F:=S.fc) | ((with_reducible refine gs (t:=30) rfl (L ?_));refine sb (.agg #[_,_,_]) S sz30 ?_;clear S F;intro W S;(try rw [← Ny618.out] at S);(try rw [← Ny631.out] at S);have F:=S.fc))
           go_roundg k1
           case measure=>omega
           case rel=>exact ⟨y631,x6_1,x9_1,t629,(wrap64 (x9_1 + 1)),(by first | rfl | (simp;done) | (simp [*];done) | (rw [w6_ (by omega) (by omega)])),(by first | rfl | (simp;done) | (simp [*];done) | (rw [w6_ (by omega) (by omega)])),(by first | rfl | (simp;done) | (simp [*];done) | (rw [w6_ (by omega) (by omega)])),(by first | rfl | (simp;done) | (simp [*];done) | (rw [w6_ (by omega) (by omega)])),(by first | exact H | (simp only [F];exact H)),(by first | omega | exact Nat.le_refl _),S.tl.tl⟩
         · skip
           replace H:=sp_ H;rcases H with ⟨c90,H⟩ | ⟨c90,H⟩
           · skip
             go_wp2_with (first | ((with_reducible refine gate_callee (f:=129) rfl (L ?_));refine cl (some 21) Try.func129 (spec_syTried.calls _ _ _ _ _ _ _ _ _ _ _ _ _ _ S.c S.n S.c S.n S.c S.n A9) (hargs:=by (simp only [ma_,mb_,mc_,F] <;> rfl)) (h:=?_);rintro e W ⟨rfl,hb⟩;refine ⟨_,rfl,?_⟩;replace S:=S.go hb;clear F hb;have F:=S.fc) | ((with_reducible refine gate_callee (f:=95) rfl (L ?_));refine cl (some 27) Try.func95 (spec_syBoard.calls _ _ _ _ _ _ _ _ _ _ _ _ _ _ _ _ _ S.c S.n S.c S.n S.c S.n A11) (hargs:=by (simp only [ma_,mb_,mc_,F] <;> rfl)) (h:=?_);rintro e W ⟨v625,rfl,ho0,hb⟩;refine ⟨_,rfl,?_⟩;replace S:=S.got at42 hb ho0;obtain ⟨At624,ct624,rfl,S⟩:=S;clear F hb ho0;(try rw [← Ny618.out] at S);(try rw [← Ny631.out] at S);have F:=S.fc) | ((with_reducible refine gd 10 rfl (L ?_));refine al 10 S zi30 ?_;clear S F;intro gb627 W S;have F:=S.fc) | ((with_reducible refine gate_callee (f:=138) rfl (L ?_));refine cl (some 30) Try.func138 (spec_syMeets.calls _ _ _ _ _ _ _ _ _ _ _ _ _ _ _ _ _ _ _ S.c S.n S.c S.n S.c S.n S.c S.n A12) (hargs:=by (simp only [ma_,mb_,mc_,F] <;> rfl)) (h:=?_);rintro e W ⟨rfl,hb⟩;refine ⟨_,rfl,?_⟩;replace S:=S.go hb;clear F hb;have F:=S.fc) | ((with_reducible refine gate_callee (f:=130) rfl (L ?_));refine cl (some 33) Try.func130 (spec_sySize.calls _ _ _ _ _ _ _ _ S.c S.n A14) (hargs:=by (simp only [ma_,mb_,mc_,F] <;> rfl)) (h:=?_);rintro e W ⟨rfl,hb⟩;refine ⟨_,rfl,?_⟩;replace S:=S.go hb;clear F hb;have F:=S.fc) | ((with_reducible refine gs (t:=3) rfl (L ?_));refine ro (.int _ _) S sz3 ?_ (ho:=rfl) (hx:=rfl) (hy:=rfl);clear S F;intro W S;(try rw [← Ny618.out] at S);(try rw [← Ny631.out] at S);have F:=S.fc) | ((with_reducible refine gs (t:=30) rfl (L ?_));refine sb (.agg #[_,_,_]) S sz30 ?_;clear S F;intro W S;(try rw [← Ny618.out] at S);(try rw [← Ny631.out] at S);have F:=S.fc))
             go_roundg k1
             case measure=>omega
             case rel=>exact ⟨y631,x6_1,x9_1,t629,(wrap64 (x9_1 + 1)),(by first | rfl | (simp;done) | (simp [*];done) | (rw [w6_ (by omega) (by omega)])),(by first | rfl | (simp;done) | (simp [*];done) | (rw [w6_ (by omega) (by omega)])),(by first | rfl | (simp;done) | (simp [*];done) | (rw [w6_ (by omega) (by omega)])),(by first | rfl | (simp;done) | (simp [*];done) | (rw [w6_ (by omega) (by omega)])),(by first | exact H | (simp only [F];exact H)),(by first | omega | exact Nat.le_refl _),S.tl.tl⟩
           · skip
             go_wp2_with (first | ((with_reducible refine gate_callee (f:=129) rfl (L ?_));refine cl (some 21) Try.func129 (spec_syTried.calls _ _ _ _ _ _ _ _ _ _ _ _ _ _ S.c S.n S.c S.n S.c S.n A9) (hargs:=by (simp only [ma_,mb_,mc_,F] <;> rfl)) (h:=?_);rintro e W ⟨rfl,hb⟩;refine ⟨_,rfl,?_⟩;replace S:=S.go hb;clear F hb;have F:=S.fc) | ((with_reducible refine gate_callee (f:=95) rfl (L ?_));refine cl (some 27) Try.func95 (spec_syBoard.calls _ _ _ _ _ _ _ _ _ _ _ _ _ _ _ _ _ S.c S.n S.c S.n S.c S.n A11) (hargs:=by (simp only [ma_,mb_,mc_,F] <;> rfl)) (h:=?_);rintro e W ⟨v625,rfl,ho0,hb⟩;refine ⟨_,rfl,?_⟩;replace S:=S.got at42 hb ho0;obtain ⟨At624,ct624,rfl,S⟩:=S;clear F hb ho0;(try rw [← Ny618.out] at S);(try rw [← Ny631.out] at S);have F:=S.fc) | ((with_reducible refine gd 10 rfl (L ?_));refine al 10 S zi30 ?_;clear S F;intro gb627 W S;have F:=S.fc) | ((with_reducible refine gate_callee (f:=138) rfl (L ?_));refine cl (some 30) Try.func138 (spec_syMeets.calls _ _ _ _ _ _ _ _ _ _ _ _ _ _ _ _ _ _ _ S.c S.n S.c S.n S.c S.n S.c S.n A12) (hargs:=by (simp only [ma_,mb_,mc_,F] <;> rfl)) (h:=?_);rintro e W ⟨rfl,hb⟩;refine ⟨_,rfl,?_⟩;replace S:=S.go hb;clear F hb;have F:=S.fc) | ((with_reducible refine gate_callee (f:=130) rfl (L ?_));refine cl (some 33) Try.func130 (spec_sySize.calls _ _ _ _ _ _ _ _ S.c S.n A14) (hargs:=by (simp only [ma_,mb_,mc_,F] <;> rfl)) (h:=?_);rintro e W ⟨rfl,hb⟩;refine ⟨_,rfl,?_⟩;replace S:=S.go hb;clear F hb;have F:=S.fc) | ((with_reducible refine gs (t:=3) rfl (L ?_));refine ro (.int _ _) S sz3 ?_ (ho:=rfl) (hx:=rfl) (hy:=rfl);clear S F;intro W S;(try rw [← Ny618.out] at S);(try rw [← Ny631.out] at S);have F:=S.fc) | ((with_reducible refine gs (t:=30) rfl (L ?_));refine sb (.agg #[_,_,_]) S sz30 ?_;clear S F;intro W S;(try rw [← Ny618.out] at S);(try rw [← Ny631.out] at S);have F:=S.fc))
             go_roundg k1
             case measure=>omega
             case rel=>exact ⟨y631,x6_1,x7_1,x8_1,(wrap64 (x9_1 + 1)),(by first | rfl | (simp;done) | (simp [*];done) | (rw [w6_ (by omega) (by omega)])),(by first | rfl | (simp;done) | (simp [*];done) | (rw [w6_ (by omega) (by omega)])),(by first | rfl | (simp;done) | (simp [*];done) | (rw [w6_ (by omega) (by omega)])),(by first | rfl | (simp;done) | (simp [*];done) | (rw [w6_ (by omega) (by omega)])),(by first | exact H | (simp only [F];exact H)),(by first | omega | exact Nat.le_refl _),S.tl.tl⟩
     · skip
       replace c13:=cbf c13;subst c13
       go_wp2_with (first | ((with_reducible refine gate_callee (f:=129) rfl (L ?_));refine cl (some 21) Try.func129 (spec_syTried.calls _ _ _ _ _ _ _ _ _ _ _ _ _ _ S.c S.n S.c S.n S.c S.n A9) (hargs:=by (simp only [ma_,mb_,mc_,F] <;> rfl)) (h:=?_);rintro e W ⟨rfl,hb⟩;refine ⟨_,rfl,?_⟩;replace S:=S.go hb;clear F hb;have F:=S.fc) | ((with_reducible refine gate_callee (f:=95) rfl (L ?_));refine cl (some 27) Try.func95 (spec_syBoard.calls _ _ _ _ _ _ _ _ _ _ _ _ _ _ _ _ _ S.c S.n S.c S.n S.c S.n A11) (hargs:=by (simp only [ma_,mb_,mc_,F] <;> rfl)) (h:=?_);rintro e W ⟨v625,rfl,ho0,hb⟩;refine ⟨_,rfl,?_⟩;replace S:=S.got at42 hb ho0;obtain ⟨At624,ct624,rfl,S⟩:=S;clear F hb ho0;(try rw [← Ny618.out] at S);have F:=S.fc) | ((with_reducible refine gd 10 rfl (L ?_));refine al 10 S zi30 ?_;clear S F;intro gb627 W S;have F:=S.fc) | ((with_reducible refine gate_callee (f:=138) rfl (L ?_));refine cl (some 30) Try.func138 (spec_syMeets.calls _ _ _ _ _ _ _ _ _ _ _ _ _ _ _ _ _ _ _ S.c S.n S.c S.n S.c S.n S.c S.n A12) (hargs:=by (simp only [ma_,mb_,mc_,F] <;> rfl)) (h:=?_);rintro e W ⟨rfl,hb⟩;refine ⟨_,rfl,?_⟩;replace S:=S.go hb;clear F hb;have F:=S.fc) | ((with_reducible refine gs (t:=30) rfl (L ?_));refine sb (.agg #[_,_,_]) S sz30 ?_;clear S F;intro W S;(try rw [← Ny618.out] at S);have F:=S.fc))
       go_roundg k1
       case measure=>omega
       case rel=>exact ⟨x5_1,x6_1,x7_1,x8_1,(wrap64 (x9_1 + 1)),(by first | rfl | (simp;done) | (simp [*];done) | (rw [w6_ (by omega) (by omega)])),(by first | rfl | (simp;done) | (simp [*];done) | (rw [w6_ (by omega) (by omega)])),(by first | rfl | (simp;done) | (simp [*];done) | (rw [w6_ (by omega) (by omega)])),(by first | rfl | (simp;done) | (simp [*];done) | (rw [w6_ (by omega) (by omega)])),(by first | exact H | (simp only [F];exact H)),(by first | omega | exact Nat.le_refl _),S.tl.tl⟩
   · skip
     simp only [Option.some.injEq,Prod.mk.injEq] at H
     obtain ⟨rfl,rfl,rfl⟩:=H
     go_wp2_with ((with_reducible refine gate_callee (f:=129) rfl (L ?_));refine cl (some 21) Try.func129 (spec_syTried.calls _ _ _ _ _ _ _ _ _ _ _ _ _ _ S.c S.n S.c S.n S.c S.n A9) (hargs:=by (simp only [ma_,mb_,mc_,F] <;> rfl)) (h:=?_);rintro e W ⟨rfl,hb⟩;refine ⟨_,rfl,?_⟩;replace S:=S.go hb;clear F hb;have F:=S.fc)
     go_ret3
     exact ⟨_,(by first | rfl | (simp [e0_,e1_] <;> rfl) | (simp [*,e0_,e1_] <;> rfl)),(by first | exact S.r | exact Kd.R_nil _ _ _ _ _),S.below⟩

/-! ### impl_countSolutions: function 96 -/
def impl_countSolutions.l0:Nat→Int→Int→Int→Int→List (S42)→List Int→List Int→Option (Int)
 | 0,_,_,_,_,_,_,_=>none
 | k + 1,x3,x10,x646000,x646001,x646002,x646003,x646004=>(impl_boardsTried.f k x646000 x646001 x646002 x646003 x646004).bind fun t646=>(if x10 < t646 then ((impl_boardOf.f k x646000 x646001 x646002 x646003 x646004 x10).bind fun bt647=>((impl_hasEnds.f k x646000 x646001 x646002 x646003 x646004 bt647.1 bt647.2.1 bt647.2.2).bind fun t653=>(if t653 = true then (impl_countSolutions.l0 k (wrap64 (x3 + 1)) (wrap64 (x10 + 1)) x646000 x646001 x646002 x646003 x646004) else (impl_countSolutions.l0 k x3 (wrap64 (x10 + 1)) x646000 x646001 x646002 x646003 x646004)))) else (some x3))
def impl_countSolutions.f (k:Nat) (a0_0:Int) (a0_1:Int) (l0_2:List (S42)) (l0_3:List Int) (l0_4:List Int):Option (Int):=impl_countSolutions.l0 k 0 0 a0_0 a0_1 l0_2 l0_3 l0_4
theorem count_fold (r c:Int) (p:List S42) (e ns:List Int):∀ (k:Nat) (s n q:Int),impl_countSolutions.l0 k s n r c p e ns = some q→solFold (fun _ s _ _ _=>some (wrap64 (s + 1),true)) r c p e ns k n s = some (q,true)
 | 0,_,_,_,h=>by simp [impl_countSolutions.l0] at h
 | k + 1,s,n,q,h=>by
  simp only [impl_countSolutions.l0] at h
  simp only [solFold]
  obtain ⟨t,h1,h⟩:=Option.bind_eq_some_iff.mp h
  rw [h1]
  simp only [Option.bind_some]
  split at h
  · rename_i ct
    rw [if_pos ct]
    obtain ⟨b,h2,h⟩:=Option.bind_eq_some_iff.mp h
    obtain ⟨y,h3,h⟩:=Option.bind_eq_some_iff.mp h
    rw [h2]
    simp only [Option.bind_some]
    rw [h3]
    simp only [Option.bind_some]
    split at h
    · rename_i cy
      rw [if_pos cy,if_pos trivial]
      exact count_fold r c p e ns k _ _ _ h
    · rename_i cy
      rw [if_neg cy]
      exact count_fold r c p e ns k _ _ _ h
  · rename_i ct
    rw [if_neg ct]
    cases h;rfl
theorem impl_countSolutions.calls (k:Nat) (a0_0:Int) (a0_1:Int) (A0_2:Option Addr) (c0_2:Nat) (l0_2:List (S42)) (A0_3:Option Addr) (c0_3:Nat) (l0_3:List Int) (A0_4:Option Addr) (c0_4:Nat) (l0_4:List Int) (r:Int) (w:World) (hr0_2:Kd.C k42 w A0_2 l0_2.length l0_2) (hc0_2:l0_2.length ≤ c0_2) (hr0_3:Kd.C (Kd.int .i64) w A0_3 l0_3.length l0_3) (hc0_3:l0_3.length ≤ c0_3) (hr0_4:Kd.C (Kd.int .i64) w A0_4 l0_4.length l0_4) (hc0_4:l0_4.length ≤ c0_4) (h:impl_countSolutions.f k a0_0 a0_1 l0_2 l0_3 l0_4 = some r) :
  Calls Try.prog 96 #[.agg #[.int .i64 a0_0,.int .i64 a0_1,.slice A0_2 l0_2.length c0_2,.slice A0_3 l0_3.length c0_3,.slice A0_4 l0_4.length c0_4]] w fun e w'=>e = .returned (.int .i64 r)∧Below w.heap.size w w':=by
 replace h:=count_fold _ _ _ _ _ k _ _ _ h
 have S:=St.init (w:=w) (dc k42_heap at42 hr0_2 hc0_2 (dc (Kd.heap_int .i64) (atI .i64) hr0_3 hc0_3 (dc (Kd.heap_int .i64) (atI .i64) hr0_4 hc0_4 dn)))
 have F:=S.fc
 refine (callsIn_wide (n:=9)).1 ?_
 refine callsIn_of_wp_marks Try.func96 rfl trivial ?_ rfl
 simp only [Try.ntmps96,List.size_toArray,List.length_cons,List.length_nil,Nat.reduceAdd,Nat.reduceSub,Array.replicate_succ,Array.replicate_zero,List.push_toArray,List.append_toArray,List.nil_append,List.cons_append]
 refine wpIn_wide.2 ?_
 go_wp2_with (first | ((with_reducible refine gd 1 rfl (L ?_));refine bo 1 (.agg #[_,_,_,_,_]) S ?_;clear S F;intro gb W S;have F:=S.fc) | ((with_reducible refine gd 3 rfl (L ?_));refine al 3 S zi3 ?_;clear S F;intro gn W S;have F:=S.fc) | ((with_reducible refine gs (t:=3) rfl (L ?_));(first | refine sb (.int .i64 _) S sz3 ?_ | refine ro (.int .i64 _) S sz3 ?_ (ho:=rfl) (hx:=rfl) (hy:=rfl));(clear S F;intro W S;have F:=S.fc)) | ((with_reducible refine gate_callee (f:=92) rfl (L ?_));have hgn:=bx_of S;refine cl (some 5) Try.func92 (impl_solutionsOf.calls _ _ _ _ _ _ _ _ _ _ _ W) (hargs:=by (simp only [ma_,mb_,mc_,F] <;> rfl)) (h:=?_);rintro e W2 ⟨gc,rfl,hgc,hge,hb⟩;refine ⟨_,rfl,?_⟩;replace S:=S.go hb;clear F hb;have F:=S.fc))
 (try simp only [Act.put,za_,zb_,zc_])
 have hB:=S.below
 have hgn2:=bx_of S
 have hlt:=blk_lt hgn2.1
 have hlc:=blk_lt hgc
 have hne:gc ≠ gn:=by have:=blk_lt hgn.1;omega
 have hsz:=hB.size
 clear F S hgn
 refine (wpIn_wide (n:=9)).1 ?_
 refine wpIn_folds (σ:=Int) (gf:=181) (lb:=#[.pointer (some ⟨gc,0,none⟩)]) (fin:=fun s' go=>(r,true) = (s',go)) (s0:=0) rfl (by decide) rfl trivial (enters_ Try.func181 (by kernel_rfl) rfl)
  (fun Wl hb hz=>sols_folds (fun _ s _ _ _=>some (wrap64 (s + 1),true)) _ k gc a0_0 a0_1 A0_2 c0_2 l0_2 A0_3 c0_3 l0_3 A0_4 c0_4 l0_4 0 (r,true) (fun j=>j = gn∨j = W2.heap.size + 1) 0 Wl (Nat.zero_le _) (fun W' hk=>?hq) hc0_2 hc0_3 hc0_4 h)
  kept_trans (fun W o _=>kept_put _ _ (.inr rfl)) (fun s args W s' go hR=>by obtain ⟨_,_,_,_,_,_,_,rfl,_⟩:=hR;rfl)
  (fun s W=>bxr gn 3 [.int .i64 s] W∧Below w.heap.size w W) (fun _ _ _=>False)
  (fun s W W' hs hg=>⟨bxr_grown hs.1 hg (by omega),hs.2.grown hg hs.2.size (fun k e=>by cases e;omega)⟩) (fun _ _ _ _ h _=>h)
  ⟨hgn2.1,hB⟩
  (fun s args a' s' go W=>(bxr gn 3 [.int .i64 s] W∧Below w.heap.size w W)∧s' = wrap64 (s + 1)∧go = true∧∃ v,a' = { tmps:=#[.agg #[.int .i64 a0_0,.int .i64 a0_1,.slice A0_2 l0_2.length c0_2,.slice A0_3 l0_3.length c0_3,.slice A0_4 l0_4.length c0_4],.pointer (some ⟨gb,0,none⟩),.int .i64 0,.pointer (some ⟨gn,0,none⟩),.agg #[.int .i64 a0_0,.int .i64 a0_1,.slice A0_2 l0_2.length c0_2,.slice A0_3 l0_3.length c0_3,.slice A0_4 l0_4.length c0_4],.func (.func 181) #[] #[.pointer (some ⟨gc,0,none⟩)],v,undef,undef,undef],defers:=[] }) ?hA ?assign ?body ?done ?stop
 case hq =>
  have key:∀ j,j < w.heap.size→W'.heap[j]? = w.heap[j]?:=fun j hj=>(hk.2 j (by have:=hb.size;omega) (by have:=hgn2.2;omega)).trans ((hb.block j (by omega)).trans (hB.block j hj))
  exact ⟨(hk.2 gc (by have:=hb.size;omega) (by omega)).trans ((hb.block gc hlc).trans hgc),k42_heap.C key hr0_2,(Kd.heap_int .i64).C key hr0_3,(Kd.heap_int .i64).C key hr0_4⟩
 case hA=>exact fun s args a' s' go _ W W' hs hg=>⟨⟨bxr_grown hs.1.1 hg (by omega),hs.1.2.grown hg hs.1.2.size (fun k e=>by cases e;omega)⟩,hs.2⟩
 case assign =>
  intro l s args W s' go K hz hi hR hK
  obtain ⟨_,bR,bC,bX,hst,A,cap,rfl,_⟩:=hR
  cases hst
  exact wpIn_skip (hK _ _ (KeepsFrom.refl _ _) (Kept.refl _ _) ⟨hi,rfl,rfl,.agg #[.int .i64 bR,.int .i64 bC,.slice A bX.length cap],by simp⟩)
 case body =>
  rintro l s args a' W s' go ⟨⟨hc,hB3⟩,rfl,rfl,v,rfl⟩
  have S:=St_box hB3 hgn2.2 hc dn
  have F:=S.fc
  refine wpIn_block (reg_in rfl (by rintro ⟨_,_,h⟩;exact h) ?_)
  go_wp2_with ((with_reducible refine gs (t:=3) rfl (L ?_));(first | refine sb (.int .i64 _) S sz3 ?_ | refine ro (.int .i64 _) S sz3 ?_ (ho:=rfl) (hx:=rfl) (hy:=rfl));(clear S F;intro W S;have F:=S.fc))
  exact ⟨rfl,keeps_of hc S.kept,S.kept.mono (fun _ h=>.inl h),bx_at S 0 rfl,S.below⟩
 case done =>
  rintro s' W hs ⟨hc,hB3⟩ hD
  cases hs
  have hcell:=(blk_cell hc 0).trans rfl
  go_wp2
  refine ⟨by simp,.inl ⟨_,_,rfl,run_takeDeferred hD,?_⟩⟩
  exact ⟨_,results_tmp rfl _ _ _,rfl,hB3.grown (grownBy_putObj' W _ _) hB3.size (fun k e=>by cases e;exact hsz)⟩
 case stop=>exact fun c s' W _ h _=>h.elim

/-! ### laws_pSameBoard: function 16 -/
mutual
def laws_pSameBoard.j0:Nat→Bool→Int→Int→List (S42)→Int→Int→List (S42)→Option (Bool)
  | 0,_,_,_,_,_,_,_=>none
  | k + 1,x26,x723000,x723001,x723002,x724000,x724001,x724002=>if x26 = true then (some false) else (laws_pSameBoard.l0 k (x723002.length:Int) 0 x723000 x723001 x723002 x724000 x724001 x724002)
def laws_pSameBoard.l0:Nat→Int→Int→Int→Int→List (S42)→Int→Int→List (S42)→Option (Bool)
  | 0,_,_,_,_,_,_,_,_=>none
  | k + 1,x29,x30,x723000,x723001,x723002,x724000,x724001,x724002=>if x30 < x29 then (if 0 ≤ x30 then (if x30 < (x723002.length:Int) then (if x30 < (x724002.length:Int) then (if (!(((rd_T42 x723002 x30).f0) == ((rd_T42 x724002 x30).f0)) || (!(((rd_T42 x723002 x30).f1) == ((rd_T42 x724002 x30).f1)))) = true then (some false) else (laws_pSameBoard.l0 k x29 (wrap64 (x30 + 1)) x723000 x723001 x723002 x724000 x724001 x724002)) else (none)) else (none)) else (none)) else (some true)
end
def laws_pSameBoard.f (k:Nat) (a0_0:Int) (a0_1:Int) (l0_2:List (S42)) (a1_0:Int) (a1_1:Int) (l1_2:List (S42)):Option (Bool):=if a0_0 = a1_0 then (if a0_1 = a1_1 then (laws_pSameBoard.j0 k ((l0_2.length:Int) != (l1_2.length:Int)) a0_0 a0_1 l0_2 a1_0 a1_1 l1_2) else (laws_pSameBoard.j0 k true a0_0 a0_1 l0_2 a1_0 a1_1 l1_2)) else (laws_pSameBoard.j0 k true a0_0 a0_1 l0_2 a1_0 a1_1 l1_2)
theorem laws_pSameBoard.calls (k:Nat) (a0_0:Int) (a0_1:Int) (A0_2:Option Addr) (c0_2:Nat) (l0_2:List (S42)) (a1_0:Int) (a1_1:Int) (A1_2:Option Addr) (c1_2:Nat) (l1_2:List (S42)) (r:Bool) (w:World) (hr0_2:Kd.C k42 w A0_2 l0_2.length l0_2) (hc0_2:l0_2.length ≤ c0_2) (hr1_2:Kd.C k42 w A1_2 l1_2.length l1_2) (hc1_2:l1_2.length ≤ c1_2) (h:laws_pSameBoard.f k a0_0 a0_1 l0_2 a1_0 a1_1 l1_2 = some r) :
    Calls Try.prog 16 #[.agg #[.int .i64 a0_0,.int .i64 a0_1,.slice A0_2 l0_2.length c0_2],.agg #[.int .i64 a1_0,.int .i64 a1_1,.slice A1_2 l1_2.length c1_2]] w fun e w'=>e = .returned (.bool r)∧Below w.heap.size w w':=by
 have S:=St.init (w:=w) (dc k42_heap at42 hr0_2 hc0_2 (dc k42_heap at42 hr1_2 hc1_2 dn))
 clear hr0_2 hc0_2 hr1_2 hc1_2
 have F:=S.fc
 have H:=h;clear h;unfold laws_pSameBoard.f at H
 go_enter Try.func16,Try.ntmps16
 go_upto_region 1 with (first | ((with_reducible refine gd 2 rfl (L ?_));refine bo 2 (.agg #[_,_,_]) S ?_;clear S F;intro gb722 W S;have F:=S.fc) | ((with_reducible refine gd 3 rfl (L ?_));refine bo 3 (.agg #[_,_,_]) S ?_;clear S F;intro gb723 W S;have F:=S.fc))
 try go_upto_region 1 with (fail)
 (try simp only [Act.put,List.setIfInBounds_toArray,List.set_cons_zero,List.set_cons_succ])
 go_cut [26] (fun v26 wc=>∃ (kq:Nat) (x26_2:Bool),v26 = .bool x26_2∧laws_pSameBoard.j0 kq x26_2 a0_0 a0_1 l0_2 a1_0 a1_1 l1_2 = some r∧kq ≤ k∧St w w (fun _=>False) [bor at42 A0_2 c0_2 l0_2,bor at42 A1_2 c1_2 l1_2] wc  [box gb723 30 [.int .i64 a1_0,.int .i64 a1_1,.slice A1_2 l1_2.length c1_2],box gb722 30 [.int .i64 a0_0,.int .i64 a0_1,.slice A0_2 l0_2.length c0_2]])
 case first =>
  replace H:=sp_ H;rcases H with ⟨c6,H⟩ | ⟨c6,H⟩
  · skip
    replace c6:=ceq c6
    replace H:=sp_ H;rcases H with ⟨c7,H⟩ | ⟨c7,H⟩
    · skip
      replace c7:=ceq c7
      go_wp2
      go_wp2
      go_meet
      case rel=>exact ⟨_,((l0_2.length:Int) != (l1_2.length:Int)),(by first | rfl | (simp;done) | (simp [*];done) | (rw [w6_ (by omega) (by omega)])),H,(by first | omega | exact Nat.le_refl _),S⟩
    · skip
      replace c7:=cne c7
      go_wp2
      go_wp2
      go_meet
      case rel=>exact ⟨_,true,(by first | rfl | (simp;done) | (simp [*];done) | (rw [w6_ (by omega) (by omega)])),H,(by first | omega | exact Nat.le_refl _),S⟩
  · skip
    replace c6:=cne c6
    go_wp2
    go_wp2
    go_meet
    case rel=>exact ⟨_,true,(by first | rfl | (simp;done) | (simp [*];done) | (rw [w6_ (by omega) (by omega)])),H,(by first | omega | exact Nat.le_refl _),S⟩
 case rest =>
  clear H S F
  obtain ⟨kq,x26_2,rfl,HA,HJ2,S⟩:=hcut
  have F:=S.fc
  cases kq with
  | zero=>exact absurd HA (by simp [laws_pSameBoard.j0])
  | succ kj2 =>
   have H:=HA;clear HA;simp only [laws_pSameBoard.j0,F] at H
   replace H:=sp_ H;rcases H with ⟨c17,H⟩ | ⟨c17,H⟩
   · skip
     subst c17
     obtain rfl:=Option.some.inj H
     go_wp2
     go_wp2
     go_ret
     exact ⟨(by first | rfl | (simp [e0_,e1_] <;> rfl) | (simp [*,e0_,e1_] <;> rfl)),S.below⟩
   · skip
     replace c17:=cbf c17;subst c17
     go_wp2
     go_wp2
     go_loopg [30] kj2 (fun kq v30 w'=>∃ (x30_2:Int),v30 = .int .i64 x30_2∧laws_pSameBoard.l0 kq (l0_2.length:Int) x30_2 a0_0 a0_1 l0_2 a1_0 a1_1 l1_2 = some r∧kq ≤ kj2∧St w w (fun _=>False) [bor at42 A0_2 c0_2 l0_2,bor at42 A1_2 c1_2 l1_2] w'  [box gb723 30 [.int .i64 a1_0,.int .i64 a1_1,.slice A1_2 l1_2.length c1_2],box gb722 30 [.int .i64 a0_0,.int .i64 a0_1,.slice A0_2 l0_2.length c0_2]])
     case atStart=>exact ⟨0,(by first | rfl | (simp;done) | (simp [*];done) | (rw [w6_ (by omega) (by omega)])),H,Nat.le_refl _,S⟩
     case round =>
      clear H S F
      obtain ⟨x30_2,rfl,HA,HK2,S⟩:=hrel
      have F:=S.fc
      cases gk with
      | zero=>exact absurd HA (by simp [laws_pSameBoard.l0])
      | succ k2 =>
       have H:=HA;clear HA;simp only [laws_pSameBoard.l0,F] at H
       replace H:=sp_ H;rcases H with ⟨c20,H⟩ | ⟨c20,H⟩
       · skip
         replace H:=np_ H;obtain ⟨c21,H⟩:=H
         replace H:=np_ H;obtain ⟨c22,H⟩:=H
         replace H:=np_ H;obtain ⟨c23,H⟩:=H
         replace H:=sp_ H;rcases H with ⟨c24,H⟩ | ⟨c24,H⟩
         · skip
           have c24n:=c24;(try simp at c24n)
           obtain rfl:=Option.some.inj H
           go_wp2
           go_wp2_with (first | ((refine rq (id:=6) S [(0,0),(0,2),(0,5),(0,7),(1,1),(0,3),(1,4),(1,6),(0,8),(1,9),(0,10)] [] (h:=?_);clear S F;intro W S;have S0:=S;have F:=S.fc)) | (refine q0 (h:=?_)) | (refine q1 S0 (h:=?_)) | (refine oz ?_;(try rw [c24])))
           go_ret
           exact ⟨(by first | rfl | (simp [e0_,e1_] <;> rfl) | (simp [*,e0_,e1_] <;> rfl)),S.below⟩
         · skip
           try replace c24:=cbf c24
           have c24n:=c24;(try simp at c24n)
           go_wp2
           go_wp2_with (first | ((refine rq (id:=6) S [(0,0),(0,2),(0,5),(0,7),(1,1),(0,3),(1,4),(1,6),(0,8),(1,9),(0,10)] [] (h:=?_);clear S F;intro W S;have S0:=S;have F:=S.fc)) | (refine q0 (h:=?_)) | (refine q1 S0 (h:=?_)) | (refine oz ?_;(try rw [c24])))
           go_roundg k2
           case measure=>omega
           case rel=>exact ⟨(wrap64 (x30_2 + 1)),(by first | rfl | (simp;done) | (simp [*];done) | (rw [w6_ (by omega) (by omega)])),H,(by first | omega | exact Nat.le_refl _),S⟩
       · skip
         obtain rfl:=Option.some.inj H
         go_wp2
         go_wp2
         go_ret
         exact ⟨(by first | rfl | (simp [e0_,e1_] <;> rfl) | (simp [*,e0_,e1_] <;> rfl)),S.below⟩

/-! ### laws_sameInts: function 17 -/
def laws_sameInts.l0:Nat→List Int→List Int→Int→Int→Option (Bool)
 | 0,_,_,_,_=>none
 | k + 1,x0,x1,x12,x13=>if x13 < x12 then (if 0 ≤ x13 then (if x13 < (x0.length:Int) then (if x13 < (x1.length:Int) then (if (rd x0 x13) = (rd x1 x13) then (laws_sameInts.l0 k x0 x1 x12 (wrap64 (x13 + 1))) else (some false)) else (none)) else (none)) else (none)) else (some true)
def laws_sameInts.f (k:Nat) (l0:List Int) (l1:List Int):Option (Bool):=if (l0.length:Int) = (l1.length:Int) then (laws_sameInts.l0 k l0 l1 (l0.length:Int) 0) else (some false)
theorem laws_sameInts.calls (k:Nat) (A0:Option Addr) (c0:Nat) (l0:List Int) (A1:Option Addr) (c1:Nat) (l1:List Int) (r:Bool) (w:World) (hr0:Kd.C (Kd.int .i64) w A0 l0.length l0) (hc0:l0.length ≤ c0) (hr1:Kd.C (Kd.int .i64) w A1 l1.length l1) (hc1:l1.length ≤ c1) (h:laws_sameInts.f k l0 l1 = some r) :
  Calls Try.prog 17 #[.slice A0 l0.length c0,.slice A1 l1.length c1] w fun e w'=>e = .returned (.bool r)∧Drawn0 w w':=by
 have HR0:=Aside0.mk hr0;have HC0:=Aside0.mk hc0;clear hr0 hc0;have HR1:=Aside0.mk hr1;have HC1:=Aside0.mk hc1;clear hr1 hc1;have H:(if (l0.length:Int) = (l1.length:Int) then (laws_sameInts.l0 k l0 l1 (l0.length:Int) 0) else (some false)) = some r:=h;clear h;by_cases c3:(l0.length:Int) = (l1.length:Int)
 ·rw [if_pos c3] at H;have c3b0:((l0.length:Int) == (l1.length:Int)) = true:=beq_iff_eq.mpr c3;have c3b1:((l0.length:Int) != (l1.length:Int)) = false:=bne_eq_false_iff_eq.mpr c3;have c3b2:(l0.length == l1.length) = true:=by first | simpa using c3 | (simp at c3 ⊢;omega)
  clear c3;have H':=Aside0.mk H;clear H;go_enter Try.func17,Try.ntmps17;go_wp2;repeat (go_quiet (fail);try go_wp2)
  go_loopg [13] k (fun kq v13 w'=>∃ (x13_1:Int),v13 = .int .i64 x13_1∧Aside0 (laws_sameInts.l0 kq l0 l1 (l0.length:Int) x13_1 = some r)∧Aside0 (kq ≤ k)∧Drawn0 w w')
  case atStart=>exact ⟨(0),(by first | rfl | (simp;done) | (simp [*];done)),H',⟨Nat.le_refl _⟩,by repeat (first | exact Drawn0.refl _ | apply Drawn0.step)⟩
  case round =>
   clear H';(try clear c1);(try clear p2);(try clear c3);(try clear c3b0);(try clear c3b1);(try clear c3b2);obtain ⟨x13_1,rfl,HA,HK1,⟨m1,rfl⟩⟩:=hrel;cases gk with
   | zero=>exact absurd HA.out (by simp [laws_sameInts.l0])
   | succ k1 =>
    have H:=HA.out;clear HA;simp only [laws_sameInts.l0] at H;by_cases c4:x13_1 < (l0.length:Int)
    ·rw [if_pos c4] at H;have c4b0:decide (x13_1 < (l0.length:Int)) = true:=decide_eq_true c4;clear c4;replace H:=np_ H;obtain ⟨c5,H⟩:=H;have c5b0:decide (0 ≤ x13_1) = true:=decide_eq_true c5;clear c5;replace H:=np_ H;obtain ⟨c6,H⟩:=H;have c6b0:decide (x13_1 < (l0.length:Int)) = true:=decide_eq_true c6;clear c6;replace H:=np_ H;obtain ⟨c7,H⟩:=H;have c7b0:decide (x13_1 < (l1.length:Int)) = true:=decide_eq_true c7;clear c7;by_cases c8:(rd l0 x13_1) = (rd l1 x13_1)
     ·rw [if_pos c8] at H;have c8b0:((rd l0 x13_1) == (rd l1 x13_1)) = true:=beq_iff_eq.mpr c8;have c8b1:((rd l0 x13_1) != (rd l1 x13_1)) = false:=bne_eq_false_iff_eq.mpr c8;clear c8;have H':=Aside0.mk H;clear H;have p726:0 ≤ (x13_1:Int):=of_decide_eq_true (by first | (with_reducible assumption) | assumption);have q726:x13_1 < (l0.length:Int):=of_decide_eq_true (by first | (with_reducible assumption) | assumption);obtain ⟨ad726,e726,hx726_0⟩:=Kd.at_int HR0.out x13_1 p726 q726;cases e726;replace p726:=eq_true p726;replace q726:=eq_true q726;have p727:0 ≤ (x13_1:Int):=of_decide_eq_true (by first | (with_reducible assumption) | assumption);have q727:x13_1 < (l1.length:Int):=of_decide_eq_true (by first | (with_reducible assumption) | assumption);obtain ⟨ad727,e727,hx727_0⟩:=Kd.at_int HR1.out x13_1 p727 q727;cases e727;replace p727:=eq_true p727;replace q727:=eq_true q727;go_wp2;repeat (go_quiet (fail);try go_wp2)
      go_roundg k1
      case measure=>have:=HK1.out;omega
      case rel=>exact ⟨(wrap64 (x13_1 + 1)),(by first | rfl | (simp;done) | (simp [*];done)),H',⟨by have:=HK1.out;omega⟩,by repeat (first | exact Drawn0.refl _ | apply Drawn0.step)⟩
     ·rw [if_neg c8] at H;have c8b0:((rd l0 x13_1) == (rd l1 x13_1)) = false:=beq_eq_false_iff_ne.mpr c8;have c8b1:((rd l0 x13_1) != (rd l1 x13_1)) = true:=bne_iff_ne.mpr c8;obtain rfl:=Option.some.inj H;have p726:0 ≤ (x13_1:Int):=of_decide_eq_true (by first | (with_reducible assumption) | assumption);have q726:x13_1 < (l0.length:Int):=of_decide_eq_true (by first | (with_reducible assumption) | assumption);obtain ⟨ad726,e726,hx726_0⟩:=Kd.at_int HR0.out x13_1 p726 q726;cases e726;replace p726:=eq_true p726;replace q726:=eq_true q726;have p727:0 ≤ (x13_1:Int):=of_decide_eq_true (by first | (with_reducible assumption) | assumption);have q727:x13_1 < (l1.length:Int):=of_decide_eq_true (by first | (with_reducible assumption) | assumption);obtain ⟨ad727,e727,hx727_0⟩:=Kd.at_int HR1.out x13_1 p727 q727;cases e727;replace p727:=eq_true p727;replace q727:=eq_true q727;go_wp2;repeat (go_quiet (fail);try go_wp2)
      go_ret;exact ⟨by first | rfl | (simp;done) | (simp [*];done),by repeat (first | exact Drawn0.refl _ | apply Drawn0.step)⟩
    ·rw [if_neg c4] at H;have c4b0:decide (x13_1 < (l0.length:Int)) = false:=decide_eq_false c4;clear c4;obtain rfl:=Option.some.inj H;go_wp2;repeat (go_quiet (fail);try go_wp2)
     go_ret;exact ⟨by first | rfl | (simp;done) | (simp [*];done),by repeat (first | exact Drawn0.refl _ | apply Drawn0.step)⟩
 ·rw [if_neg c3] at H;have c3b0:((l0.length:Int) == (l1.length:Int)) = false:=beq_eq_false_iff_ne.mpr c3;have c3b1:((l0.length:Int) != (l1.length:Int)) = true:=bne_iff_ne.mpr c3;have c3b2:(l0.length == l1.length) = false:=by first | simpa using c3 | (simp at c3 ⊢;omega)
  obtain rfl:=Option.some.inj H;go_enter Try.func17,Try.ntmps17;go_wp2;repeat (go_quiet (fail);try go_wp2)
  go_ret;exact ⟨by first | rfl | (simp;done) | (simp [*];done),by repeat (first | exact Drawn0.refl _ | apply Drawn0.step)⟩

/-! ### impl_validCells: function 183 -/
def impl_validCells.l0:Nat→List (S42)→Int→Int→Option (Bool)
  | 0,_,_,_=>none
  | k + 1,x8,x9,x10=>if x10 < x9 then (if 0 ≤ x10 then (if x10 < (x8.length:Int) then ((impl_IsCell.f ((rd_T42 x8 x10).f0) ((rd_T42 x8 x10).f1)).bind fun t730=>(if t730 = true then (impl_validCells.l0 k x8 x9 (wrap64 (x10 + 1))) else (some false))) else (none)) else (none)) else (some true)
def impl_validCells.f (k:Nat) (l0:List (S42)):Option (Bool):=if (l0.length:Int) > 90 then (some false) else (impl_validCells.l0 k l0 (l0.length:Int) 0)
theorem impl_validCells.calls (k:Nat) (A0:Option Addr) (c0:Nat) (l0:List (S42)) (r:Bool) (w:World) (hr0:Kd.C k42 w A0 l0.length l0) (hc0:l0.length ≤ c0) (h:impl_validCells.f k l0 = some r) :
    Calls Try.prog 183 #[.slice A0 l0.length c0] w fun e w'=>e = .returned (.bool r)∧Below w.heap.size w w':=by
 have S:=St.init (w:=w) (dc k42_heap at42 hr0 hc0 dn)
 clear hr0 hc0
 have F:=S.fc
 have H:=h;clear h;unfold impl_validCells.f at H
 replace H:=sp_ H;rcases H with ⟨c2,H⟩ | ⟨c2,H⟩
 · skip
   obtain rfl:=Option.some.inj H
   go_enter Try.func183,Try.ntmps183
   go_wp2
   go_ret
   exact ⟨(by first | rfl | (simp [e0_,e1_] <;> rfl) | (simp [*,e0_,e1_] <;> rfl)),S.below⟩
 · skip
   go_enter Try.func183,Try.ntmps183
   go_wp2
   go_loopg [10] k (fun kq v10 w'=>∃ (x10_1:Int),v10 = .int .i64 x10_1∧impl_validCells.l0 kq l0 (l0.length:Int) x10_1 = some r∧kq ≤ k∧St w w (fun _=>False) [bor at42 A0 c0 l0] w'  [])
   case atStart=>exact ⟨0,(by first | rfl | (simp;done) | (simp [*];done) | (rw [w6_ (by omega) (by omega)])),H,Nat.le_refl _,S⟩
   case round =>
    clear H S F
    obtain ⟨x10_1,rfl,HA,HK1,S⟩:=hrel
    have F:=S.fc
    cases gk with
    | zero=>exact absurd HA (by simp [impl_validCells.l0])
    | succ k1 =>
     have H:=HA;clear HA;simp only [impl_validCells.l0,F] at H
     replace H:=sp_ H;rcases H with ⟨c3,H⟩ | ⟨c3,H⟩
     · skip
       replace H:=np_ H;obtain ⟨c4,H⟩:=H
       replace H:=np_ H;obtain ⟨c5,H⟩:=H
       replace H:=Option.bind_eq_some_iff.mp H;obtain ⟨t730,A6,H⟩:=H;(try dsimp only at H)
       replace H:=sp_ H;rcases H with ⟨c7,H⟩ | ⟨c7,H⟩
       · skip
         subst c7
         go_wp2_with (first | ((with_reducible refine gd 4 rfl (L ?_));refine al 4 S zi42 ?_;clear S F;intro gb729 W S;have F:=S.fc) | ((with_reducible refine gate_callee (f:=126) rfl (L ?_));refine cl (some 15) Try.func126 (impl_IsCell.calls _ _ _ _ A6) (hargs:=by (simp only [ma_,mb_,mc_,F] <;> rfl)) (h:=?_);rintro e W ⟨rfl,hb⟩;refine ⟨_,rfl,?_⟩;replace S:=S.go hb;clear F hb;have F:=S.fc) | ((with_reducible refine gs (t:=42) rfl (L ?_));refine sb (.agg #[_,_]) S sz42 ?_;(clear S F;intro W S;have F:=S.fc)))
         go_roundg k1
         case measure=>omega
         case rel=>exact ⟨(wrap64 (x10_1 + 1)),(by first | rfl | (simp;done) | (simp [*];done) | (rw [w6_ (by omega) (by omega)])),H,(by first | omega | exact Nat.le_refl _),S.tl⟩
       · skip
         replace c7:=cbf c7;subst c7
         obtain rfl:=Option.some.inj H
         go_wp2_with (first | ((with_reducible refine gd 4 rfl (L ?_));refine al 4 S zi42 ?_;clear S F;intro gb729 W S;have F:=S.fc) | ((with_reducible refine gate_callee (f:=126) rfl (L ?_));refine cl (some 15) Try.func126 (impl_IsCell.calls _ _ _ _ A6) (hargs:=by (simp only [ma_,mb_,mc_,F] <;> rfl)) (h:=?_);rintro e W ⟨rfl,hb⟩;refine ⟨_,rfl,?_⟩;replace S:=S.go hb;clear F hb;have F:=S.fc) | ((with_reducible refine gs (t:=42) rfl (L ?_));refine sb (.agg #[_,_]) S sz42 ?_;(clear S F;intro W S;have F:=S.fc)))
         go_ret
         exact ⟨(by first | rfl | (simp [e0_,e1_] <;> rfl) | (simp [*,e0_,e1_] <;> rfl)),S.below⟩
     · skip
       obtain rfl:=Option.some.inj H
       go_wp2
       go_ret
       exact ⟨(by first | rfl | (simp [e0_,e1_] <;> rfl) | (simp [*,e0_,e1_] <;> rfl)),S.below⟩

/-! ### impl_IsBoard: function 98 -/
def impl_IsBoard.f (k:Nat) (a0_0:Int) (a0_1:Int) (l0_2:List (S42)):Option (Bool):=if a0_0 ≥ 1 then (if a0_0 ≤ 10 then (if a0_1 ≥ 1 then (if a0_1 ≤ 9 then (if (l0_2.length:Int) = (wrap64 (a0_0 * a0_1)) then ((impl_validCells.f k l0_2).bind fun t732=>(some t732)) else (some false)) else (some false)) else (some false)) else (some false)) else (some false)
theorem impl_IsBoard.calls (k:Nat) (a0_0:Int) (a0_1:Int) (A0_2:Option Addr) (c0_2:Nat) (l0_2:List (S42)) (r:Bool) (w:World) (hr0_2:Kd.C k42 w A0_2 l0_2.length l0_2) (hc0_2:l0_2.length ≤ c0_2) (h:impl_IsBoard.f k a0_0 a0_1 l0_2 = some r) :
    Calls Try.prog 98 #[.agg #[.int .i64 a0_0,.int .i64 a0_1,.slice A0_2 l0_2.length c0_2]] w fun e w'=>e = .returned (.bool r)∧Below w.heap.size w w':=by
 have S:=St.init (w:=w) (dc k42_heap at42 hr0_2 hc0_2 dn)
 clear hr0_2 hc0_2
 have F:=S.fc
 have H:=h;clear h;unfold impl_IsBoard.f at H
 replace H:=sp_ H;rcases H with ⟨c2,H⟩ | ⟨c2,H⟩
 · skip
   replace H:=sp_ H;rcases H with ⟨c3,H⟩ | ⟨c3,H⟩
   · skip
     replace H:=sp_ H;rcases H with ⟨c4,H⟩ | ⟨c4,H⟩
     · skip
       replace H:=sp_ H;rcases H with ⟨c5,H⟩ | ⟨c5,H⟩
       · skip
         replace H:=sp_ H;rcases H with ⟨c6,H⟩ | ⟨c6,H⟩
         · skip
           replace c6:=ceq c6
           replace H:=Option.bind_eq_some_iff.mp H;obtain ⟨t732,A7,H⟩:=H;(try dsimp only at H)
           obtain rfl:=Option.some.inj H
           go_enter Try.func98,Try.ntmps98
           go_wp2_with (first | ((with_reducible refine gd 1 rfl (L ?_));refine bo 1 (.agg #[_,_,_]) S ?_;clear S F;intro gb731 W S;have F:=S.fc) | (go_at_call 183;(try simp only [F]);refine (impl_validCells.calls _ _ _ _ _ _ S.c S.n A7).mono ?_;rintro e W ⟨rfl,hb⟩;replace S:=S.go hb;clear F hb;have F:=S.fc))
           go_ret
           exact ⟨(by first | rfl | (simp [e0_,e1_] <;> rfl) | (simp [*,e0_,e1_] <;> rfl)),S.below⟩
         · skip
           replace c6:=cne c6
           obtain rfl:=Option.some.inj H
           go_enter Try.func98,Try.ntmps98
           go_wp2_with ((with_reducible refine gd 1 rfl (L ?_));refine bo 1 (.agg #[_,_,_]) S ?_;clear S F;intro gb731 W S;have F:=S.fc)
           go_ret
           exact ⟨(by first | rfl | (simp [e0_,e1_] <;> rfl) | (simp [*,e0_,e1_] <;> rfl)),S.below⟩
       · skip
         obtain rfl:=Option.some.inj H
         go_enter Try.func98,Try.ntmps98
         go_wp2_with ((with_reducible refine gd 1 rfl (L ?_));refine bo 1 (.agg #[_,_,_]) S ?_;clear S F;intro gb731 W S;have F:=S.fc)
         go_ret
         exact ⟨(by first | rfl | (simp [e0_,e1_] <;> rfl) | (simp [*,e0_,e1_] <;> rfl)),S.below⟩
     · skip
       obtain rfl:=Option.some.inj H
       go_enter Try.func98,Try.ntmps98
       go_wp2_with ((with_reducible refine gd 1 rfl (L ?_));refine bo 1 (.agg #[_,_,_]) S ?_;clear S F;intro gb731 W S;have F:=S.fc)
       go_ret
       exact ⟨(by first | rfl | (simp [e0_,e1_] <;> rfl) | (simp [*,e0_,e1_] <;> rfl)),S.below⟩
   · skip
     obtain rfl:=Option.some.inj H
     go_enter Try.func98,Try.ntmps98
     go_wp2_with ((with_reducible refine gd 1 rfl (L ?_));refine bo 1 (.agg #[_,_,_]) S ?_;clear S F;intro gb731 W S;have F:=S.fc)
     go_ret
     exact ⟨(by first | rfl | (simp [e0_,e1_] <;> rfl) | (simp [*,e0_,e1_] <;> rfl)),S.below⟩
 · skip
   obtain rfl:=Option.some.inj H
   go_enter Try.func98,Try.ntmps98
   go_wp2_with ((with_reducible refine gd 1 rfl (L ?_));refine bo 1 (.agg #[_,_,_]) S ?_;clear S F;intro gb731 W S;have F:=S.fc)
   go_ret
   exact ⟨(by first | rfl | (simp [e0_,e1_] <;> rfl) | (simp [*,e0_,e1_] <;> rfl)),S.below⟩

/-! ### impl_MeetsChallenge: function 18 -/
mutual
def impl_MeetsChallenge.j0:Nat→Bool→Int→Int→List (S42)→List Int→List Int→Int→Int→List (S42)→Option (Bool × Bool)
  | 0,_,_,_,_,_,_,_,_,_=>none
  | k + 1,x15,x734000,x734001,x734002,x734003,x734004,x735000,x735001,x735002=>if x15 = true then (some (false,false)) else (if x735000 = x734000 then (impl_MeetsChallenge.j1 k (x735001 != x734001) x734000 x734001 x734002 x734003 x734004 x735000 x735001 x735002) else (impl_MeetsChallenge.j1 k true x734000 x734001 x734002 x734003 x734004 x735000 x735001 x735002))
def impl_MeetsChallenge.j1:Nat→Bool→Int→Int→List (S42)→List Int→List Int→Int→Int→List (S42)→Option (Bool × Bool)
  | 0,_,_,_,_,_,_,_,_,_=>none
  | k + 1,x27,x734000,x734001,x734002,x734003,x734004,x735000,x735001,x735002=>if x27 = true then (some (false,true)) else (impl_MeetsChallenge.l0 k x735002 (x735002.length:Int) 0 x734000 x734001 x734002 x734003 x734004 x735000 x735001 x735002)
def impl_MeetsChallenge.l0:Nat→List (S42)→Int→Int→Int→Int→List (S42)→List Int→List Int→Int→Int→List (S42)→Option (Bool × Bool)
  | 0,_,_,_,_,_,_,_,_,_,_,_=>none
  | k + 1,x29,x30,x31,x734000,x734001,x734002,x734003,x734004,x735000,x735001,x735002=>if x31 < x30 then (if 0 ≤ x31 then (if x31 < (x29.length:Int) then (if ((rd_T42 x29 x31).f0) = 0 then (impl_MeetsChallenge.l0 k x29 x30 (wrap64 (x31 + 1)) x734000 x734001 x734002 x734003 x734004 x735000 x735001 x735002) else ((impl_Cell_99.f k x734002 ((rd_T42 x29 x31).f0) ((rd_T42 x29 x31).f1)).bind fun t739=>(if t739 = true then (impl_MeetsChallenge.l0 k x29 x30 (wrap64 (x31 + 1)) x734000 x734001 x734002 x734003 x734004 x735000 x735001 x735002) else (some (false,true))))) else (none)) else (none)) else ((impl_hasEnds.f k x734000 x734001 x734002 x734003 x734004 x735000 x735001 x735002).bind fun t740=>(some (t740,true)))
end
def impl_MeetsChallenge.f (k:Nat) (a0_0:Int) (a0_1:Int) (l0_2:List (S42)) (l0_3:List Int) (l0_4:List Int) (a1_0:Int) (a1_1:Int) (l1_2:List (S42)):Option (Bool × Bool):=(impl_IsChallenge.f k a0_0 a0_1 l0_2 l0_3 l0_4).bind fun t735=>(if t735 = true then ((impl_IsBoard.f k a1_0 a1_1 l1_2).bind fun t736=>(impl_MeetsChallenge.j0 k (!t736) a0_0 a0_1 l0_2 l0_3 l0_4 a1_0 a1_1 l1_2)) else (impl_MeetsChallenge.j0 k true a0_0 a0_1 l0_2 l0_3 l0_4 a1_0 a1_1 l1_2))
theorem impl_MeetsChallenge.calls (k:Nat) (a0_0:Int) (a0_1:Int) (A0_2:Option Addr) (c0_2:Nat) (l0_2:List (S42)) (A0_3:Option Addr) (c0_3:Nat) (l0_3:List Int) (A0_4:Option Addr) (c0_4:Nat) (l0_4:List Int) (a1_0:Int) (a1_1:Int) (A1_2:Option Addr) (c1_2:Nat) (l1_2:List (S42)) (r1:Bool) (r2:Bool) (w:World) (hr0_2:Kd.C k42 w A0_2 l0_2.length l0_2) (hc0_2:l0_2.length ≤ c0_2) (hr0_3:Kd.C (Kd.int .i64) w A0_3 l0_3.length l0_3) (hc0_3:l0_3.length ≤ c0_3) (hr0_4:Kd.C (Kd.int .i64) w A0_4 l0_4.length l0_4) (hc0_4:l0_4.length ≤ c0_4) (hr1_2:Kd.C k42 w A1_2 l1_2.length l1_2) (hc1_2:l1_2.length ≤ c1_2) (h:impl_MeetsChallenge.f k a0_0 a0_1 l0_2 l0_3 l0_4 a1_0 a1_1 l1_2 = some (r1,r2)) :
    Calls Try.prog 18 #[.agg #[.int .i64 a0_0,.int .i64 a0_1,.slice A0_2 l0_2.length c0_2,.slice A0_3 l0_3.length c0_3,.slice A0_4 l0_4.length c0_4],.agg #[.int .i64 a1_0,.int .i64 a1_1,.slice A1_2 l1_2.length c1_2]] w fun e w'=>e = .returned (.tuple #[.bool r1,.bool r2])∧Below w.heap.size w w':=by
 have S:=St.init (w:=w) (dc k42_heap at42 hr0_2 hc0_2 (dc (Kd.heap_int .i64) (atI .i64) hr0_3 hc0_3 (dc (Kd.heap_int .i64) (atI .i64) hr0_4 hc0_4 (dc k42_heap at42 hr1_2 hc1_2 dn))))
 clear hr0_2 hc0_2 hr0_3 hc0_3 hr0_4 hc0_4 hr1_2 hc1_2
 have F:=S.fc
 have H:=h;clear h;unfold impl_MeetsChallenge.f at H
 go_enter Try.func18,Try.ntmps18
 go_upto_region 1 with (first | ((with_reducible refine gd 2 rfl (L ?_));refine bo 2 (.agg #[_,_,_,_,_]) S ?_;clear S F;intro gb733 W S;have F:=S.fc) | ((with_reducible refine gd 3 rfl (L ?_));refine bo 3 (.agg #[_,_,_]) S ?_;clear S F;intro gb734 W S;have F:=S.fc))
 (try simp only [Act.put,List.setIfInBounds_toArray,List.set_cons_zero,List.set_cons_succ])
 go_cut [15] (fun v15 wc=>∃ (kq:Nat) (x15_2:Bool),v15 = .bool x15_2∧impl_MeetsChallenge.j0 kq x15_2 a0_0 a0_1 l0_2 l0_3 l0_4 a1_0 a1_1 l1_2 = some (r1,r2)∧kq ≤ k∧St w w (fun _=>False) [bor at42 A0_2 c0_2 l0_2,bor (atI .i64) A0_3 c0_3 l0_3,bor (atI .i64) A0_4 c0_4 l0_4,bor at42 A1_2 c1_2 l1_2] wc  [box gb734 30 [.int .i64 a1_0,.int .i64 a1_1,.slice A1_2 l1_2.length c1_2],box gb733 27 [.int .i64 a0_0,.int .i64 a0_1,.slice A0_2 l0_2.length c0_2,.slice A0_3 l0_3.length c0_3,.slice A0_4 l0_4.length c0_4]])
 case first =>
  replace H:=Option.bind_eq_some_iff.mp H;obtain ⟨t735,A6,H⟩:=H;(try dsimp only at H)
  replace H:=sp_ H;rcases H with ⟨c7,H⟩ | ⟨c7,H⟩
  · skip
    subst c7
    replace H:=Option.bind_eq_some_iff.mp H;obtain ⟨t736,A8,H⟩:=H;(try dsimp only at H)
    go_wp2_with (first | ((with_reducible refine gate_callee (f:=37) rfl (L ?_));refine cl (some 9) Try.func37 (impl_IsChallenge.calls _ _ _ _ _ _ _ _ _ _ _ _ _ _ S.c S.n S.c S.n S.c S.n A6) (hargs:=by (simp only [ma_,mb_,mc_,F] <;> rfl)) (h:=?_);rintro e W ⟨rfl,hb⟩;refine ⟨_,rfl,?_⟩;replace S:=S.go hb;clear F hb;have F:=S.fc) | (go_at_call 98;(try simp only [F]);refine (impl_IsBoard.calls _ _ _ _ _ _ _ _ S.c S.n A8).mono ?_;rintro e W ⟨rfl,hb⟩;replace S:=S.go hb;clear F hb;have F:=S.fc))
    go_meet
    case rel=>exact ⟨_,(!t736),(by first | rfl | (simp;done) | (simp [*];done) | (rw [w6_ (by omega) (by omega)])),H,(by first | omega | exact Nat.le_refl _),S⟩
  · skip
    replace c7:=cbf c7;subst c7
    go_wp2_with ((with_reducible refine gate_callee (f:=37) rfl (L ?_));refine cl (some 9) Try.func37 (impl_IsChallenge.calls _ _ _ _ _ _ _ _ _ _ _ _ _ _ S.c S.n S.c S.n S.c S.n A6) (hargs:=by (simp only [ma_,mb_,mc_,F] <;> rfl)) (h:=?_);rintro e W ⟨rfl,hb⟩;refine ⟨_,rfl,?_⟩;replace S:=S.go hb;clear F hb;have F:=S.fc)
    go_meet
    case rel=>exact ⟨_,true,(by first | rfl | (simp;done) | (simp [*];done) | (rw [w6_ (by omega) (by omega)])),H,(by first | omega | exact Nat.le_refl _),S⟩
 case rest =>
  clear H S F
  obtain ⟨kq,x15_2,rfl,HA,HJ2,S⟩:=hcut
  have F:=S.fc
  cases kq with
  | zero=>exact absurd HA (by simp [impl_MeetsChallenge.j0])
  | succ kj2 =>
   have H:=HA;clear HA;simp only [impl_MeetsChallenge.j0,F] at H
   replace H:=sp_ H;rcases H with ⟨c17,H⟩ | ⟨c17,H⟩
   · skip
     subst c17
     simp only [Option.some.injEq,Prod.mk.injEq] at H
     obtain ⟨rfl,rfl⟩:=H
     go_wp2
     go_ret2
     exact ⟨(by first | rfl | (simp [e0_,e1_] <;> rfl) | (simp [*,e0_,e1_] <;> rfl)),S.below⟩
   · skip
     replace c17:=cbf c17;subst c17
     go_upto_region 3 with (fail)
     go_cut [27] (fun v27 wc=>∃ (kq:Nat) (x27_17:Bool),v27 = .bool x27_17∧impl_MeetsChallenge.j1 kq x27_17 a0_0 a0_1 l0_2 l0_3 l0_4 a1_0 a1_1 l1_2 = some (r1,r2)∧kq ≤ kj2∧St w w (fun _=>False) [bor at42 A0_2 c0_2 l0_2,bor (atI .i64) A0_3 c0_3 l0_3,bor (atI .i64) A0_4 c0_4 l0_4,bor at42 A1_2 c1_2 l1_2] wc  [box gb734 30 [.int .i64 a1_0,.int .i64 a1_1,.slice A1_2 l1_2.length c1_2],box gb733 27 [.int .i64 a0_0,.int .i64 a0_1,.slice A0_2 l0_2.length c0_2,.slice A0_3 l0_3.length c0_3,.slice A0_4 l0_4.length c0_4]])
     case first =>
      replace H:=sp_ H;rcases H with ⟨c19,H⟩ | ⟨c19,H⟩
      · skip
        replace c19:=ceq c19
        go_wp2
        go_meet
        case rel=>exact ⟨_,(a1_1 != a0_1),(by first | rfl | (simp;done) | (simp [*];done) | (rw [w6_ (by omega) (by omega)])),H,(by first | omega | exact Nat.le_refl _),S⟩
      · skip
        replace c19:=cne c19
        go_wp2
        go_meet
        case rel=>exact ⟨_,true,(by first | rfl | (simp;done) | (simp [*];done) | (rw [w6_ (by omega) (by omega)])),H,(by first | omega | exact Nat.le_refl _),S⟩
     case rest =>
      clear H S F
      obtain ⟨kq,x27_17,rfl,HA,HJ17,S⟩:=hcut
      have F:=S.fc
      cases kq with
      | zero=>exact absurd HA (by simp [impl_MeetsChallenge.j1])
      | succ kj17 =>
       have H:=HA;clear HA;simp only [impl_MeetsChallenge.j1,F] at H
       replace H:=sp_ H;rcases H with ⟨c26,H⟩ | ⟨c26,H⟩
       · skip
         subst c26
         simp only [Option.some.injEq,Prod.mk.injEq] at H
         obtain ⟨rfl,rfl⟩:=H
         go_wp2
         go_ret2
         exact ⟨(by first | rfl | (simp [e0_,e1_] <;> rfl) | (simp [*,e0_,e1_] <;> rfl)),S.below⟩
       · skip
         replace c26:=cbf c26;subst c26
         go_wp2
         go_loopg [31] kj17 (fun kq v31 w'=>∃ (x31_3:Int),v31 = .int .i64 x31_3∧impl_MeetsChallenge.l0 kq l1_2 (l1_2.length:Int) x31_3 a0_0 a0_1 l0_2 l0_3 l0_4 a1_0 a1_1 l1_2 = some (r1,r2)∧kq ≤ kj17∧St w w (fun _=>False) [bor at42 A0_2 c0_2 l0_2,bor (atI .i64) A0_3 c0_3 l0_3,bor (atI .i64) A0_4 c0_4 l0_4,bor at42 A1_2 c1_2 l1_2] w'  [box gb734 30 [.int .i64 a1_0,.int .i64 a1_1,.slice A1_2 l1_2.length c1_2],box gb733 27 [.int .i64 a0_0,.int .i64 a0_1,.slice A0_2 l0_2.length c0_2,.slice A0_3 l0_3.length c0_3,.slice A0_4 l0_4.length c0_4]])
         case atStart=>exact ⟨0,(by first | rfl | (simp;done) | (simp [*];done) | (rw [w6_ (by omega) (by omega)])),H,Nat.le_refl _,S⟩
         case round =>
          clear H S F
          obtain ⟨x31_3,rfl,HA,HK3,S⟩:=hrel
          have F:=S.fc
          cases gk with
          | zero=>exact absurd HA (by simp [impl_MeetsChallenge.l0])
          | succ k3 =>
           have H:=HA;clear HA;simp only [impl_MeetsChallenge.l0,F] at H
           replace H:=sp_ H;rcases H with ⟨c29,H⟩ | ⟨c29,H⟩
           · skip
             replace H:=np_ H;obtain ⟨c30,H⟩:=H
             replace H:=np_ H;obtain ⟨c31,H⟩:=H
             replace H:=sp_ H;rcases H with ⟨c32,H⟩ | ⟨c32,H⟩
             · skip
               replace c32:=ceq c32
               go_wp2_with (first | ((with_reducible refine gd 7 rfl (L ?_));refine al 7 S zi42 ?_;clear S F;intro gb738 W S;have F:=S.fc) | ((with_reducible refine gs (t:=42) rfl (L ?_));refine sb (.agg #[_,_]) S sz42 ?_;(clear S F;intro W S;have F:=S.fc)))
               go_roundg k3
               case measure=>omega
               case rel=>exact ⟨(wrap64 (x31_3 + 1)),(by first | rfl | (simp;done) | (simp [*];done) | (rw [w6_ (by omega) (by omega)])),H,(by first | omega | exact Nat.le_refl _),S.tl⟩
             · skip
               replace c32:=cne c32
               replace H:=Option.bind_eq_some_iff.mp H;obtain ⟨t739,A37,H⟩:=H;(try dsimp only at H)
               replace H:=sp_ H;rcases H with ⟨c38,H⟩ | ⟨c38,H⟩
               · skip
                 subst c38
                 go_wp2_with (first | ((with_reducible refine gd 7 rfl (L ?_));refine al 7 S zi42 ?_;clear S F;intro gb738 W S;have F:=S.fc) | (go_at_call 99;(try simp only [F]);refine (impl_Cell_99.calls _ _ _ _ _ _ _ _ S.c S.n A37).mono ?_;rintro e W ⟨rfl,hb⟩;replace S:=S.go hb;clear F hb;have F:=S.fc) | ((with_reducible refine gs (t:=42) rfl (L ?_));refine sb (.agg #[_,_]) S sz42 ?_;(clear S F;intro W S;have F:=S.fc)))
                 go_roundg k3
                 case measure=>omega
                 case rel=>exact ⟨(wrap64 (x31_3 + 1)),(by first | rfl | (simp;done) | (simp [*];done) | (rw [w6_ (by omega) (by omega)])),H,(by first | omega | exact Nat.le_refl _),S.tl⟩
               · skip
                 replace c38:=cbf c38;subst c38
                 simp only [Option.some.injEq,Prod.mk.injEq] at H
                 obtain ⟨rfl,rfl⟩:=H
                 go_wp2_with (first | ((with_reducible refine gd 7 rfl (L ?_));refine al 7 S zi42 ?_;clear S F;intro gb738 W S;have F:=S.fc) | (go_at_call 99;(try simp only [F]);refine (impl_Cell_99.calls _ _ _ _ _ _ _ _ S.c S.n A37).mono ?_;rintro e W ⟨rfl,hb⟩;replace S:=S.go hb;clear F hb;have F:=S.fc) | ((with_reducible refine gs (t:=42) rfl (L ?_));refine sb (.agg #[_,_]) S sz42 ?_;(clear S F;intro W S;have F:=S.fc)))
                 go_ret2
                 exact ⟨(by first | rfl | (simp [e0_,e1_] <;> rfl) | (simp [*,e0_,e1_] <;> rfl)),S.below⟩
           · skip
             replace H:=Option.bind_eq_some_iff.mp H;obtain ⟨t740,A53,H⟩:=H;(try dsimp only at H)
             simp only [Option.some.injEq,Prod.mk.injEq] at H
             obtain ⟨rfl,rfl⟩:=H
             go_wp2_with ((with_reducible refine gate_callee (f:=100) rfl (L ?_));refine cl (some 48) Try.func100 (impl_hasEnds.calls _ _ _ _ _ _ _ _ _ _ _ _ _ _ _ _ _ _ _ S.c S.n S.c S.n S.c S.n S.c S.n A53) (hargs:=by (simp only [ma_,mb_,mc_,F] <;> rfl)) (h:=?_);rintro e W ⟨rfl,hb⟩;refine ⟨_,rfl,?_⟩;replace S:=S.go hb;clear F hb;have F:=S.fc)
             go_ret2
             exact ⟨(by first | rfl | (simp [e0_,e1_] <;> rfl) | (simp [*,e0_,e1_] <;> rfl)),S.below⟩

/-! ### impl_CountSolutions: function 20 -/
def impl_CountSolutions.f (k:Nat) (a0_0:Int) (a0_1:Int) (l0_2:List (S42)) (l0_3:List Int) (l0_4:List Int):Option (Int × Bool):=(impl_IsChallenge.f k a0_0 a0_1 l0_2 l0_3 l0_4).bind fun t754=>(if t754 = true then ((impl_countSolutions.f k a0_0 a0_1 l0_2 l0_3 l0_4).bind fun t755=>(some (t755,true))) else (some (0,false)))
theorem impl_CountSolutions.calls (k:Nat) (a0_0:Int) (a0_1:Int) (A0_2:Option Addr) (c0_2:Nat) (l0_2:List (S42)) (A0_3:Option Addr) (c0_3:Nat) (l0_3:List Int) (A0_4:Option Addr) (c0_4:Nat) (l0_4:List Int) (r1:Int) (r2:Bool) (w:World) (hr0_2:Kd.C k42 w A0_2 l0_2.length l0_2) (hc0_2:l0_2.length ≤ c0_2) (hr0_3:Kd.C (Kd.int .i64) w A0_3 l0_3.length l0_3) (hc0_3:l0_3.length ≤ c0_3) (hr0_4:Kd.C (Kd.int .i64) w A0_4 l0_4.length l0_4) (hc0_4:l0_4.length ≤ c0_4) (h:impl_CountSolutions.f k a0_0 a0_1 l0_2 l0_3 l0_4 = some (r1,r2)) :
    Calls Try.prog 20 #[.agg #[.int .i64 a0_0,.int .i64 a0_1,.slice A0_2 l0_2.length c0_2,.slice A0_3 l0_3.length c0_3,.slice A0_4 l0_4.length c0_4]] w fun e w'=>e = .returned (.tuple #[.int .i64 r1,.bool r2])∧Below w.heap.size w w':=by
 have S:=St.init (w:=w) (dc k42_heap at42 hr0_2 hc0_2 (dc (Kd.heap_int .i64) (atI .i64) hr0_3 hc0_3 (dc (Kd.heap_int .i64) (atI .i64) hr0_4 hc0_4 dn)))
 clear hr0_2 hc0_2 hr0_3 hc0_3 hr0_4 hc0_4
 have F:=S.fc
 have H:=h;clear h;unfold impl_CountSolutions.f at H
 replace H:=Option.bind_eq_some_iff.mp H;obtain ⟨t754,A2,H⟩:=H;(try dsimp only at H)
 replace H:=sp_ H;rcases H with ⟨c3,H⟩ | ⟨c3,H⟩
 · skip
   subst c3
   replace H:=Option.bind_eq_some_iff.mp H;obtain ⟨t755,A4,H⟩:=H;(try dsimp only at H)
   simp only [Option.some.injEq,Prod.mk.injEq] at H
   obtain ⟨rfl,rfl⟩:=H
   go_enter Try.func20,Try.ntmps20
   go_wp2_with (first | ((with_reducible refine gd 1 rfl (L ?_));refine bo 1 (.agg #[_,_,_,_,_]) S ?_;clear S F;intro gb753 W S;have F:=S.fc) | ((with_reducible refine gate_callee (f:=37) rfl (L ?_));refine cl (some 5) Try.func37 (impl_IsChallenge.calls _ _ _ _ _ _ _ _ _ _ _ _ _ _ S.c S.n S.c S.n S.c S.n A2) (hargs:=by (simp only [ma_,mb_,mc_,F] <;> rfl)) (h:=?_);rintro e W ⟨rfl,hb⟩;refine ⟨_,rfl,?_⟩;replace S:=S.go hb;clear F hb;have F:=S.fc) | ((with_reducible refine gate_callee (f:=96) rfl (L ?_));refine cl (some 8) Try.func96 (impl_countSolutions.calls _ _ _ _ _ _ _ _ _ _ _ _ _ _ S.c S.n S.c S.n S.c S.n A4) (hargs:=by (simp only [ma_,mb_,mc_,F] <;> rfl)) (h:=?_);rintro e W ⟨rfl,hb⟩;refine ⟨_,rfl,?_⟩;replace S:=S.go hb;clear F hb;have F:=S.fc))
   go_ret2
   exact ⟨(by first | rfl | (simp [e0_,e1_] <;> rfl) | (simp [*,e0_,e1_] <;> rfl)),S.below⟩
 · skip
   replace c3:=cbf c3;subst c3
   simp only [Option.some.injEq,Prod.mk.injEq] at H
   obtain ⟨rfl,rfl⟩:=H
   go_enter Try.func20,Try.ntmps20
   go_wp2_with (first | ((with_reducible refine gd 1 rfl (L ?_));refine bo 1 (.agg #[_,_,_,_,_]) S ?_;clear S F;intro gb753 W S;have F:=S.fc) | ((with_reducible refine gate_callee (f:=37) rfl (L ?_));refine cl (some 5) Try.func37 (impl_IsChallenge.calls _ _ _ _ _ _ _ _ _ _ _ _ _ _ S.c S.n S.c S.n S.c S.n A2) (hargs:=by (simp only [ma_,mb_,mc_,F] <;> rfl)) (h:=?_);rintro e W ⟨rfl,hb⟩;refine ⟨_,rfl,?_⟩;replace S:=S.go hb;clear F hb;have F:=S.fc))
   go_ret2
   exact ⟨(by first | rfl | (simp [e0_,e1_] <;> rfl) | (simp [*,e0_,e1_] <;> rfl)),S.below⟩

/-! ### spec_CountSolutions: function 21 -/
def spec_CountSolutions.l0:Nat→List Int→Int→Int→Int→Option (Int × Bool)
  | 0,_,_,_,_=>none
  | k + 1,x4,x7,x20,x21=>if x21 < x20 then (if 0 ≤ x21 then (if x21 < (x4.length:Int) then (spec_CountSolutions.l0 k x4 (wrap64 (x7 + (rd x4 x21))) x20 (wrap64 (x21 + 1))) else (none)) else (none)) else (some (x7,true))
def spec_CountSolutions.f (k:Nat) (a0_0:Int) (a0_1:Int) (l0_2:List (S42)) (l0_3:List Int) (l0_4:List Int):Option (Int × Bool):=(spec_syGood.f k a0_0 a0_1 l0_2 l0_3 l0_4).bind fun t757=>(if t757 = true then ((spec_syCount.f k a0_0 a0_1 l0_2 l0_3 l0_4).bind fun bt758=>(spec_CountSolutions.l0 k bt758.1 0 (bt758.1.length:Int) 0)) else (some (0,false)))
theorem spec_CountSolutions.calls (k:Nat) (a0_0:Int) (a0_1:Int) (A0_2:Option Addr) (c0_2:Nat) (l0_2:List (S42)) (A0_3:Option Addr) (c0_3:Nat) (l0_3:List Int) (A0_4:Option Addr) (c0_4:Nat) (l0_4:List Int) (r1:Int) (r2:Bool) (w:World) (hr0_2:Kd.C k42 w A0_2 l0_2.length l0_2) (hc0_2:l0_2.length ≤ c0_2) (hr0_3:Kd.C (Kd.int .i64) w A0_3 l0_3.length l0_3) (hc0_3:l0_3.length ≤ c0_3) (hr0_4:Kd.C (Kd.int .i64) w A0_4 l0_4.length l0_4) (hc0_4:l0_4.length ≤ c0_4) (h:spec_CountSolutions.f k a0_0 a0_1 l0_2 l0_3 l0_4 = some (r1,r2)) :
    Calls Try.prog 21 #[.agg #[.int .i64 a0_0,.int .i64 a0_1,.slice A0_2 l0_2.length c0_2,.slice A0_3 l0_3.length c0_3,.slice A0_4 l0_4.length c0_4]] w fun e w'=>e = .returned (.tuple #[.int .i64 r1,.bool r2])∧Below w.heap.size w w':=by
 have S:=St.init (w:=w) (dc k42_heap at42 hr0_2 hc0_2 (dc (Kd.heap_int .i64) (atI .i64) hr0_3 hc0_3 (dc (Kd.heap_int .i64) (atI .i64) hr0_4 hc0_4 dn)))
 clear hr0_2 hc0_2 hr0_3 hc0_3 hr0_4 hc0_4
 have F:=S.fc
 have H:=h;clear h;unfold spec_CountSolutions.f at H
 replace H:=Option.bind_eq_some_iff.mp H;obtain ⟨t757,A2,H⟩:=H;(try dsimp only at H)
 replace H:=sp_ H;rcases H with ⟨c3,H⟩ | ⟨c3,H⟩
 · skip
   subst c3
   replace H:=Option.bind_eq_some_iff.mp H;obtain ⟨⟨t758,t761,t762⟩,A4,H⟩:=H;(try dsimp only at H)
   go_enter Try.func21,Try.ntmps21
   go_wp2_with (first | ((with_reducible refine gd 1 rfl (L ?_));refine bo 1 (.agg #[_,_,_,_,_]) S ?_;clear S F;intro gb756 W S;have F:=S.fc) | ((with_reducible refine gate_callee (f:=93) rfl (L ?_));refine cl (some 11) Try.func93 (spec_syGood.calls _ _ _ _ _ _ _ _ _ _ _ _ _ _ S.c S.n S.c S.n S.c S.n A2) (hargs:=by (simp only [ma_,mb_,mc_,F] <;> rfl)) (h:=?_);rintro e W ⟨rfl,hb⟩;refine ⟨_,rfl,?_⟩;replace S:=S.go hb;clear F hb;have F:=S.fc) | ((with_reducible refine gate_callee (f:=94) rfl (L ?_));refine cl (some 15) Try.func94 (spec_syCount.calls _ _ _ _ _ _ _ _ _ _ _ _ _ _ _ _ S.c S.n S.c S.n S.c S.n A4) (hargs:=by (simp only [ma_,mb_,mc_,F] <;> rfl)) (h:=?_);rintro e W ⟨v759,rfl,ho0,hb⟩;refine ⟨_,rfl,?_⟩;replace S:=S.got (atI .i64) hb ho0;obtain ⟨At758,ct758,rfl,S⟩:=S;clear F hb ho0;have F:=S.fc))
   go_loopg [7,21] k (fun kq v7 v21 w'=>∃ (x7_1:Int) (x21_1:Int),v7 = .int .i64 x7_1∧v21 = .int .i64 x21_1∧spec_CountSolutions.l0 kq t758 x7_1 (t758.length:Int) x21_1 = some (r1,r2)∧kq ≤ k∧St w w (fun _=>False) [bor at42 A0_2 c0_2 l0_2,bor (atI .i64) A0_3 c0_3 l0_3,bor (atI .i64) A0_4 c0_4 l0_4] w'  [row (atI .i64) 3 At758 t758.length ct758 t758,box gb756 27 [.int .i64 a0_0,.int .i64 a0_1,.slice A0_2 l0_2.length c0_2,.slice A0_3 l0_3.length c0_3,.slice A0_4 l0_4.length c0_4]])
   case atStart=>exact ⟨0,0,(by first | rfl | (simp;done) | (simp [*];done) | (rw [w6_ (by omega) (by omega)])),(by first | rfl | (simp;done) | (simp [*];done) | (rw [w6_ (by omega) (by omega)])),H,Nat.le_refl _,S⟩
   case round =>
    clear H S F
    obtain ⟨x7_1,x21_1,rfl,rfl,HA,HK1,S⟩:=hrel
    have F:=S.fc
    cases gk with
    | zero=>exact absurd HA (by simp [spec_CountSolutions.l0])
    | succ k1 =>
     have H:=HA;clear HA;simp only [spec_CountSolutions.l0,F] at H
     replace H:=sp_ H;rcases H with ⟨c11,H⟩ | ⟨c11,H⟩
     · skip
       replace H:=np_ H;obtain ⟨c12,H⟩:=H
       replace H:=np_ H;obtain ⟨c13,H⟩:=H
       go_wp2
       go_roundg k1
       case measure=>omega
       case rel=>exact ⟨(wrap64 (x7_1 + (rd t758 x21_1))),(wrap64 (x21_1 + 1)),(by first | rfl | (simp;done) | (simp [*];done) | (rw [w6_ (by omega) (by omega)])),(by first | rfl | (simp;done) | (simp [*];done) | (rw [w6_ (by omega) (by omega)])),H,(by first | omega | exact Nat.le_refl _),S⟩
     · skip
       simp only [Option.some.injEq,Prod.mk.injEq] at H
       obtain ⟨rfl,rfl⟩:=H
       go_wp2
       go_ret2
       exact ⟨(by first | rfl | (simp [e0_,e1_] <;> rfl) | (simp [*,e0_,e1_] <;> rfl)),S.below⟩
 · skip
   replace c3:=cbf c3;subst c3
   simp only [Option.some.injEq,Prod.mk.injEq] at H
   obtain ⟨rfl,rfl⟩:=H
   go_enter Try.func21,Try.ntmps21
   go_wp2_with (first | ((with_reducible refine gd 1 rfl (L ?_));refine bo 1 (.agg #[_,_,_,_,_]) S ?_;clear S F;intro gb756 W S;have F:=S.fc) | ((with_reducible refine gate_callee (f:=93) rfl (L ?_));refine cl (some 11) Try.func93 (spec_syGood.calls _ _ _ _ _ _ _ _ _ _ _ _ _ _ S.c S.n S.c S.n S.c S.n A2) (hargs:=by (simp only [ma_,mb_,mc_,F] <;> rfl)) (h:=?_);rintro e W ⟨rfl,hb⟩;refine ⟨_,rfl,?_⟩;replace S:=S.go hb;clear F hb;have F:=S.fc))
   go_ret2
   exact ⟨(by first | rfl | (simp [e0_,e1_] <;> rfl) | (simp [*,e0_,e1_] <;> rfl)),S.below⟩

/-! ### spec_DrawSolutionsBySize: function 39 -/
def spec_DrawSolutionsBySize.f (k:Nat) (l0:List Int):Option (Int × Int × (List (S42)) × List Int × List Int):=(spec_DrawIsChallenge.f k l0).bind fun bt858=>(some (bt858.1,bt858.2.1,bt858.2.2.1,bt858.2.2.2.1,bt858.2.2.2.2))
theorem spec_DrawSolutionsBySize.calls (k:Nat) (A0:Option Addr) (c0:Nat) (l0:List Int) (r1:Int) (r2:Int) (r3:List (S42)) (r4:List Int) (r5:List Int) (w:World) (hr0:Kd.C (Kd.int .u8) w A0 l0.length l0) (hc0:l0.length ≤ c0) (h:spec_DrawSolutionsBySize.f k l0 = some (r1,r2,r3,r4,r5)) :
    Calls Try.prog 39 #[.slice A0 l0.length c0] w fun e w'=>∃ v2_ v3_ v4_:Value,e = .returned (.agg #[.int .i64 r1,.int .i64 r2,v2_,v3_,v4_])∧Kd.R k42 42 w' w.heap.size (fun _=>True) v2_ r3∧Kd.R (Kd.int .i64) 3 w' w.heap.size (fun k_=>some k_ ≠ (v4_:Value).ownBlock) v3_ r4∧Kd.R (Kd.int .i64) 3 w' w.heap.size (fun k_=>some k_ ≠ (v3_:Value).ownBlock) v4_ r5∧Below w.heap.size w w':=by
 have S:=St.init (w:=w) (dc (Kd.heap_int .u8) (atI .u8) hr0 hc0 dn)
 clear hc0
 have F:=S.fc
 have H:=h;clear h;unfold spec_DrawSolutionsBySize.f at H
 replace H:=Option.bind_eq_some_iff.mp H;obtain ⟨⟨t858,t859,t860,t863,t866⟩,A2,H⟩:=H;(try dsimp only at H)
 simp only [Option.some.injEq,Prod.mk.injEq] at H
 obtain ⟨rfl,rfl,rfl,rfl,rfl⟩:=H
 go_enter Try.func39,Try.ntmps39
 go_wp2_with (first | ((with_reducible refine gd 2 rfl (L ?_));refine al 2 S zi27 ?_;clear S F;intro gb857 W S;have F:=S.fc) | ((with_reducible refine gate_callee (f:=91) rfl (L ?_));refine cl (some 4) Try.func91 (spec_DrawIsChallenge.calls _ _ _ _ _ _ _ _ _ _ S.c S.n A2) (hargs:=by (simp only [ma_,mb_,mc_,F] <;> rfl)) (h:=?_);rintro e W ⟨v861,v864,v867,rfl,ho0,ho1,ho2,hb⟩;refine ⟨_,rfl,?_⟩;replace S:=S.got3i at42 (atI .i64) (atI .i64) hb ho0 ho1 ho2 (by decide);obtain ⟨At860,ct860,At863,ct863,At866,ct866,rfl,rfl,rfl,S⟩:=S;clear F hb ho0 ho1 ho2;have F:=S.fc) | ((with_reducible refine gs (t:=27) rfl (L ?_));refine sb (.agg #[_,_,_,_,_]) S sz27 ?_;(clear S F;intro W S;have F:=S.fc)))
 refine bodyPost_ret (results_cell_row rfl _ _ gb857 27 #[.int .i64 t858,.int .i64 t859,.slice At860 t860.length ct860,.slice At863 t863.length ct863,.slice At866 t866.length ct866] (0,0) _ rfl S.hb Try.underlying27 rfl (by kernel_rfl)) rfl ?_
 exact ⟨_,_,_,(by first | rfl | (simp [e0_,e1_] <;> rfl) | (simp [*,e0_,e1_] <;> rfl)),(by first | exact S.r | exact Kd.R_nil _ _ _ _ _),(by first | exact S.rn | exact Kd.R_nil _ _ _ _ _),(by first | exact S.rn | exact Kd.R_nil _ _ _ _ _),S.below⟩

/-! ### impl_partsOf: function 127 -/
def impl_partsOf.l0:Nat→Int→List (S42)→Int→Int→Option (Int)
  | 0,_,_,_,_=>none
  | k + 1,x3,x7,x8,x9=>if x9 < x8 then (if 0 ≤ x9 then (if x9 < (x7.length:Int) then (if ((rd_T42 x7 x9).f0) = 0 then (impl_partsOf.l0 k x3 x7 x8 (wrap64 (x9 + 1))) else (impl_partsOf.l0 k (wrap64 (x3 + 1)) x7 x8 (wrap64 (x9 + 1)))) else (none)) else (none)) else (some x3)
def impl_partsOf.f (k:Nat) (a0_0:Int) (a0_1:Int) (l0_2:List (S42)):Option (Int):=impl_partsOf.l0 k 0 l0_2 (l0_2.length:Int) 0
theorem impl_partsOf.calls (k:Nat) (a0_0:Int) (a0_1:Int) (A0_2:Option Addr) (c0_2:Nat) (l0_2:List (S42)) (r:Int) (w:World) (hr0_2:Kd.C k42 w A0_2 l0_2.length l0_2) (hc0_2:l0_2.length ≤ c0_2) (h:impl_partsOf.f k a0_0 a0_1 l0_2 = some r) :
    Calls Try.prog 127 #[.agg #[.int .i64 a0_0,.int .i64 a0_1,.slice A0_2 l0_2.length c0_2]] w fun e w'=>e = .returned (.int .i64 r)∧Below w.heap.size w w':=by
 have S:=St.init (w:=w) (dc k42_heap at42 hr0_2 hc0_2 dn)
 clear hr0_2 hc0_2
 have F:=S.fc
 have H:=h;clear h;unfold impl_partsOf.f at H
 go_enter Try.func127,Try.ntmps127
 go_wp2_with ((with_reducible refine gd 1 rfl (L ?_));refine bo 1 (.agg #[_,_,_]) S ?_;clear S F;intro gb869 W S;have F:=S.fc)
 go_loopg [3,9] k (fun kq v3 v9 w'=>∃ (x3_1:Int) (x9_1:Int),v3 = .int .i64 x3_1∧v9 = .int .i64 x9_1∧impl_partsOf.l0 kq x3_1 l0_2 (l0_2.length:Int) x9_1 = some r∧kq ≤ k∧St w w (fun _=>False) [bor at42 A0_2 c0_2 l0_2] w'  [box gb869 30 [.int .i64 a0_0,.int .i64 a0_1,.slice A0_2 l0_2.length c0_2]])
 case atStart=>exact ⟨0,0,(by first | rfl | (simp;done) | (simp [*];done) | (rw [w6_ (by omega) (by omega)])),(by first | rfl | (simp;done) | (simp [*];done) | (rw [w6_ (by omega) (by omega)])),H,Nat.le_refl _,S⟩
 case round =>
  clear H S F
  obtain ⟨x3_1,x9_1,rfl,rfl,HA,HK1,S⟩:=hrel
  have F:=S.fc
  cases gk with
  | zero=>exact absurd HA (by simp [impl_partsOf.l0])
  | succ k1 =>
   have H:=HA;clear HA;simp only [impl_partsOf.l0,F] at H
   replace H:=sp_ H;rcases H with ⟨c4,H⟩ | ⟨c4,H⟩
   · skip
     replace H:=np_ H;obtain ⟨c5,H⟩:=H
     replace H:=np_ H;obtain ⟨c6,H⟩:=H
     replace H:=sp_ H;rcases H with ⟨c7,H⟩ | ⟨c7,H⟩
     · skip
       replace c7:=ceq c7
       go_wp2_with (first | ((with_reducible refine gd 5 rfl (L ?_));refine al 5 S zi42 ?_;clear S F;intro gb871 W S;have F:=S.fc) | ((with_reducible refine gs (t:=42) rfl (L ?_));refine sb (.agg #[_,_]) S sz42 ?_;(clear S F;intro W S;have F:=S.fc)))
       go_roundg k1
       case measure=>omega
       case rel=>exact ⟨x3_1,(wrap64 (x9_1 + 1)),(by first | rfl | (simp;done) | (simp [*];done) | (rw [w6_ (by omega) (by omega)])),(by first | rfl | (simp;done) | (simp [*];done) | (rw [w6_ (by omega) (by omega)])),H,(by first | omega | exact Nat.le_refl _),S.tl⟩
     · skip
       replace c7:=cne c7
       go_wp2_with (first | ((with_reducible refine gd 5 rfl (L ?_));refine al 5 S zi42 ?_;clear S F;intro gb871 W S;have F:=S.fc) | ((with_reducible refine gs (t:=42) rfl (L ?_));refine sb (.agg #[_,_]) S sz42 ?_;(clear S F;intro W S;have F:=S.fc)))
       go_roundg k1
       case measure=>omega
       case rel=>exact ⟨(wrap64 (x3_1 + 1)),(wrap64 (x9_1 + 1)),(by first | rfl | (simp;done) | (simp [*];done) | (rw [w6_ (by omega) (by omega)])),(by first | rfl | (simp;done) | (simp [*];done) | (rw [w6_ (by omega) (by omega)])),H,(by first | omega | exact Nat.le_refl _),S.tl⟩
   · skip
     obtain rfl:=Option.some.inj H
     go_wp2
     go_ret
     exact ⟨(by first | rfl | (simp [e0_,e1_] <;> rfl) | (simp [*,e0_,e1_] <;> rfl)),S.below⟩

/-! ### impl_SolutionsBySize: function 40 -/
def impl_SolutionsBySize.l0:Nat→List Int→Int→Int→Int→List (S42)→List Int→List Int→Option (List Int × Bool)
 | 0,_,_,_,_,_,_,_=>none
 | k + 1,x4,x27,x873000,x873001,x873002,x873003,x873004=>(impl_boardsTried.f k x873000 x873001 x873002 x873003 x873004).bind fun t877=>(if x27 < t877 then ((impl_boardOf.f k x873000 x873001 x873002 x873003 x873004 x27).bind fun bt878=>((impl_hasEnds.f k x873000 x873001 x873002 x873003 x873004 bt878.1 bt878.2.1 bt878.2.2).bind fun t884=>(if t884 = true then ((impl_partsOf.f k bt878.1 bt878.2.1 bt878.2.2).bind fun t885=>(if 0 ≤ t885 then (if t885 < (x4.length:Int) then (impl_SolutionsBySize.l0 k (x4.set (t885:Int).toNat (wrap64 ((rd x4 t885) + 1))) (wrap64 (x27 + 1)) x873000 x873001 x873002 x873003 x873004) else (none)) else (none))) else (impl_SolutionsBySize.l0 k x4 (wrap64 (x27 + 1)) x873000 x873001 x873002 x873003 x873004)))) else (some (x4,true)))
def impl_SolutionsBySize.f (k:Nat) (a0_0:Int) (a0_1:Int) (l0_2:List (S42)) (l0_3:List Int) (l0_4:List Int):Option (List Int × Bool):=(impl_IsChallenge.f k a0_0 a0_1 l0_2 l0_3 l0_4).bind fun t873=>(if t873 = true then (if 0 ≤ (wrap64 ((wrap64 (a0_0 * a0_1)) + 1)) then (if (wrap64 ((wrap64 (a0_0 * a0_1)) + 1):Int).toNat ≤ 35184372088832 then (impl_SolutionsBySize.l0 k (List.replicate (wrap64 ((wrap64 (a0_0 * a0_1)) + 1):Int).toNat 0) 0 a0_0 a0_1 l0_2 l0_3 l0_4) else (none)) else (none)) else (some (([]:List Int),false)))
theorem zi25:(Try.prog.info? 25).map (fun i=>(i.zero,i.size,i.bytes)) = some (some (.slice none 0 0),1,24):=by kernel_rfl
theorem R_okI {k:IntKind} {e:Nat} {w:World} {base:Nat} {ok ok2:Nat→Prop} {v:Value} {xs:List Int} (h:(Kd.int k).R e w base ok v xs) (h2:∀ j,v.ownBlock = some j→ok2 j):(Kd.int k).R e w base ok2 v xs:=⟨h2,h.2.imp_ (fun _ _ hp=>hp)⟩
theorem St_br {b0 W:World} {g t:Nat} {cs:List Value} {D:List (World→Prop)} {α:Type} {d:Kd α} (at_:At d) {e n c:Nat} {A:Option Addr} {xs:List α} {ok:Nat→Prop} (hB:Below b0.heap.size b0 W) (hg:b0.heap.size ≤ g) (h:bxr g t cs W) (ho:d.R e W b0.heap.size ok (.slice A n c) xs) (hne:∀ k,ok k→k ≠ g) (hD:Dok W (fun k=>k = g∨ok k) D):St b0 W (fun k=>k = g∨ok k) D W [box g t cs,row at_ e A n c xs] :=
 ⟨hB,Kept.refl _ _,fun k=>if k = g then 0 else 1,(fun i p hi=>by
  match i,hi with
  | 0,hi=>injection hi with hi;subst hi;exact ⟨⟨if_pos rfl,.inl (.inl rfl)⟩,hg,h⟩
  | 1,hi=>injection hi with hi;subst hi;exact Kd.R_mono ho (fun k hk=>⟨if_neg (hne k hk),.inl (.inr hk)⟩)),dft hD⟩
theorem row_all {b0 w0 w:World} {P:Nat→Prop} {D:List (World→Prop)} {G:List Pc} {α:Type} {d:Kd α} {at_:At d} {e n c:Nat} {A:Option Addr} {xs:List α} (S:St b0 w0 P D w G) (i:Nat) (hi:G[i]? = some (row at_ e A n c xs)):∃ ok:Nat→Prop,d.R e w b0.heap.size ok (.slice A n c) xs∧∀ (j g t:Nat) (cs:List Value),G[j]? = some (box g t cs)→j ≠ i→¬ ok g:=by
 obtain ⟨f,hf⟩:=S.own
 refine ⟨_,hf i _ hi,fun j g t cs hj hn h=>hn ?_⟩
 have h2:=(hf j _ hj).1.1
 exact h2.symm.trans h.1
def sizesStep (k:Nat) (s:List Int) (r c:Int) (xs:List S42):Option (List Int × Bool):=(impl_partsOf.f k r c xs).bind fun t=>if 0 ≤ t then (if t < (s.length:Int) then some (s.set t.toNat (wrap64 (rd s t + 1)),true) else none) else none
theorem sizes_fold (r c:Int) (p:List S42) (e ns:List Int):∀ (k:Nat) (n:Int) (s:List Int) (q1:List Int) (q2:Bool),impl_SolutionsBySize.l0 k s n r c p e ns = some (q1,q2)→solFold sizesStep r c p e ns k n s = some (q1,true)∧q2 = true
 | 0,_,_,_,_,h=>by simp [impl_SolutionsBySize.l0] at h
 | k + 1,n,s,q1,q2,h=>by
  simp only [impl_SolutionsBySize.l0] at h
  simp only [solFold]
  obtain ⟨t,h1,h⟩:=Option.bind_eq_some_iff.mp h
  rw [h1]
  simp only [Option.bind_some]
  split at h
  · rename_i ct
    rw [if_pos ct]
    obtain ⟨b2,h2,h⟩:=Option.bind_eq_some_iff.mp h
    obtain ⟨y,h3,h⟩:=Option.bind_eq_some_iff.mp h
    rw [h2]
    simp only [Option.bind_some]
    rw [h3]
    simp only [Option.bind_some]
    split at h
    · rename_i cy
      rw [if_pos cy]
      obtain ⟨t2,h5,h⟩:=Option.bind_eq_some_iff.mp h
      replace h:=np_ h;obtain ⟨c5,h⟩:=h
      replace h:=np_ h;obtain ⟨c6,h⟩:=h
      unfold sizesStep
      rw [h5]
      simp only [Option.bind_some]
      rw [if_pos c5,if_pos c6]
      simp only [Option.bind_some,if_true]
      exact sizes_fold r c p e ns k _ _ _ _ h
    · rename_i cy
      rw [if_neg cy]
      exact sizes_fold r c p e ns k _ _ _ _ h
  · rename_i ct
    rw [if_neg ct]
    simp only [Option.some.injEq,Prod.mk.injEq] at h
    obtain ⟨rfl,rfl⟩:=h
    exact ⟨rfl,rfl⟩
theorem impl_SolutionsBySize.calls (k:Nat) (a0_0:Int) (a0_1:Int) (A0_2:Option Addr) (c0_2:Nat) (l0_2:List (S42)) (A0_3:Option Addr) (c0_3:Nat) (l0_3:List Int) (A0_4:Option Addr) (c0_4:Nat) (l0_4:List Int) (r1:List Int) (r2:Bool) (w:World) (hr0_2:Kd.C k42 w A0_2 l0_2.length l0_2) (hc0_2:l0_2.length ≤ c0_2) (hr0_3:Kd.C (Kd.int .i64) w A0_3 l0_3.length l0_3) (hc0_3:l0_3.length ≤ c0_3) (hr0_4:Kd.C (Kd.int .i64) w A0_4 l0_4.length l0_4) (hc0_4:l0_4.length ≤ c0_4) (h:impl_SolutionsBySize.f k a0_0 a0_1 l0_2 l0_3 l0_4 = some (r1,r2)) :
  Calls Try.prog 40 #[.agg #[.int .i64 a0_0,.int .i64 a0_1,.slice A0_2 l0_2.length c0_2,.slice A0_3 l0_3.length c0_3,.slice A0_4 l0_4.length c0_4]] w fun e w'=>∃ v0_:Value,e = .returned (.tuple #[v0_,.bool r2])∧Kd.R (Kd.int .i64) 3 w' w.heap.size (fun _=>True) v0_ r1∧Below w.heap.size w w':=by
 unfold impl_SolutionsBySize.f at h
 obtain ⟨t,A2,h⟩:=Option.bind_eq_some_iff.mp h
 have S:=St.init (w:=w) (dc k42_heap at42 hr0_2 hc0_2 (dc (Kd.heap_int .i64) (atI .i64) hr0_3 hc0_3 (dc (Kd.heap_int .i64) (atI .i64) hr0_4 hc0_4 dn)))
 have F:=S.fc
 refine (callsIn_wide (n:=9)).1 ?_
 refine callsIn_of_wp_marks Try.func40 rfl trivial ?_ rfl
 simp only [Try.ntmps40,List.size_toArray,List.length_cons,List.length_nil,Nat.reduceAdd,Nat.reduceSub,Array.replicate_succ,Array.replicate_zero,List.push_toArray,List.append_toArray,List.nil_append,List.cons_append]
 refine wpIn_wide.2 ?_
 by_cases ct:t = true
 case neg =>
  rw [if_neg ct] at h
  replace ct:=cbf ct;subst ct
  simp only [Option.some.injEq,Prod.mk.injEq] at h
  obtain ⟨rfl,rfl⟩:=h
  go_wp2_with (first | ((with_reducible refine gd 1 rfl (L ?_));refine bo 1 (.agg #[_,_,_,_,_]) S ?_;clear S F;intro gb W S;have F:=S.fc) | ((with_reducible refine gate_callee (f:=37) rfl (L ?_));refine cl (some 7) Try.func37 (impl_IsChallenge.calls _ _ _ _ _ _ _ _ _ _ _ _ _ _ S.c S.n S.c S.n S.c S.n A2) (hargs:=by (simp only [ma_,mb_,mc_,F] <;> rfl)) (h:=?_);rintro e W ⟨rfl,hb⟩;refine ⟨_,rfl,?_⟩;replace S:=S.go hb;clear F hb;have F:=S.fc))
  exact ⟨_,results_tmp2 rfl _ _ _,_,rfl,Kd.R_nil _ _ _ _ _,S.below⟩
 subst ct
 rw [if_pos rfl] at h
 obtain ⟨ji,hji⟩:∃ j_:Int,(wrap64 ((wrap64 (a0_0 * a0_1)) + 1)) = j_:=⟨_,rfl⟩
 simp only [hji] at h
 have hjiw:(IntKind.i64.wrap ((wrap64 (a0_0 * a0_1)) + 1)) = ji:=(i64_w _).trans hji
 replace h:=np_ h;obtain ⟨c5,h⟩:=h
 replace h:=np_ h;obtain ⟨c6,h⟩:=h
 obtain ⟨y,hy⟩:∃ y:List Int,y = List.replicate (ji:Int).toNat 0:=⟨_,rfl⟩
 rw [← hy] at h
 have Ny:=Aside0.mk hy;clear hy
 obtain ⟨hf,rfl⟩:=sizes_fold _ _ _ _ _ k _ _ _ _ h
 clear h
 go_wp2_with (first | ((with_reducible refine gd 1 rfl (L ?_));refine bo 1 (.agg #[_,_,_,_,_]) S ?_;clear S F;intro gb W S;have F:=S.fc) | ((with_reducible refine gate_callee (f:=37) rfl (L ?_));refine cl (some 7) Try.func37 (impl_IsChallenge.calls _ _ _ _ _ _ _ _ _ _ _ _ _ _ S.c S.n S.c S.n S.c S.n A2) (hargs:=by (simp only [ma_,mb_,mc_,F] <;> rfl)) (h:=?_);rintro e W ⟨rfl,hb⟩;refine ⟨_,rfl,?_⟩;replace S:=S.go hb;clear F hb;have F:=S.fc) | ((with_reducible refine gd 15 rfl (L ?_));refine mka 15 (atI .i64) S Try.underlying25 info3 ?_;clear S F;intro Ay cy W S;(try rw [← Ny.out] at S ⊢);have F:=S.fc) | ((with_reducible refine gd 4 rfl (L ?_));refine al 4 S zi25 ?_;clear S F;intro gO W S;have F:=S.fc) | ((with_reducible refine gs (t:=25) rfl (L ?_));(first | refine sb (.slice _ _ _) S sz25 ?_ | refine ro (.slice _ _ _) S sz25 ?_ (ho:=rfl) (hx:=rfl) (hy:=rfl));(clear S F;intro W S;have F:=S.fc)) | ((with_reducible refine gate_callee (f:=92) rfl (L ?_));refine cl (some 17) Try.func92 (impl_solutionsOf.calls _ _ _ _ _ _ _ _ _ _ _ W) (hargs:=by (simp only [ma_,mb_,mc_,F] <;> rfl)) (h:=?_);rintro e W2 ⟨gc,rfl,hgc,hge,hb⟩;refine ⟨_,rfl,?_⟩;obtain ⟨okr,hR0,hnr⟩:=row_all S 1 rfl;have hl1:=Kd.R_lt hR0;have hl2:=blk_lt (bx_all S 0 rfl).1;replace S:=S.go hb;clear F hb;have F:=S.fc))
 (try simp only [Act.put,za_,zb_,zc_])
 have hB:=S.below
 have hn:=bx_all S 0 rfl
 have hlt:=blk_lt hn.1
 have hlc:=blk_lt hgc
 have hne:gc ≠ gO:=by omega
 have hsz:=hB.size
 have hbs:=Kd.R_base hR0
 have hno:∀ j,(Value.slice Ay y.length cy).ownBlock = some j→j ≠ gO:=fun j hj e=>hnr 0 gO _ _ rfl (by decide) (e ▸ hR0.1 j hj)
 obtain ⟨okr2,hR1,_⟩:=row_all S 1 rfl
 have hl3:=Kd.R_lt hR1
 obtain ⟨okA,hokA⟩:∃ okA:Nat→Prop,okA = fun j=>(Value.slice Ay y.length cy).ownBlock = some j:=⟨_,rfl⟩
 have hok:∀ j,okA j→j ≠ gO∧w.heap.size ≤ j∧j < W2.heap.size∧j ≠ gc:=fun j hj=>by
  rw [hokA] at hj
  have:=hl1 j hj
  exact ⟨hno j hj,hbs j hj,hl3 j hj,by omega⟩
 have hRA:(Kd.int .i64).R 3 W2 w.heap.size okA (.slice Ay y.length cy) y:=R_okI hR1 (fun j hj=>by rw [hokA];exact hj)
 have hlo:∀ j,okA j→(Value.slice Ay y.length cy).ownBlock = some j:=fun j hj=>by rw [hokA] at hj;exact hj
 have hol:∀ j,(Value.slice Ay y.length cy).ownBlock = some j→okA j:=fun j hj=>by rw [hokA];exact hj
 clear F S hokA
 refine (wpIn_wide (n:=9)).1 ?_
 obtain ⟨I,hI⟩:∃ I:List Int→World→Prop,I = fun s W=>bxr gO 25 [.slice Ay y.length cy] W∧(Kd.int .i64).R 3 W w.heap.size okA (.slice Ay y.length cy) s∧Below w.heap.size w W:=⟨_,rfl⟩
 have hOw:Ow (W2.heap.size + 1) I:=by
  subst hI
  rintro s W W' ⟨h1,h2,h3⟩ hg
  exact ⟨bxr_grown h1 hg (by omega),Kd.R_step h2 (fun j hj hl=>hg.block j hl (by have:=hok j hj;simp;omega)),h3.grown hg h3.size (fun k e=>by cases e;omega)⟩
 refine wpIn_folds (σ:=List Int) (gf:=181) (lb:=#[.pointer (some ⟨gc,0,none⟩)]) (fin:=fun s' go=>(r1,true) = (s',go)) (s0:=y) rfl (by decide) rfl trivial (enters_ Try.func181 (by kernel_rfl) rfl)
  (fun Wl hb hz=>sols_folds sizesStep _ k gc a0_0 a0_1 A0_2 c0_2 l0_2 A0_3 c0_3 l0_3 A0_4 c0_4 l0_4 y (r1,true) (fun j=>(j = gO∨okA j)∨j = W2.heap.size + 1) (W2.heap.size + 2) Wl hz (fun W' hk=>?hq) hc0_2 hc0_3 hc0_4 hf)
  kept_trans (fun W o _=>kept_put _ _ (.inr rfl)) (fun s args W s' go hR=>by obtain ⟨_,_,_,_,_,_,_,rfl,_⟩:=hR;rfl)
  I (fun _ _ _=>False) hOw (fun _ _ _ _ h _=>h)
  (by subst hI;exact ⟨hn.1,hRA,hB⟩)
  (fun s args a' s' go W=>I s W∧∃ gL R C xs A cap kk,sizesStep kk s R C xs = some (s',go)∧gL ≠ gO∧¬ okA gL∧gL ≠ W2.heap.size + 1∧bxr gL 30 [.int .i64 R,.int .i64 C,.slice A xs.length cap] W∧Kd.R k42 42 W (W2.heap.size + 2) (fun j=>W2.heap.size + 2 ≤ j) (.slice A xs.length cap) xs∧a' = { tmps:=#[.agg #[.int .i64 a0_0,.int .i64 a0_1,.slice A0_2 l0_2.length c0_2,.slice A0_3 l0_3.length c0_3,.slice A0_4 l0_4.length c0_4],.pointer (some ⟨gb,0,none⟩),.slice none 0 0,.bool false,.pointer (some ⟨gO,0,none⟩),.pointer (some ⟨gL,0,none⟩),.agg #[.int .i64 a0_0,.int .i64 a0_1,.slice A0_2 l0_2.length c0_2,.slice A0_3 l0_3.length c0_3,.slice A0_4 l0_4.length c0_4],.bool true,.bool false,.pointer (some ⟨gb,0,none⟩),.int .i64 a0_0,.pointer (some ⟨gb,1,none⟩),.int .i64 a0_1,.int .i64 (wrap64 (a0_0 * a0_1)),.int .i64 ji,.slice Ay y.length cy,.agg #[.int .i64 a0_0,.int .i64 a0_1,.slice A0_2 l0_2.length c0_2,.slice A0_3 l0_3.length c0_3,.slice A0_4 l0_4.length c0_4],.func (.func 181) #[] #[.pointer (some ⟨gc,0,none⟩)],.agg #[.int .i64 R,.int .i64 C,.slice A xs.length cap],undef,undef,undef,undef,undef,undef,undef,undef],defers:=[] }) ?hA ?assign ?body ?done ?stop
 case hq =>
  have key:∀ j,j < w.heap.size→W'.heap[j]? = w.heap[j]?:=fun j hj=>(hk.2 j (by have:=hb.size;omega) (fun e=>by
   rcases e with (e | e) | e
   · have:=hn.2;omega
   · have:=hok j e;omega
   · omega)).trans ((hb.block j (by omega)).trans (hB.block j hj))
  exact ⟨(hk.2 gc (by have:=hb.size;omega) (fun e=>by
   rcases e with (e | e) | e
   · exact hne e
   · exact (hok gc e).2.2.2 rfl
   · omega)).trans ((hb.block gc hlc).trans hgc),k42_heap.C key hr0_2,(Kd.heap_int .i64).C key hr0_3,(Kd.heap_int .i64).C key hr0_4⟩
 case hA =>
  rintro s args a' s' go _ W W' ⟨hs,gL,R,C,xs,A,cap,kk,h0,h1,h2,h3,h4,h5,h6⟩ hg
  exact ⟨hOw _ _ _ hs hg,gL,R,C,xs,A,cap,kk,h0,h1,h2,h3,bxr_grown h4 hg h3,Kd.R_step h5 (fun j hj hl=>hg.block j hl (by simp;omega)),h6⟩
 case assign =>
  rintro l s args W s' go K hz hi ⟨kk,R,C,xs,hst,A,cap,rfl,hR⟩ hK
  have S:=St.init (w:=W) dn
  refine reg_in rfl (by rintro ⟨_,_,h⟩;exact h) ?_
  rw [zip1]
  simp only [za_,zb_,zc_]
  go_wp2_with (first | ((with_reducible refine gd 5 rfl (L ?_));refine al 5 S zi30 ?_;clear S;intro gL W S) | ((with_reducible refine gs (t:=30) rfl (L ?_));(first | refine sb (.agg #[_,_,_]) S sz30 ?_ | refine ro (.agg #[_,_,_]) S sz30 ?_ (ho:=rfl) (hx:=rfl) (hy:=rfl));clear S;intro W S))
  have hg:=bx_of S
  refine hK _ _ (keeps_below S.below) (Kept.of_below S.below _) ⟨hOw.below hi S.below,gL,R,C,xs,A,cap,kk,hst,?_,?_,?_,hg.1,Kd.R_mono (Kd.R_bound (Kd.R_below hR S.below)) (fun j hj=>hj.2.1),rfl⟩
  · subst hI;obtain ⟨h1,_⟩:=hi;have:=blk_lt h1;omega
  · intro e;have:=hok gL e;omega
  · omega
 case body =>
  subst hI
  rintro l s args a' W s' go ⟨⟨h1,hRo,hB3⟩,gL,R,C,xs,A,cap,kk,hst,n1,n2,n3,hb,hR,rfl⟩
  obtain ⟨W_,hW_⟩:∃ W_,W_ = W:=⟨W,rfl⟩
  rw [← hW_] at h1 hRo hB3 hb hR ⊢
  clear hW_
  have S:=St_br (atI .i64) hB3 hn.2 h1 hRo (fun k hk=>(hok k hk).1) (dbx hb (fun e=>e.elim n1 n2) (dro at42 hR (fun j hj e=>by
   rcases e with e | e
   · omega
   · have:=hok j e;omega) dn))
  have F:=S.fc
  have hle:=(Kd.R_reads' hRo).1
  unfold sizesStep at hst
  obtain ⟨t,A32,hst⟩:=Option.bind_eq_some_iff.mp hst
  replace hst:=np_ hst;obtain ⟨c1,hst⟩:=hst
  replace hst:=np_ hst;obtain ⟨c2,hst⟩:=hst
  cases hst
  have c3:t < (y.length:Int):=by omega
  clear hle
  refine wpIn_block ?_
  refine rgI S [(1,0),(1,1),(2,2),(0,3),(2,4),(0,5),(0,6),(3,7)] [7] rfl (by rintro ⟨_,_,h⟩;exact h) (by kernel_rfl) (by kernel_rfl) (fun _ d _ _ _ h=>by cases d <;> exact h) ?_
  clear S F;intro W S;have S0:=S;have F:=S.fc
  repeat (first | (refine q0 (h:=?_)) | (refine q1 S0 (h:=?_)) | (refine q0n (h:=?_)) | (refine q1n S0 (h:=?_)) | (refine q2 S0 (h:=?_)))
  refine lk2 (by rfl) (by exact (Eq.refl true)) ?_;refine cl (some 21) Try.func127 (impl_partsOf.calls _ _ _ _ _ _ _ _ S.c S.n A32) (hargs:=by (simp only [ma_,mb_,mc_,F] <;> rfl)) (h:=?_);rintro e W ⟨rfl,hb⟩;refine ⟨_,rfl,?_⟩;replace S:=S.go hb;clear F hb;have F:=S.fc
  clear S0;have S0:=S;refine ⟨S0,?_⟩
  repeat (first | (refine q0 (h:=?_)) | (refine q1 S0 (h:=?_)) | (refine q0n (h:=?_)) | (refine q1n S0 (h:=?_)) | (refine q2 S0 (h:=?_)))
  refine lk3 (by rfl) (by exact (Eq.refl true)) ?_;refine ro (.int _ _) S sz3 ?_ (ho:=rfl) (hx:=rfl) (hy:=rfl);clear S F;intro W S;have F:=S.fc
  refine oz ?_
  obtain ⟨okx,hRx,_⟩:=row_all S 1 rfl
  exact ⟨(by first | rfl | trivial),⟨S.kept.1,fun i o _ ho hc=>(S.kept.2 i (Array.getElem?_eq_some_iff.1 ho).1 (fun e=>by
   rcases e with e | e
   · subst e;rw [show W_.heap[i]? = _ from h1] at ho;cases ho;cases hc
   · obtain ⟨_,_,_,_,_,cells,hc2⟩:=(Kd.R_bound hRo).1 i (hlo i e);rw [hc2] at ho;cases ho;cases hc)).trans ho⟩,S.kept.mono (fun _ h=>.inl h),bx_at S 0 rfl,R_okI hRx hol,S.below⟩
 case done =>
  subst hI
  rintro s' W hs ⟨h1,hRo,hB3⟩ hD
  cases hs
  have hcell:=(blk_cell h1 0).trans rfl
  go_wp2
  refine ⟨by simp,.inl ⟨_,_,rfl,run_takeDeferred hD,?_⟩⟩
  have hg9:=grownBy_putObj' W W2.heap.size (.deferred none)
  exact ⟨_,results_tmp2 rfl _ _ _,_,rfl,Kd.R_mono (Kd.R_step hRo (fun j hj hl=>hg9.block j hl (by have:=hok j hj;simp;omega))) (fun _ _=>trivial),hB3.grown hg9 hB3.size (fun k e=>by cases e;exact hsz)⟩
 case stop=>exact fun c s' W _ h _=>h.elim

/-! ### spec_SolutionsBySize: function 41 -/
def spec_SolutionsBySize.f (k:Nat) (a0_0:Int) (a0_1:Int) (l0_2:List (S42)) (l0_3:List Int) (l0_4:List Int):Option (List Int × Bool):=(spec_syGood.f k a0_0 a0_1 l0_2 l0_3 l0_4).bind fun t889=>(if t889 = true then ((spec_syCount.f k a0_0 a0_1 l0_2 l0_3 l0_4).bind fun bt890=>(some (bt890.1,true))) else (some (([]:List Int),false)))
theorem spec_SolutionsBySize.calls (k:Nat) (a0_0:Int) (a0_1:Int) (A0_2:Option Addr) (c0_2:Nat) (l0_2:List (S42)) (A0_3:Option Addr) (c0_3:Nat) (l0_3:List Int) (A0_4:Option Addr) (c0_4:Nat) (l0_4:List Int) (r1:List Int) (r2:Bool) (w:World) (hr0_2:Kd.C k42 w A0_2 l0_2.length l0_2) (hc0_2:l0_2.length ≤ c0_2) (hr0_3:Kd.C (Kd.int .i64) w A0_3 l0_3.length l0_3) (hc0_3:l0_3.length ≤ c0_3) (hr0_4:Kd.C (Kd.int .i64) w A0_4 l0_4.length l0_4) (hc0_4:l0_4.length ≤ c0_4) (h:spec_SolutionsBySize.f k a0_0 a0_1 l0_2 l0_3 l0_4 = some (r1,r2)) :
    Calls Try.prog 41 #[.agg #[.int .i64 a0_0,.int .i64 a0_1,.slice A0_2 l0_2.length c0_2,.slice A0_3 l0_3.length c0_3,.slice A0_4 l0_4.length c0_4]] w fun e w'=>∃ v0_:Value,e = .returned (.tuple #[v0_,.bool r2])∧Kd.R (Kd.int .i64) 3 w' w.heap.size (fun _=>True) v0_ r1∧Below w.heap.size w w':=by
 have S:=St.init (w:=w) (dc k42_heap at42 hr0_2 hc0_2 (dc (Kd.heap_int .i64) (atI .i64) hr0_3 hc0_3 (dc (Kd.heap_int .i64) (atI .i64) hr0_4 hc0_4 dn)))
 clear hr0_2 hc0_2 hr0_3 hc0_3 hr0_4 hc0_4
 have F:=S.fc
 have H:=h;clear h;unfold spec_SolutionsBySize.f at H
 replace H:=Option.bind_eq_some_iff.mp H;obtain ⟨t889,A2,H⟩:=H;(try dsimp only at H)
 replace H:=sp_ H;rcases H with ⟨c3,H⟩ | ⟨c3,H⟩
 · skip
   subst c3
   replace H:=Option.bind_eq_some_iff.mp H;obtain ⟨⟨t890,t893,t894⟩,A4,H⟩:=H;(try dsimp only at H)
   simp only [Option.some.injEq,Prod.mk.injEq] at H
   obtain ⟨rfl,rfl⟩:=H
   go_enter Try.func41,Try.ntmps41
   go_wp2_with (first | ((with_reducible refine gd 1 rfl (L ?_));refine bo 1 (.agg #[_,_,_,_,_]) S ?_;clear S F;intro gb888 W S;have F:=S.fc) | ((with_reducible refine gate_callee (f:=93) rfl (L ?_));refine cl (some 8) Try.func93 (spec_syGood.calls _ _ _ _ _ _ _ _ _ _ _ _ _ _ S.c S.n S.c S.n S.c S.n A2) (hargs:=by (simp only [ma_,mb_,mc_,F] <;> rfl)) (h:=?_);rintro e W ⟨rfl,hb⟩;refine ⟨_,rfl,?_⟩;replace S:=S.go hb;clear F hb;have F:=S.fc) | ((with_reducible refine gate_callee (f:=94) rfl (L ?_));refine cl (some 12) Try.func94 (spec_syCount.calls _ _ _ _ _ _ _ _ _ _ _ _ _ _ _ _ S.c S.n S.c S.n S.c S.n A4) (hargs:=by (simp only [ma_,mb_,mc_,F] <;> rfl)) (h:=?_);rintro e W ⟨v891,rfl,ho0,hb⟩;refine ⟨_,rfl,?_⟩;replace S:=S.got (atI .i64) hb ho0;obtain ⟨At890,ct890,rfl,S⟩:=S;clear F hb ho0;have F:=S.fc))
   go_ret2
   exact ⟨_,(by first | rfl | (simp [e0_,e1_] <;> rfl) | (simp [*,e0_,e1_] <;> rfl)),(by first | exact S.r | exact Kd.R_nil _ _ _ _ _),S.below⟩
 · skip
   replace c3:=cbf c3;subst c3
   simp only [Option.some.injEq,Prod.mk.injEq] at H
   obtain ⟨rfl,rfl⟩:=H
   go_enter Try.func41,Try.ntmps41
   go_wp2_with (first | ((with_reducible refine gd 1 rfl (L ?_));refine bo 1 (.agg #[_,_,_,_,_]) S ?_;clear S F;intro gb888 W S;have F:=S.fc) | ((with_reducible refine gate_callee (f:=93) rfl (L ?_));refine cl (some 8) Try.func93 (spec_syGood.calls _ _ _ _ _ _ _ _ _ _ _ _ _ _ S.c S.n S.c S.n S.c S.n A2) (hargs:=by (simp only [ma_,mb_,mc_,F] <;> rfl)) (h:=?_);rintro e W ⟨rfl,hb⟩;refine ⟨_,rfl,?_⟩;replace S:=S.go hb;clear F hb;have F:=S.fc))
   go_ret2
   exact ⟨_,(by first | rfl | (simp [e0_,e1_] <;> rfl) | (simp [*,e0_,e1_] <;> rfl)),(by first | exact S.r | exact Kd.R_nil _ _ _ _ _),S.below⟩

/-! ### impl_BoardsTried: function 42 -/
def impl_BoardsTried.f (k:Nat) (a0_0:Int) (a0_1:Int) (l0_2:List (S42)) (l0_3:List Int) (l0_4:List Int):Option (Int × Bool):=(impl_IsChallenge.f k a0_0 a0_1 l0_2 l0_3 l0_4).bind fun t896=>(if t896 = true then ((impl_boardsTried.f k a0_0 a0_1 l0_2 l0_3 l0_4).bind fun t897=>(some (t897,true))) else (some (0,false)))
theorem impl_BoardsTried.calls (k:Nat) (a0_0:Int) (a0_1:Int) (A0_2:Option Addr) (c0_2:Nat) (l0_2:List (S42)) (A0_3:Option Addr) (c0_3:Nat) (l0_3:List Int) (A0_4:Option Addr) (c0_4:Nat) (l0_4:List Int) (r1:Int) (r2:Bool) (w:World) (hr0_2:Kd.C k42 w A0_2 l0_2.length l0_2) (hc0_2:l0_2.length ≤ c0_2) (hr0_3:Kd.C (Kd.int .i64) w A0_3 l0_3.length l0_3) (hc0_3:l0_3.length ≤ c0_3) (hr0_4:Kd.C (Kd.int .i64) w A0_4 l0_4.length l0_4) (hc0_4:l0_4.length ≤ c0_4) (h:impl_BoardsTried.f k a0_0 a0_1 l0_2 l0_3 l0_4 = some (r1,r2)) :
    Calls Try.prog 42 #[.agg #[.int .i64 a0_0,.int .i64 a0_1,.slice A0_2 l0_2.length c0_2,.slice A0_3 l0_3.length c0_3,.slice A0_4 l0_4.length c0_4]] w fun e w'=>e = .returned (.tuple #[.int .i64 r1,.bool r2])∧Below w.heap.size w w':=by
 have S:=St.init (w:=w) (dc k42_heap at42 hr0_2 hc0_2 (dc (Kd.heap_int .i64) (atI .i64) hr0_3 hc0_3 (dc (Kd.heap_int .i64) (atI .i64) hr0_4 hc0_4 dn)))
 clear hr0_2 hc0_2 hr0_3 hc0_3 hr0_4 hc0_4
 have F:=S.fc
 have H:=h;clear h;unfold impl_BoardsTried.f at H
 replace H:=Option.bind_eq_some_iff.mp H;obtain ⟨t896,A2,H⟩:=H;(try dsimp only at H)
 replace H:=sp_ H;rcases H with ⟨c3,H⟩ | ⟨c3,H⟩
 · skip
   subst c3
   replace H:=Option.bind_eq_some_iff.mp H;obtain ⟨t897,A4,H⟩:=H;(try dsimp only at H)
   simp only [Option.some.injEq,Prod.mk.injEq] at H
   obtain ⟨rfl,rfl⟩:=H
   go_enter Try.func42,Try.ntmps42
   go_wp2_with (first | ((with_reducible refine gd 1 rfl (L ?_));refine bo 1 (.agg #[_,_,_,_,_]) S ?_;clear S F;intro gb895 W S;have F:=S.fc) | ((with_reducible refine gate_callee (f:=37) rfl (L ?_));refine cl (some 5) Try.func37 (impl_IsChallenge.calls _ _ _ _ _ _ _ _ _ _ _ _ _ _ S.c S.n S.c S.n S.c S.n A2) (hargs:=by (simp only [ma_,mb_,mc_,F] <;> rfl)) (h:=?_);rintro e W ⟨rfl,hb⟩;refine ⟨_,rfl,?_⟩;replace S:=S.go hb;clear F hb;have F:=S.fc) | ((with_reducible refine gate_callee (f:=128) rfl (L ?_));refine cl (some 8) Try.func128 (impl_boardsTried.calls _ _ _ _ _ _ _ _ _ _ _ _ _ _ S.c S.n S.c S.n S.c S.n A4) (hargs:=by (simp only [ma_,mb_,mc_,F] <;> rfl)) (h:=?_);rintro e W ⟨rfl,hb⟩;refine ⟨_,rfl,?_⟩;replace S:=S.go hb;clear F hb;have F:=S.fc))
   go_ret2
   exact ⟨(by first | rfl | (simp [e0_,e1_] <;> rfl) | (simp [*,e0_,e1_] <;> rfl)),S.below⟩
 · skip
   replace c3:=cbf c3;subst c3
   simp only [Option.some.injEq,Prod.mk.injEq] at H
   obtain ⟨rfl,rfl⟩:=H
   go_enter Try.func42,Try.ntmps42
   go_wp2_with (first | ((with_reducible refine gd 1 rfl (L ?_));refine bo 1 (.agg #[_,_,_,_,_]) S ?_;clear S F;intro gb895 W S;have F:=S.fc) | ((with_reducible refine gate_callee (f:=37) rfl (L ?_));refine cl (some 5) Try.func37 (impl_IsChallenge.calls _ _ _ _ _ _ _ _ _ _ _ _ _ _ S.c S.n S.c S.n S.c S.n A2) (hargs:=by (simp only [ma_,mb_,mc_,F] <;> rfl)) (h:=?_);rintro e W ⟨rfl,hb⟩;refine ⟨_,rfl,?_⟩;replace S:=S.go hb;clear F hb;have F:=S.fc))
   go_ret2
   exact ⟨(by first | rfl | (simp [e0_,e1_] <;> rfl) | (simp [*,e0_,e1_] <;> rfl)),S.below⟩

/-! ### spec_BoardsTried: function 43 -/
def spec_BoardsTried.f (k:Nat) (a0_0:Int) (a0_1:Int) (l0_2:List (S42)) (l0_3:List Int) (l0_4:List Int):Option (Int × Bool):=(spec_syGood.f k a0_0 a0_1 l0_2 l0_3 l0_4).bind fun t899=>(if t899 = true then ((spec_syTried.f k a0_0 a0_1 l0_2 l0_3 l0_4).bind fun t900=>(some (t900,true))) else (some (0,false)))
theorem spec_BoardsTried.calls (k:Nat) (a0_0:Int) (a0_1:Int) (A0_2:Option Addr) (c0_2:Nat) (l0_2:List (S42)) (A0_3:Option Addr) (c0_3:Nat) (l0_3:List Int) (A0_4:Option Addr) (c0_4:Nat) (l0_4:List Int) (r1:Int) (r2:Bool) (w:World) (hr0_2:Kd.C k42 w A0_2 l0_2.length l0_2) (hc0_2:l0_2.length ≤ c0_2) (hr0_3:Kd.C (Kd.int .i64) w A0_3 l0_3.length l0_3) (hc0_3:l0_3.length ≤ c0_3) (hr0_4:Kd.C (Kd.int .i64) w A0_4 l0_4.length l0_4) (hc0_4:l0_4.length ≤ c0_4) (h:spec_BoardsTried.f k a0_0 a0_1 l0_2 l0_3 l0_4 = some (r1,r2)) :
    Calls Try.prog 43 #[.agg #[.int .i64 a0_0,.int .i64 a0_1,.slice A0_2 l0_2.length c0_2,.slice A0_3 l0_3.length c0_3,.slice A0_4 l0_4.length c0_4]] w fun e w'=>e = .returned (.tuple #[.int .i64 r1,.bool r2])∧Below w.heap.size w w':=by
 have S:=St.init (w:=w) (dc k42_heap at42 hr0_2 hc0_2 (dc (Kd.heap_int .i64) (atI .i64) hr0_3 hc0_3 (dc (Kd.heap_int .i64) (atI .i64) hr0_4 hc0_4 dn)))
 clear hr0_2 hc0_2 hr0_3 hc0_3 hr0_4 hc0_4
 have F:=S.fc
 have H:=h;clear h;unfold spec_BoardsTried.f at H
 replace H:=Option.bind_eq_some_iff.mp H;obtain ⟨t899,A2,H⟩:=H;(try dsimp only at H)
 replace H:=sp_ H;rcases H with ⟨c3,H⟩ | ⟨c3,H⟩
 · skip
   subst c3
   replace H:=Option.bind_eq_some_iff.mp H;obtain ⟨t900,A4,H⟩:=H;(try dsimp only at H)
   simp only [Option.some.injEq,Prod.mk.injEq] at H
   obtain ⟨rfl,rfl⟩:=H
   go_enter Try.func43,Try.ntmps43
   go_wp2_with (first | ((with_reducible refine gd 1 rfl (L ?_));refine bo 1 (.agg #[_,_,_,_,_]) S ?_;clear S F;intro gb898 W S;have F:=S.fc) | ((with_reducible refine gate_callee (f:=93) rfl (L ?_));refine cl (some 5) Try.func93 (spec_syGood.calls _ _ _ _ _ _ _ _ _ _ _ _ _ _ S.c S.n S.c S.n S.c S.n A2) (hargs:=by (simp only [ma_,mb_,mc_,F] <;> rfl)) (h:=?_);rintro e W ⟨rfl,hb⟩;refine ⟨_,rfl,?_⟩;replace S:=S.go hb;clear F hb;have F:=S.fc) | ((with_reducible refine gate_callee (f:=129) rfl (L ?_));refine cl (some 8) Try.func129 (spec_syTried.calls _ _ _ _ _ _ _ _ _ _ _ _ _ _ S.c S.n S.c S.n S.c S.n A4) (hargs:=by (simp only [ma_,mb_,mc_,F] <;> rfl)) (h:=?_);rintro e W ⟨rfl,hb⟩;refine ⟨_,rfl,?_⟩;replace S:=S.go hb;clear F hb;have F:=S.fc))
   go_ret2
   exact ⟨(by first | rfl | (simp [e0_,e1_] <;> rfl) | (simp [*,e0_,e1_] <;> rfl)),S.below⟩
 · skip
   replace c3:=cbf c3;subst c3
   simp only [Option.some.injEq,Prod.mk.injEq] at H
   obtain ⟨rfl,rfl⟩:=H
   go_enter Try.func43,Try.ntmps43
   go_wp2_with (first | ((with_reducible refine gd 1 rfl (L ?_));refine bo 1 (.agg #[_,_,_,_,_]) S ?_;clear S F;intro gb898 W S;have F:=S.fc) | ((with_reducible refine gate_callee (f:=93) rfl (L ?_));refine cl (some 5) Try.func93 (spec_syGood.calls _ _ _ _ _ _ _ _ _ _ _ _ _ _ S.c S.n S.c S.n S.c S.n A2) (hargs:=by (simp only [ma_,mb_,mc_,F] <;> rfl)) (h:=?_);rintro e W ⟨rfl,hb⟩;refine ⟨_,rfl,?_⟩;replace S:=S.go hb;clear F hb;have F:=S.fc))
   go_ret2
   exact ⟨(by first | rfl | (simp [e0_,e1_] <;> rfl) | (simp [*,e0_,e1_] <;> rfl)),S.below⟩
end Go.Proofs.Ytnmffpfiichjgaa.F
