-- Printed by a program; checked here.
import Derived.Test.YtnmffpfiichjgaaF0
import Derived.Test.YtnmffpfiichjgaaF1
import Derived.Test.YtnmffpfiichjgaaF2
import Derived.Test.YtnmffpfiichjgaaF3
import Derived.Test.YtnmffpfiichjgaaF5
import Derived.Test.YtnmffpfiichjgaaF6
namespace Go.Proofs.Ytnmffpfiichjgaa.F
open Go.RowKit Go.Proofs.YtnmffpfiichjgaaV.PrintWords Go.Proofs.YtnmffpfiichjgaaV.PrintLast Go.Proofs.YtnmffpfiichjgaaV.PrintMore Go.Proofs.YtnmffpfiichjgaaV.Sl Go.Proofs.YtnmffpfiichjgaaV.Rf
attribute [local go_sem] max2_int min2_int max_two min_two max_three min_three max_four min_four ia_opt it_opt
attribute [local go_sem] Try.underlying4 Try.underlying23 Try.underlying24 Try.underlying25 Try.underlying27 Try.underlying30 Try.underlying42 Try.underlying68 Try.underlying80 Try.underlying111
set_option maxHeartbeats 8000000
set_option maxRecDepth 100000
set_option linter.unusedVariables false
set_option linter.unusedSimpArgs false

attribute [local go_sem high] eqA42
/-! ### spec_syKinds: function 137 -/
mutual
def spec_syKinds.l0:Nat→List (S42)→Int→Int→Int→Int→List (S42)→List Int→List Int→Option (Bool)
 | 0,_,_,_,_,_,_,_,_=>none
 | k + 1,x11,x12,x13,x1188000,x1188001,x1188002,x1188003,x1188004=>if x13 < x12 then (if 0 ≤ x13 then (if x13 < (x11.length:Int) then (spec_syKinds.l1 k (((rd_T42 x11 x13).f0) == 0) x11 x12 x13 x1188002 (x1188002.length:Int) 0 x1188000 x1188001 x1188002 x1188003 x1188004 ((rd_T42 x11 x13).f0) ((rd_T42 x11 x13).f1)) else (none)) else (none)) else (some true)
def spec_syKinds.l1:Nat→Bool→List (S42)→Int→Int→List (S42)→Int→Int→Int→Int→List (S42)→List Int→List Int→Int→Int→Option (Bool)
 | 0,_,_,_,_,_,_,_,_,_,_,_,_,_,_=>none
 | k + 1,x7,x11,x12,x13,x21,x22,x23,x1188000,x1188001,x1188002,x1188003,x1188004,x1191000,x1191001=>if x23 < x22 then (if 0 ≤ x23 then (if x23 < (x21.length:Int) then (if x7 = true then (spec_syKinds.l1 k true x11 x12 x13 x21 x22 (wrap64 (x23 + 1)) x1188000 x1188001 x1188002 x1188003 x1188004 x1191000 x1191001) else (spec_syKinds.l1 k (x1191000 == ((rd_T42 x21 x23).f0) && (x1191001 == ((rd_T42 x21 x23).f1))) x11 x12 x13 x21 x22 (wrap64 (x23 + 1)) x1188000 x1188001 x1188002 x1188003 x1188004 x1191000 x1191001)) else (none)) else (none)) else (if x7 = true then (spec_syKinds.l0 k x11 x12 (wrap64 (x13 + 1)) x1188000 x1188001 x1188002 x1188003 x1188004) else (some false))
end
def spec_syKinds.f (k:Nat) (a0_0:Int) (a0_1:Int) (l0_2:List (S42)) (l0_3:List Int) (l0_4:List Int) (a1_0:Int) (a1_1:Int) (l1_2:List (S42)):Option (Bool):=spec_syKinds.l0 k l1_2 (l1_2.length:Int) 0 a0_0 a0_1 l0_2 l0_3 l0_4
theorem spec_syKinds.calls (k:Nat) (a0_0:Int) (a0_1:Int) (A0_2:Option Addr) (c0_2:Nat) (l0_2:List (S42)) (A0_3:Option Addr) (c0_3:Nat) (l0_3:List Int) (A0_4:Option Addr) (c0_4:Nat) (l0_4:List Int) (a1_0:Int) (a1_1:Int) (A1_2:Option Addr) (c1_2:Nat) (l1_2:List (S42)) (r:Bool) (w:World) (hr0_2:Kd.C k42 w A0_2 l0_2.length l0_2) (hc0_2:l0_2.length ≤ c0_2) (hr0_3:Kd.C (Kd.int .i64) w A0_3 l0_3.length l0_3) (hc0_3:l0_3.length ≤ c0_3) (hr0_4:Kd.C (Kd.int .i64) w A0_4 l0_4.length l0_4) (hc0_4:l0_4.length ≤ c0_4) (hr1_2:Kd.C k42 w A1_2 l1_2.length l1_2) (hc1_2:l1_2.length ≤ c1_2) (h:spec_syKinds.f k a0_0 a0_1 l0_2 l0_3 l0_4 a1_0 a1_1 l1_2 = some r) :
  Calls Try.prog 137 #[.agg #[.int .i64 a0_0,.int .i64 a0_1,.slice A0_2 l0_2.length c0_2,.slice A0_3 l0_3.length c0_3,.slice A0_4 l0_4.length c0_4],.agg #[.int .i64 a1_0,.int .i64 a1_1,.slice A1_2 l1_2.length c1_2]] w fun e w'=>e = .returned (.bool r)∧Below w.heap.size w w':=by
 have HR0_2:=Aside0.mk hr0_2;have HC0_2:=Aside0.mk hc0_2;clear hr0_2 hc0_2;have HR0_3:=Aside0.mk hr0_3;have HC0_3:=Aside0.mk hc0_3;clear hr0_3 hc0_3;have HR0_4:=Aside0.mk hr0_4;have HC0_4:=Aside0.mk hc0_4;clear hr0_4 hc0_4;have HR1_2:=Aside0.mk hr1_2;have HC1_2:=Aside0.mk hc1_2;clear hr1_2 hc1_2;have HB:=Aside0.mk (Below.refl w.heap.size w);have H:(spec_syKinds.l0 k l1_2 (l1_2.length:Int) 0 a0_0 a0_1 l0_2 l0_3 l0_4) = some r:=h;clear h;have H':=Aside0.mk H;clear H;go_enter Try.func137,Try.ntmps137;go_wp2_with (first | ((with_reducible refine gate_dst (N:=2) rfl ?_);refine box_event ?hg (N:=2) ?hd (cs:=#[.int .i64 a0_0,.int .i64 a0_1,.slice A0_2 l0_2.length c0_2,.slice A0_3 l0_3.length c0_3,.slice A0_4 l0_4.length c0_4]) (t:=27) ?hr ?_;(case hd=>rfl);(case hg=>rfl);(case hr=>first | (go_simp;done) | (go_simp;rfl));intro gb1187 hg w3 hbox hb;refine ev4 (bs HB hb) (hbox) (gle hg HB) (gle hg HB) ?_;clear HB;intro HB BK1187 GW1187 GE1187;clear hb hbox hg) | ((with_reducible refine gate_dst (N:=3) rfl ?_);refine box_event ?hg (N:=3) ?hd (cs:=#[.int .i64 a1_0,.int .i64 a1_1,.slice A1_2 l1_2.length c1_2]) (t:=30) ?hr ?_;(case hd=>rfl);(case hg=>rfl);(case hr=>first | (go_simp;done) | (go_simp;rfl));intro gb1188 hg w4 hbox hb;refine ev7 (kb BK1187 hb) (bs HB hb) (hbox) (gle hg HB) (gle hg HB) (gnf hg BK1187) (gne hg BK1187) ?_;clear BK1187 HB;intro BK1187 HB BK1188 GW1188 GE1188 NB1187_1188 NB1188_1187;clear hb hbox hg;have hnb5:=NB1188_1187.out;have hnc5:=NB1187_1188.out;obtain ⟨hcz6_0,hcz6_1,hcz6_2,hfz6_0,hfz6_1,hfz6_2⟩:=bt3 BK1188))
 go_loopg [13] k (fun kq v13 w'=>∃ (x13_1:Int),v13 = .int .i64 x13_1∧Aside0 (spec_syKinds.l0 kq l1_2 (l1_2.length:Int) x13_1 a0_0 a0_1 l0_2 l0_3 l0_4 = some r)∧Aside0 (kq ≤ k)∧Aside0 (w'.heap[gb1187]? = some (.cells #[.int .i64 a0_0,.int .i64 a0_1,(.slice A0_2 l0_2.length c0_2),(.slice A0_3 l0_3.length c0_3),(.slice A0_4 l0_4.length c0_4)] 27 (0,0)))∧Aside0 (w'.heap[gb1188]? = some (.cells #[.int .i64 a1_0,.int .i64 a1_1,(.slice A1_2 l1_2.length c1_2)] 30 (0,0)))∧Aside0 (Below w.heap.size w w'))
 case atStart=>exact ⟨(0),(by first | rfl | (simp;done) | (simp [*];done)),H',⟨Nat.le_refl _⟩,⟨km_ BK1187⟩,⟨km_ BK1188⟩,⟨bm HB⟩⟩
 case round =>
  clear H';(try clear c1);(try clear p2);(try clear c5);(try clear hcz6_0 hcz6_1 hcz6_2 hfz6_0 hfz6_1 hfz6_2);obtain ⟨x13_1,rfl,HA,HK1,BK1187,BK1188,HB⟩:=hrel;cases gk with
  | zero=>exact absurd HA.out (by simp [spec_syKinds.l0])
  | succ k1 =>
   have H:=HA.out;clear HA;simp only [spec_syKinds.l0] at H;by_cases c7:x13_1 < (l1_2.length:Int)
   ·rw [if_pos c7] at H;have c7b0:decide (x13_1 < (l1_2.length:Int)) = true:=decide_eq_true c7;clear c7;replace H:=np_ H;obtain ⟨c8,H⟩:=H;have c8b0:decide (0 ≤ x13_1) = true:=decide_eq_true c8;clear c8;replace H:=np_ H;obtain ⟨c9,H⟩:=H;have c9b0:decide (x13_1 < (l1_2.length:Int)) = true:=decide_eq_true c9;clear c9;have H':=Aside0.mk H;clear H;have p1189:0 ≤ (x13_1:Int):=of_decide_eq_true (by first | (with_reducible assumption) | assumption);have q1189:x13_1 < (l1_2.length:Int):=of_decide_eq_true (by first | (with_reducible assumption) | assumption);obtain ⟨ad1189,e1189,hx1189_0,hx1189_1⟩:=at_T42 HR1_2.out x13_1 p1189 q1189;cases e1189;replace hx1189_0:=(HB.out.cell (World.block_lt_of_cell? w _ hx1189_0)).trans hx1189_0;replace hx1189_1:=(HB.out.cell (World.block_lt_of_cell? w _ hx1189_1)).trans hx1189_1;replace p1189:=eq_true p1189;replace q1189:=eq_true q1189;go_wp2_with (first | ((with_reducible refine gate_dst (N:=6) rfl ?_);refine box_event ?hg (N:=6) ?hd (cs:=#[.int .i64 0,.int .i64 0]) (t:=42) ?hr ?_;(case hd=>rfl);(case hg=>rfl);(case hr=>first | (go_simp;done) | (go_simp;rfl));intro gb1190 hg w10 hbox hb;refine ev10 (kb BK1187 hb) (kb BK1188 hb) (bs HB hb) (hbox) (gle hg HB) (gle hg HB) (gnf hg BK1187) (gne hg BK1187) (gnf hg BK1188) (gne hg BK1188) ?_;clear BK1187 BK1188 HB;intro BK1187 BK1188 HB BK1190 GW1190 GE1190 NB1187_1190 NB1190_1187 NB1188_1190 NB1190_1188;clear hb hbox hg;have hnb11:=NB1190_1187.out;have hnc11:=NB1187_1190.out;have hnb12:=NB1190_1188.out;have hnc12:=NB1188_1190.out;obtain ⟨hcz13_0,hcz13_1,hfz13_0,hfz13_1⟩:=bt2 BK1190;have hnb14:=NB1187_1188.out;have hnc14:=NB1188_1187.out;obtain ⟨hcz15_0,hcz15_1,hcz15_2,hcz15_3,hcz15_4,hfz15_0,hfz15_1,hfz15_2,hfz15_3,hfz15_4⟩:=bt5 BK1187))
    go_loopg [7,23] k1 (fun kq v7 v23 w'=>∃ (x7_2:Bool) (x23_2:Int),v7 = .bool x7_2∧v23 = .int .i64 x23_2∧Aside0 (spec_syKinds.l1 kq x7_2 l1_2 (l1_2.length:Int) x13_1 l0_2 (l0_2.length:Int) x23_2 a0_0 a0_1 l0_2 l0_3 l0_4 ((rd_T42 l1_2 x13_1).f0) ((rd_T42 l1_2 x13_1).f1) = some r)∧Aside0 (kq ≤ k1)∧Aside0 (w'.heap[gb1187]? = some (.cells #[.int .i64 a0_0,.int .i64 a0_1,(.slice A0_2 l0_2.length c0_2),(.slice A0_3 l0_3.length c0_3),(.slice A0_4 l0_4.length c0_4)] 27 (0,0)))∧Aside0 (w'.heap[gb1188]? = some (.cells #[.int .i64 a1_0,.int .i64 a1_1,(.slice (some ad1189) l1_2.length c1_2)] 30 (0,0)))∧Aside0 (w'.heap[gb1190]? = some (.cells #[.int .i64 ((rd_T42 l1_2 x13_1).f0),.int .i64 ((rd_T42 l1_2 x13_1).f1)] 42 (0,0)))∧Aside0 (Below w.heap.size w w'))
    case atStart=>exact ⟨((((rd_T42 l1_2 x13_1).f0) == 0)),(0),(by first | rfl | (simp;done) | (simp [*];done)),(by first | rfl | (simp;done) | (simp [*];done)),H',⟨Nat.le_refl _⟩,⟨fp BK1187 rfl⟩,⟨fp BK1188 rfl⟩,⟨fp BK1190 rfl⟩,⟨bm HB⟩⟩
    case round =>
     clear H';(try clear c1);(try clear p1);(try clear q1);(try clear hx1);(try clear p2);(try clear c5);(try clear c7);(try clear c7b0);(try clear c8);(try clear c8b0);(try clear c9);(try clear c9b0);(try clear c11);(try clear p11);(try clear q11);(try clear hx11);(try clear c12);(try clear c13);(try clear c14);(try clear hcz13_0 hcz13_1 hfz13_0 hfz13_1);(try clear hcz15_0 hcz15_1 hcz15_2 hcz15_3 hcz15_4 hfz15_0 hfz15_1 hfz15_2 hfz15_3 hfz15_4);(try clear hcz6_0 hcz6_1 hcz6_2 hfz6_0 hfz6_1 hfz6_2);(try clear hx1189_0);(try clear hx1189_1);(try clear p1189);(try clear p2);(try clear q1189);obtain ⟨x7_2,x23_2,rfl,rfl,HA,HK2,BK1187,BK1188,BK1190,HB⟩:=hrel;cases gk with
     | zero=>exact absurd HA.out (by simp [spec_syKinds.l1])
     | succ k2 =>
      have H:=HA.out;clear HA;simp only [spec_syKinds.l1] at H;by_cases c16:x23_2 < (l0_2.length:Int)
      ·rw [if_pos c16] at H;have c16b0:decide (x23_2 < (l0_2.length:Int)) = true:=decide_eq_true c16;clear c16;replace H:=np_ H;obtain ⟨c17,H⟩:=H;have c17b0:decide (0 ≤ x23_2) = true:=decide_eq_true c17;clear c17;replace H:=np_ H;obtain ⟨c18,H⟩:=H;have c18b0:decide (x23_2 < (l0_2.length:Int)) = true:=decide_eq_true c18;clear c18;by_cases c19:x7_2 = true
       ·subst c19;have H1:(spec_syKinds.l1 k2 true l1_2 (l1_2.length:Int) x13_1 l0_2 (l0_2.length:Int) (wrap64 (x23_2 + 1)) a0_0 a0_1 l0_2 l0_3 l0_4 ((rd_T42 l1_2 x13_1).f0) ((rd_T42 l1_2 x13_1).f1)) = some r:=by rw [if_pos rfl] at H;exact H
        clear H;have H:=H1;clear H1;have H':=Aside0.mk H;clear H;have p1191:0 ≤ (x23_2:Int):=of_decide_eq_true (by first | (with_reducible assumption) | assumption);have q1191:x23_2 < (l0_2.length:Int):=of_decide_eq_true (by first | (with_reducible assumption) | assumption);obtain ⟨ad1191,e1191,hx1191_0,hx1191_1⟩:=at_T42 HR0_2.out x23_2 p1191 q1191;cases e1191;replace hx1191_0:=(HB.out.cell (World.block_lt_of_cell? w _ hx1191_0)).trans hx1191_0;replace hx1191_1:=(HB.out.cell (World.block_lt_of_cell? w _ hx1191_1)).trans hx1191_1;replace p1191:=eq_true p1191;replace q1191:=eq_true q1191;go_wp2_with (first | ((with_reducible refine gate_dst (N:=9) rfl ?_);refine box_event ?hg (N:=9) ?hd (cs:=#[.int .i64 0,.int .i64 0]) (t:=42) ?hr ?_;(case hd=>rfl);(case hg=>rfl);(case hr=>first | (go_simp;done) | (go_simp;rfl));intro gb1192 hg w20 hbox hb;refine ev12 (kb BK1187 hb) (kb BK1188 hb) (kb BK1190 hb) (bs HB hb) (hbox) (gle hg HB) (gle hg HB) (gnf hg BK1187) (gne hg BK1187) (gnf hg BK1188) (gne hg BK1188) (gnf hg BK1190) ?_;intro n0_ n1_ n2_ n3_ n4_ n5_ n6_ n7_ n8_ n9_ n10_ n11_;refine ev1 (gne hg BK1190) ?_;intro n12_;clear BK1187 BK1188 BK1190 HB;revert n0_ n1_ n2_ n3_ n4_ n5_ n6_ n7_ n8_ n9_ n10_ n11_ n12_;intro BK1187 BK1188 BK1190 HB BK1192 GW1192 GE1192 NB1187_1192 NB1192_1187 NB1188_1192 NB1192_1188 NB1190_1192 NB1192_1190;clear hb hbox hg;have hnb21:=NB1192_1187.out;have hnc21:=NB1187_1192.out;have hnb22:=NB1192_1188.out;have hnc22:=NB1188_1192.out;have hnb23:=NB1192_1190.out;have hnc23:=NB1190_1192.out;obtain ⟨hcz24_0,hcz24_1,hfz24_0,hfz24_1⟩:=bt2 BK1192))
        go_roundg k2
        case measure=>have:=HK1.out;have:=HK2.out;omega
        case rel=>exact ⟨(true),(wrap64 (x23_2 + 1)),(by first | rfl | (simp;done) | (simp [*];done)),(by first | rfl | (simp;done) | (simp [*];done)),H',⟨by have:=HK1.out;have:=HK2.out;omega⟩,⟨fp BK1187 rfl⟩,⟨fp BK1188 rfl⟩,⟨fp BK1190 rfl⟩,⟨bm HB⟩⟩
       ·replace c19:=Bool.eq_false_iff.mpr c19;subst c19;have H1:(spec_syKinds.l1 k2 (((rd_T42 l1_2 x13_1).f0) == ((rd_T42 l0_2 x23_2).f0) && (((rd_T42 l1_2 x13_1).f1) == ((rd_T42 l0_2 x23_2).f1))) l1_2 (l1_2.length:Int) x13_1 l0_2 (l0_2.length:Int) (wrap64 (x23_2 + 1)) a0_0 a0_1 l0_2 l0_3 l0_4 ((rd_T42 l1_2 x13_1).f0) ((rd_T42 l1_2 x13_1).f1)) = some r:=by rw [if_neg (show ¬ (false = true) by decide)] at H;exact H
        clear H;have H:=H1;clear H1;have H':=Aside0.mk H;clear H;have p1191:0 ≤ (x23_2:Int):=of_decide_eq_true (by first | (with_reducible assumption) | assumption);have q1191:x23_2 < (l0_2.length:Int):=of_decide_eq_true (by first | (with_reducible assumption) | assumption);obtain ⟨ad1191,e1191,hx1191_0,hx1191_1⟩:=at_T42 HR0_2.out x23_2 p1191 q1191;cases e1191;replace hx1191_0:=(HB.out.cell (World.block_lt_of_cell? w _ hx1191_0)).trans hx1191_0;replace hx1191_1:=(HB.out.cell (World.block_lt_of_cell? w _ hx1191_1)).trans hx1191_1;replace p1191:=eq_true p1191;replace q1191:=eq_true q1191;go_wp2_with (first | ((with_reducible refine gate_dst (N:=9) rfl ?_);refine box_event ?hg (N:=9) ?hd (cs:=#[.int .i64 0,.int .i64 0]) (t:=42) ?hr ?_;(case hd=>rfl);(case hg=>rfl);(case hr=>first | (go_simp;done) | (go_simp;rfl));intro gb1192 hg w25 hbox hb;refine ev12 (kb BK1187 hb) (kb BK1188 hb) (kb BK1190 hb) (bs HB hb) (hbox) (gle hg HB) (gle hg HB) (gnf hg BK1187) (gne hg BK1187) (gnf hg BK1188) (gne hg BK1188) (gnf hg BK1190) ?_;intro n0_ n1_ n2_ n3_ n4_ n5_ n6_ n7_ n8_ n9_ n10_ n11_;refine ev1 (gne hg BK1190) ?_;intro n12_;clear BK1187 BK1188 BK1190 HB;revert n0_ n1_ n2_ n3_ n4_ n5_ n6_ n7_ n8_ n9_ n10_ n11_ n12_;intro BK1187 BK1188 BK1190 HB BK1192 GW1192 GE1192 NB1187_1192 NB1192_1187 NB1188_1192 NB1192_1188 NB1190_1192 NB1192_1190;clear hb hbox hg;have hnb26:=NB1192_1187.out;have hnc26:=NB1187_1192.out;have hnb27:=NB1192_1188.out;have hnc27:=NB1188_1192.out;have hnb28:=NB1192_1190.out;have hnc28:=NB1190_1192.out;obtain ⟨hcz29_0,hcz29_1,hfz29_0,hfz29_1⟩:=bt2 BK1192;have hnb30:=NB1190_1187.out;have hnc30:=NB1187_1190.out;have hnb31:=NB1190_1188.out;have hnc31:=NB1188_1190.out;obtain ⟨hcz32_0,hcz32_1,hfz32_0,hfz32_1⟩:=bt2 BK1190))
        go_roundg k2
        case measure=>have:=HK1.out;have:=HK2.out;omega
        case rel=>exact ⟨((((rd_T42 l1_2 x13_1).f0) == ((rd_T42 l0_2 x23_2).f0) && (((rd_T42 l1_2 x13_1).f1) == ((rd_T42 l0_2 x23_2).f1)))),(wrap64 (x23_2 + 1)),(by first | rfl | (simp;done) | (simp [*];done)),(by first | rfl | (simp;done) | (simp [*];done)),H',⟨by have:=HK1.out;have:=HK2.out;omega⟩,⟨fp BK1187 rfl⟩,⟨fp BK1188 rfl⟩,⟨fp BK1190 rfl⟩,⟨bm HB⟩⟩
      ·rw [if_neg c16] at H;have c16b0:decide (x23_2 < (l0_2.length:Int)) = false:=decide_eq_false c16;clear c16;by_cases c33:x7_2 = true
       ·subst c33;have H1:(spec_syKinds.l0 k2 l1_2 (l1_2.length:Int) (wrap64 (x13_1 + 1)) a0_0 a0_1 l0_2 l0_3 l0_4) = some r:=by rw [if_pos rfl] at H;exact H
        clear H;have H:=H1;clear H1;have H':=Aside0.mk H;clear H;go_wp2;go_roundg k2
        case measure=>have:=HK1.out;have:=HK2.out;omega
        case rel=>exact ⟨(wrap64 (x13_1 + 1)),(by first | rfl | (simp;done) | (simp [*];done)),H',⟨by have:=HK1.out;have:=HK2.out;omega⟩,⟨km_ BK1187⟩,⟨km_ BK1188⟩,⟨bm HB⟩⟩
       ·replace c33:=Bool.eq_false_iff.mpr c33;subst c33;have H1:(some false) = some r:=by rw [if_neg (show ¬ (false = true) by decide)] at H;exact H
        clear H;have H:=H1;clear H1;obtain rfl:=Option.some.inj H;go_wp2;go_ret;exact ⟨by first | rfl | (simp [e0_,e1_] <;> rfl) | (simp [*,e0_,e1_] <;> rfl),bm HB⟩
   ·rw [if_neg c7] at H;have c7b0:decide (x13_1 < (l1_2.length:Int)) = false:=decide_eq_false c7;clear c7;obtain rfl:=Option.some.inj H;go_wp2;go_ret;exact ⟨by first | rfl | (simp [e0_,e1_] <;> rfl) | (simp [*,e0_,e1_] <;> rfl),bm HB⟩

/-! ### spec_MeetsChallenge: function 53 -/
def spec_MeetsChallenge.j0:Nat→Bool→Int→Int→List (S42)→List Int→List Int→Int→Int→List (S42)→Option (Bool × Bool)
  | 0,_,_,_,_,_,_,_,_,_=>none
  | k + 1,x13,x1194000,x1194001,x1194002,x1194003,x1194004,x1195000,x1195001,x1195002=>if x13 = true then (some (false,false)) else (if x1195000 = x1194000 then (if x1195001 = x1194001 then ((spec_syKinds.f k x1194000 x1194001 x1194002 x1194003 x1194004 x1195000 x1195001 x1195002).bind fun t1197=>(if t1197 = true then ((spec_syMeets.f k x1194000 x1194001 x1194002 x1194003 x1194004 x1195000 x1195001 x1195002).bind fun t1198=>(some (t1198,true))) else (some (false,true)))) else (some (false,true))) else (some (false,true)))
def spec_MeetsChallenge.f (k:Nat) (a0_0:Int) (a0_1:Int) (l0_2:List (S42)) (l0_3:List Int) (l0_4:List Int) (a1_0:Int) (a1_1:Int) (l1_2:List (S42)):Option (Bool × Bool):=(spec_syGood.f k a0_0 a0_1 l0_2 l0_3 l0_4).bind fun t1195=>(if t1195 = true then ((spec_boGood.f k a1_0 a1_1 l1_2).bind fun t1196=>(spec_MeetsChallenge.j0 k (!t1196) a0_0 a0_1 l0_2 l0_3 l0_4 a1_0 a1_1 l1_2)) else (spec_MeetsChallenge.j0 k true a0_0 a0_1 l0_2 l0_3 l0_4 a1_0 a1_1 l1_2))
theorem spec_MeetsChallenge.calls (k:Nat) (a0_0:Int) (a0_1:Int) (A0_2:Option Addr) (c0_2:Nat) (l0_2:List (S42)) (A0_3:Option Addr) (c0_3:Nat) (l0_3:List Int) (A0_4:Option Addr) (c0_4:Nat) (l0_4:List Int) (a1_0:Int) (a1_1:Int) (A1_2:Option Addr) (c1_2:Nat) (l1_2:List (S42)) (r1:Bool) (r2:Bool) (w:World) (hr0_2:Kd.C k42 w A0_2 l0_2.length l0_2) (hc0_2:l0_2.length ≤ c0_2) (hr0_3:Kd.C (Kd.int .i64) w A0_3 l0_3.length l0_3) (hc0_3:l0_3.length ≤ c0_3) (hr0_4:Kd.C (Kd.int .i64) w A0_4 l0_4.length l0_4) (hc0_4:l0_4.length ≤ c0_4) (hr1_2:Kd.C k42 w A1_2 l1_2.length l1_2) (hc1_2:l1_2.length ≤ c1_2) (h:spec_MeetsChallenge.f k a0_0 a0_1 l0_2 l0_3 l0_4 a1_0 a1_1 l1_2 = some (r1,r2)) :
    Calls Try.prog 53 #[.agg #[.int .i64 a0_0,.int .i64 a0_1,.slice A0_2 l0_2.length c0_2,.slice A0_3 l0_3.length c0_3,.slice A0_4 l0_4.length c0_4],.agg #[.int .i64 a1_0,.int .i64 a1_1,.slice A1_2 l1_2.length c1_2]] w fun e w'=>e = .returned (.tuple #[.bool r1,.bool r2])∧Below w.heap.size w w':=by
 have S:=St.init (w:=w) (dc k42_heap at42 hr0_2 hc0_2 (dc (Kd.heap_int .i64) (atI .i64) hr0_3 hc0_3 (dc (Kd.heap_int .i64) (atI .i64) hr0_4 hc0_4 (dc k42_heap at42 hr1_2 hc1_2 dn))))
 clear hr0_2 hc0_2 hr0_3 hc0_3 hr0_4 hc0_4 hr1_2 hc1_2
 have F:=S.fc
 have H:=h;clear h;unfold spec_MeetsChallenge.f at H
 go_enter Try.func53,Try.ntmps53
 go_upto_region 1 with (first | ((with_reducible refine gd 2 rfl (L ?_));refine bo 2 (.agg #[_,_,_,_,_]) S ?_;clear S F;intro gb1193 W S;have F:=S.fc) | ((with_reducible refine gd 3 rfl (L ?_));refine bo 3 (.agg #[_,_,_]) S ?_;clear S F;intro gb1194 W S;have F:=S.fc))
 (try simp only [Act.put,List.setIfInBounds_toArray,List.set_cons_zero,List.set_cons_succ])
 go_cut [13] (fun v13 wc=>∃ (kq:Nat) (x13_2:Bool),v13 = .bool x13_2∧spec_MeetsChallenge.j0 kq x13_2 a0_0 a0_1 l0_2 l0_3 l0_4 a1_0 a1_1 l1_2 = some (r1,r2)∧kq ≤ k∧St w w (fun _=>False) [bor at42 A0_2 c0_2 l0_2,bor (atI .i64) A0_3 c0_3 l0_3,bor (atI .i64) A0_4 c0_4 l0_4,bor at42 A1_2 c1_2 l1_2] wc  [box gb1194 30 [.int .i64 a1_0,.int .i64 a1_1,.slice A1_2 l1_2.length c1_2],box gb1193 27 [.int .i64 a0_0,.int .i64 a0_1,.slice A0_2 l0_2.length c0_2,.slice A0_3 l0_3.length c0_3,.slice A0_4 l0_4.length c0_4]])
 case first =>
  replace H:=Option.bind_eq_some_iff.mp H;obtain ⟨t1195,A6,H⟩:=H;(try dsimp only at H)
  replace H:=sp_ H;rcases H with ⟨c7,H⟩ | ⟨c7,H⟩
  · skip
    subst c7
    replace H:=Option.bind_eq_some_iff.mp H;obtain ⟨t1196,A8,H⟩:=H;(try dsimp only at H)
    go_wp2_with (first | ((with_reducible refine gate_callee (f:=93) rfl (L ?_));refine cl (some 7) Try.func93 (spec_syGood.calls _ _ _ _ _ _ _ _ _ _ _ _ _ _ S.c S.n S.c S.n S.c S.n A6) (hargs:=by (simp only [ma_,mb_,mc_,F] <;> rfl)) (h:=?_);rintro e W ⟨rfl,hb⟩;refine ⟨_,rfl,?_⟩;replace S:=S.go hb;clear F hb;have F:=S.fc) | (go_at_call 132;(try simp only [F]);refine (spec_boGood.calls _ _ _ _ _ _ _ _ S.c S.n A8).mono ?_;rintro e W ⟨rfl,hb⟩;replace S:=S.go hb;clear F hb;have F:=S.fc))
    go_meet
    case rel=>exact ⟨_,(!t1196),(by first | rfl | (simp;done) | (simp [*];done) | (rw [w6_ (by omega) (by omega)])),H,(by first | omega | exact Nat.le_refl _),S⟩
  · skip
    replace c7:=cbf c7;subst c7
    go_wp2_with ((with_reducible refine gate_callee (f:=93) rfl (L ?_));refine cl (some 7) Try.func93 (spec_syGood.calls _ _ _ _ _ _ _ _ _ _ _ _ _ _ S.c S.n S.c S.n S.c S.n A6) (hargs:=by (simp only [ma_,mb_,mc_,F] <;> rfl)) (h:=?_);rintro e W ⟨rfl,hb⟩;refine ⟨_,rfl,?_⟩;replace S:=S.go hb;clear F hb;have F:=S.fc)
    go_meet
    case rel=>exact ⟨_,true,(by first | rfl | (simp;done) | (simp [*];done) | (rw [w6_ (by omega) (by omega)])),H,(by first | omega | exact Nat.le_refl _),S⟩
 case rest =>
  clear H S F
  obtain ⟨kq,x13_2,rfl,HA,HJ2,S⟩:=hcut
  have F:=S.fc
  cases kq with
  | zero=>exact absurd HA (by simp [spec_MeetsChallenge.j0])
  | succ kj2 =>
   have H:=HA;clear HA;simp only [spec_MeetsChallenge.j0,F] at H
   replace H:=sp_ H;rcases H with ⟨c17,H⟩ | ⟨c17,H⟩
   · skip
     subst c17
     simp only [Option.some.injEq,Prod.mk.injEq] at H
     obtain ⟨rfl,rfl⟩:=H
     go_wp2
     go_ret2
     exact ⟨(by first | rfl | (simp [e0_,e1_] <;> rfl) | (simp [*,e0_,e1_] <;> rfl)),S.below⟩
   · skip
     replace c17:=cbf c17;subst c17
     replace H:=sp_ H;rcases H with ⟨c18,H⟩ | ⟨c18,H⟩
     · skip
       replace c18:=ceq c18
       replace H:=sp_ H;rcases H with ⟨c19,H⟩ | ⟨c19,H⟩
       · skip
         replace c19:=ceq c19
         replace H:=Option.bind_eq_some_iff.mp H;obtain ⟨t1197,A20,H⟩:=H;(try dsimp only at H)
         replace H:=sp_ H;rcases H with ⟨c21,H⟩ | ⟨c21,H⟩
         · skip
           subst c21
           replace H:=Option.bind_eq_some_iff.mp H;obtain ⟨t1198,A22,H⟩:=H;(try dsimp only at H)
           simp only [Option.some.injEq,Prod.mk.injEq] at H
           obtain ⟨rfl,rfl⟩:=H
           go_wp2_with (first | (go_at_call 137;(try simp only [F]);refine (spec_syKinds.calls _ _ _ _ _ _ _ _ _ _ _ _ _ _ _ _ _ _ _ S.c S.n S.c S.n S.c S.n S.c S.n A20).mono ?_;rintro e W ⟨rfl,hb⟩;replace S:=S.go hb;clear F hb;have F:=S.fc) | (go_at_call 138;(try simp only [F]);refine (spec_syMeets.calls _ _ _ _ _ _ _ _ _ _ _ _ _ _ _ _ _ _ _ S.c S.n S.c S.n S.c S.n S.c S.n A22).mono ?_;rintro e W ⟨rfl,hb⟩;replace S:=S.go hb;clear F hb;have F:=S.fc))
           go_ret2
           exact ⟨(by first | rfl | (simp [e0_,e1_] <;> rfl) | (simp [*,e0_,e1_] <;> rfl)),S.below⟩
         · skip
           replace c21:=cbf c21;subst c21
           simp only [Option.some.injEq,Prod.mk.injEq] at H
           obtain ⟨rfl,rfl⟩:=H
           go_wp2_with (go_at_call 137;(try simp only [F]);refine (spec_syKinds.calls _ _ _ _ _ _ _ _ _ _ _ _ _ _ _ _ _ _ _ S.c S.n S.c S.n S.c S.n S.c S.n A20).mono ?_;rintro e W ⟨rfl,hb⟩;replace S:=S.go hb;clear F hb;have F:=S.fc)
           go_ret2
           exact ⟨(by first | rfl | (simp [e0_,e1_] <;> rfl) | (simp [*,e0_,e1_] <;> rfl)),S.below⟩
       · skip
         replace c19:=cne c19
         simp only [Option.some.injEq,Prod.mk.injEq] at H
         obtain ⟨rfl,rfl⟩:=H
         go_wp2
         go_ret2
         exact ⟨(by first | rfl | (simp [e0_,e1_] <;> rfl) | (simp [*,e0_,e1_] <;> rfl)),S.below⟩
     · skip
       replace c18:=cne c18
       simp only [Option.some.injEq,Prod.mk.injEq] at H
       obtain ⟨rfl,rfl⟩:=H
       go_wp2
       go_ret2
       exact ⟨(by first | rfl | (simp [e0_,e1_] <;> rfl) | (simp [*,e0_,e1_] <;> rfl)),S.below⟩

/-! ### spec_l1Most: function 115 -/
def spec_l1Most.f (a0:Int) (a1:Int):Option (Int):=if a0 > a1 then (some a0) else (some a1)
theorem spec_l1Most.calls (a0:Int) (a1:Int) (r:Int) (w:World) (h:spec_l1Most.f a0 a1 = some r) :
  Calls Try.prog 115 #[.int .i64 a0,.int .i64 a1] w fun e w'=>e = .returned (.int .i64 r)∧Drawn0 w w':=by
 have H:(if a0 > a1 then (some a0) else (some a1)) = some r:=h;clear h;by_cases c3:a0 > a1
 ·rw [if_pos c3] at H;have c3b0:decide (a1 < a0) = true:=decide_eq_true c3;clear c3;obtain rfl:=Option.some.inj H;go_enter Try.func115,Try.ntmps115;go_wp2;go_ret;exact ⟨by first | rfl | (simp;done) | (simp [*];done),by repeat (first | exact Drawn0.refl _ | apply Drawn0.step)⟩
 ·rw [if_neg c3] at H;have c3b0:decide (a1 < a0) = false:=decide_eq_false c3;clear c3;obtain rfl:=Option.some.inj H;go_enter Try.func115,Try.ntmps115;go_wp2;go_ret;exact ⟨by first | rfl | (simp;done) | (simp [*];done),by repeat (first | exact Drawn0.refl _ | apply Drawn0.step)⟩

/-! ### spec_l1Cur_columnOf: function 139 -/
def spec_l1Cur_columnOf.f (s0_0:List Int) (s0_1:Int) (s0_2:Int) (a1_0:Int) (a1_1:Int) (l1_2:List (S42)):Option (Int × Int × Int):=(spec_l1Most.f 1 a1_1).bind fun t1200=>((spec_l1Cur_pick.f s0_0 s0_1 s0_2 16).bind fun bt1201=>((spec_l1Cur_pick.f s0_0 bt1201.2.1 bt1201.2.2 (wrap64 (t1200 + (wrap64 (Int.tdiv bt1201.1 15))))).bind fun bt1204=>((spec_l1Cur_pick.f s0_0 bt1204.2.1 bt1204.2.2 24).bind fun bt1207=>(some (wrap64 (bt1204.1 - (wrap64 (Int.tdiv bt1207.1 23))),bt1207.2.1,bt1207.2.2)))))
theorem spec_l1Cur_columnOf.calls (g:Nat) (s0_0:List Int) (s0_1:Int) (s0_2:Int) (a1_0:Int) (a1_1:Int) (A1_2:Option Addr) (c1_2:Nat) (l1_2:List (S42)) (r1:Int) (r2:Int) (r3:Int) (As0_0:Option Addr) (cs0_0:Nat) (w0 w:World) (hI:w.heap[g]? = some (.cells #[.slice As0_0 s0_0.length cs0_0,.int .i64 s0_1,.int .u64 s0_2] 111 (0,0))) (hG:w0.heap.size ≤ g) (hS0_0:Kd.C (Kd.int .u8) w0 As0_0 s0_0.length s0_0) (hB:Below w0.heap.size w0 w) (hr1_2:∀ W_,Kept w W_ (fun k_=>k_ = g)→Kd.C k42 W_ A1_2 l1_2.length l1_2) (hc1_2:l1_2.length ≤ c1_2) (h:spec_l1Cur_columnOf.f s0_0 s0_1 s0_2 a1_0 a1_1 l1_2 = some (r1,r2,r3)) :
    Calls Try.prog 139 #[.pointer (some ⟨g,0,none⟩),.agg #[.int .i64 a1_0,.int .i64 a1_1,.slice A1_2 l1_2.length c1_2]] w fun e w'=>e = .returned (.int .i64 r1)∧w'.heap[g]? = some (.cells #[.slice As0_0 s0_0.length cs0_0,.int .i64 r2,.int .u64 r3] 111 (0,0))∧Below w0.heap.size w0 w'∧Kept w w' (fun k_=>k_ = g):=by
 have S:=St.boxed hB hG hI (dg (Kd.heap_int .u8) (atI .u8) hS0_0 hB hG (dk at42 hr1_2 hc1_2 dn))
 clear hI hB hr1_2 hc1_2
 have F:=S.fc
 have H:=h;clear h;unfold spec_l1Cur_columnOf.f at H
 replace H:=Option.bind_eq_some_iff.mp H;obtain ⟨t1200,A3,H⟩:=H;(try dsimp only at H)
 replace H:=Option.bind_eq_some_iff.mp H;obtain ⟨⟨t1201,t1202,t1203⟩,A4,H⟩:=H;(try dsimp only at H)
 replace H:=Option.bind_eq_some_iff.mp H;obtain ⟨⟨t1204,t1205,t1206⟩,A5,H⟩:=H;(try dsimp only at H)
 replace H:=Option.bind_eq_some_iff.mp H;obtain ⟨⟨t1207,t1208,t1209⟩,A6,H⟩:=H;(try dsimp only at H)
 simp only [Option.some.injEq,Prod.mk.injEq] at H
 obtain ⟨rfl,rfl,rfl⟩:=H
 go_enter Try.func139,Try.ntmps139
 go_wp2_with (first | ((with_reducible refine gd 3 rfl (L ?_));refine bo 3 (.agg #[_,_,_]) S ?_;clear S F;intro gb1199 W S;have F:=S.fc) | ((with_reducible refine gate_callee (f:=115) rfl (L ?_));refine cl (some 8) Try.func115 (spec_l1Most.calls _ _ _ _ A3) (hargs:=by (simp only [ma_,mb_,mc_,F] <;> rfl)) (h:=?_);rintro e W ⟨rfl,hb⟩;refine ⟨_,rfl,?_⟩;replace S:=S.gw hb;clear F hb;have F:=S.fc) | ((with_reducible refine gate_callee (f:=114) rfl (L ?_));refine cl (some 10) Try.func114 (spec_l1Cur_pick.calls g _ _ _ _ _ _ _ _ _ _ _ S.hb (S.hge g) hS0_0 S.below A4) (hargs:=by (simp only [ma_,mb_,mc_,F] <;> rfl)) (h:=?_);rintro e W ⟨rfl,hi,hb,hk⟩;refine ⟨_,rfl,?_⟩;obtain ⟨W_,hs_,hm_,S⟩:=S.mid g hi hb hk;replace S:=S.go hm_;clear F hi hb hk hs_ hm_ ;have F:=S.fc) | ((with_reducible refine gate_callee (f:=114) rfl (L ?_));refine cl (some 13) Try.func114 (spec_l1Cur_pick.calls g _ _ _ _ _ _ _ _ _ _ _ S.hb (S.hge g) hS0_0 S.below A5) (hargs:=by (simp only [ma_,mb_,mc_,F] <;> rfl)) (h:=?_);rintro e W ⟨rfl,hi,hb,hk⟩;refine ⟨_,rfl,?_⟩;obtain ⟨W_,hs_,hm_,S⟩:=S.mid g hi hb hk;replace S:=S.go hm_;clear F hi hb hk hs_ hm_ ;have F:=S.fc) | ((with_reducible refine gate_callee (f:=114) rfl (L ?_));refine cl (some 15) Try.func114 (spec_l1Cur_pick.calls g _ _ _ _ _ _ _ _ _ _ _ S.hb (S.hge g) hS0_0 S.below A6) (hargs:=by (simp only [ma_,mb_,mc_,F] <;> rfl)) (h:=?_);rintro e W ⟨rfl,hi,hb,hk⟩;refine ⟨_,rfl,?_⟩;obtain ⟨W_,hs_,hm_,S⟩:=S.mid g hi hb hk;replace S:=S.go hm_;clear F hi hb hk hs_ hm_ ;have F:=S.fc))
 go_ret
 exact ⟨(by first | rfl | (simp;done) | first | rfl | (simp [e0_,e1_] <;> rfl) | (simp [*,e0_,e1_] <;> rfl)),(by first | exact S.hb | simpa using S.hb (g:=g)),S.below,S.kept⟩

/-! ### spec_DrawEndNumber: function 54 -/
def spec_DrawEndNumber.f (k:Nat) (l0:List Int):Option (Int × Int × (List (S42)) × Int):=(spec_l1Cur_anyBoard.f k l0 0 0).bind fun bt1212=>((spec_l1Cur_columnOf.f l0 bt1212.2.2.2.1 bt1212.2.2.2.2 bt1212.1 bt1212.2.1 bt1212.2.2.1).bind fun bt1220=>(some (bt1212.1,bt1212.2.1,bt1212.2.2.1,bt1220.1)))
theorem spec_DrawEndNumber.calls (k:Nat) (A0:Option Addr) (c0:Nat) (l0:List Int) (r1:Int) (r2:Int) (r3:List (S42)) (r4:Int) (w:World) (hr0:Kd.C (Kd.int .u8) w A0 l0.length l0) (hc0:l0.length ≤ c0) (h:spec_DrawEndNumber.f k l0 = some (r1,r2,r3,r4)) :
    Calls Try.prog 54 #[.slice A0 l0.length c0] w fun e w'=>∃ v2_:Value,e = .returned (.tuple #[.agg #[.int .i64 r1,.int .i64 r2,v2_],.int .i64 r4])∧Kd.Q k42 42 w' w.heap.size (fun _=>True) v2_ r3∧Below w.heap.size w w':=by
 have S:=St.init (w:=w) (dc (Kd.heap_int .u8) (atI .u8) hr0 hc0 dn)
 clear hc0
 have F:=S.fc
 have H:=h;clear h;unfold spec_DrawEndNumber.f at H
 replace H:=Option.bind_eq_some_iff.mp H;obtain ⟨⟨t1212,t1213,t1214,t1217,t1218⟩,A2,H⟩:=H;(try dsimp only at H)
 replace H:=Option.bind_eq_some_iff.mp H;obtain ⟨⟨t1220,t1221,t1222⟩,A3,H⟩:=H;(try dsimp only at H)
 simp only [Option.some.injEq,Prod.mk.injEq] at H
 obtain ⟨rfl,rfl,rfl,rfl⟩:=H
 go_enter Try.func54,Try.ntmps54
 go_wp2_with (first | ((with_reducible refine gd 2 rfl (L ?_));refine al 2 S zi30 ?_;clear S F;intro gb1210 W S;have F:=S.fc) | ((with_reducible refine gd 8 rfl (L ?_));refine bo 8 (.agg #[_,_,_]) S ?_;clear S F;intro gb1211 W S;have F:=S.fc) | ((with_reducible refine gate_callee (f:=136) rfl (L ?_));refine cl (some 10) Try.func136 (spec_l1Cur_anyBoard.calls _ gb1211 _ _ _ _ _ _ _ _ _ _ _ _ S.hb (S.hge gb1211) hr0 S.below A2) (hargs:=by (simp only [ma_,mb_,mc_,F] <;> rfl)) (h:=?_);rintro e W ⟨v1215,rfl,ho0,hi,hb,hk⟩;refine ⟨_,rfl,?_⟩;obtain ⟨W_,hs_,hm_,S⟩:=S.mid gb1211 hi hb hk;rw [← hs_] at ho0;replace S:=S.gotq at42 hm_ ho0;obtain ⟨At1214,ct1214,rfl,S⟩:=S;clear F hi hb hk hs_ hm_ ho0;have F:=S.fc) | ((with_reducible refine gd 5 rfl (L ?_));refine al 5 S zi30 ?_;clear S F;intro gb1219 W S;have F:=S.fc) | ((with_reducible refine gs (t:=30) rfl (L ?_));refine sb (.agg #[_,_,_]) S sz30 ?_;(clear S F;intro W S;have F:=S.fc)))
 refine rgP S (fun _ S=>(S.pm [0,1])) [(0,1),(1,0),(1,2),(2,3),(2,4),(0,5)] [] (by kernel_rfl) (by kernel_rfl) (fun _ d _ _ _ h=>by cases d <;> exact h) ?_;clear S F;intro W S;have S0:=(S.pm [0,1]);have F:=S.fc
 repeat (first | (refine q0 (h:=?_)) | (refine q1 S0 (h:=?_)))
 refine lk2 (by rfl) (by exact (Eq.refl true)) ?_;refine cl (some 14) Try.func139 (spec_l1Cur_columnOf.calls gb1211 _ _ _ _ _ _ _ _ _ _ _ _ _ _ _ S.hb (S.hge gb1211) hr0 S.below S.cg S.n A3) (hargs:=by (simp only [ma_,mb_,mc_,F] <;> rfl)) (h:=?_);rintro e W ⟨rfl,hi,hb,hk⟩;refine ⟨_,rfl,?_⟩;obtain ⟨W_,hs_,hm_,S⟩:=S.mid gb1211 hi hb hk;replace S:=S.go hm_;clear F hi hb hk hs_ hm_ ;have F:=S.fc
 clear S0;have S0:=(S.pm [0,1]);refine ⟨S0,?_⟩
 refine lk2 (by rfl) (by exact (Eq.refl true)) ?_;(first | refine sb (.agg #[_,_,_]) S sz30 ?_ | refine ro (.agg #[_,_,_]) S sz30 ?_ (ho:=rfl) (hx:=rfl) (hy:=rfl));(clear S F;intro W S;have F:=S.fc)
 clear S0;have S0:=(S.pm [0,1]);refine ⟨S0,?_⟩
 repeat ((refine q0 (h:=?_)))
 refine oz ?_
 try clear S0
 go_wp2
 refine bodyPost_ret (results_ct rfl _ _ gb1210 30 #[.int .i64 t1212,.int .i64 t1213,.slice At1214 t1214.length ct1214] (0,0) _ rfl S.hb Try.underlying30 rfl (by kernel_rfl)) rfl ?_
 exact ⟨_,(by first | rfl | (simp [e0_,e1_] <;> rfl) | (simp [*,e0_,e1_] <;> rfl)),(by first | exact S.q | exact Kd.Q_of_R S.r | exact Kd.Q_nil _ _ _ _ _),S.below⟩

/-! ### spec_flHas: function 140 -/
def spec_flHas.f (k:Nat) (a0_0:Int) (a0_1:Int) (l0_2:List (S42)) (a1:Int):Option (Bool):=(spec_boGood.f k a0_0 a0_1 l0_2).bind fun t1224=>(if t1224 = true then ((spec_l1In.f a1 0 (wrap64 (a0_1 - 1))).bind fun t1225=>(some t1225)) else (some false))
theorem spec_flHas.calls (k:Nat) (a0_0:Int) (a0_1:Int) (A0_2:Option Addr) (c0_2:Nat) (l0_2:List (S42)) (a1:Int) (r:Bool) (w:World) (hr0_2:Kd.C k42 w A0_2 l0_2.length l0_2) (hc0_2:l0_2.length ≤ c0_2) (h:spec_flHas.f k a0_0 a0_1 l0_2 a1 = some r) :
    Calls Try.prog 140 #[.agg #[.int .i64 a0_0,.int .i64 a0_1,.slice A0_2 l0_2.length c0_2],.int .i64 a1] w fun e w'=>e = .returned (.bool r)∧Below w.heap.size w w':=by
 have S:=St.init (w:=w) (dc k42_heap at42 hr0_2 hc0_2 dn)
 clear hr0_2 hc0_2
 have F:=S.fc
 have H:=h;clear h;unfold spec_flHas.f at H
 replace H:=Option.bind_eq_some_iff.mp H;obtain ⟨t1224,A3,H⟩:=H;(try dsimp only at H)
 replace H:=sp_ H;rcases H with ⟨c4,H⟩ | ⟨c4,H⟩
 · skip
   subst c4
   replace H:=Option.bind_eq_some_iff.mp H;obtain ⟨t1225,A5,H⟩:=H;(try dsimp only at H)
   obtain rfl:=Option.some.inj H
   go_enter Try.func140,Try.ntmps140
   go_wp2_with (first | ((with_reducible refine gd 2 rfl (L ?_));refine bo 2 (.agg #[_,_,_]) S ?_;clear S F;intro gb1223 W S;have F:=S.fc) | ((with_reducible refine gate_callee (f:=132) rfl (L ?_));refine cl (some 6) Try.func132 (spec_boGood.calls _ _ _ _ _ _ _ _ S.c S.n A3) (hargs:=by (simp only [ma_,mb_,mc_,F] <;> rfl)) (h:=?_);rintro e W ⟨rfl,hb⟩;refine ⟨_,rfl,?_⟩;replace S:=S.go hb;clear F hb;have F:=S.fc) | (go_at_call 116;(try simp only [F]);refine (spec_l1In.calls _ _ _ _ _ A5).mono ?_;rintro e W ⟨rfl,hb⟩;replace S:=S.gw hb;clear F hb;have F:=S.fc))
   go_ret
   exact ⟨(by first | rfl | (simp [e0_,e1_] <;> rfl) | (simp [*,e0_,e1_] <;> rfl)),S.below⟩
 · skip
   replace c4:=cbf c4;subst c4
   obtain rfl:=Option.some.inj H
   go_enter Try.func140,Try.ntmps140
   go_wp2_with (first | ((with_reducible refine gd 2 rfl (L ?_));refine bo 2 (.agg #[_,_,_]) S ?_;clear S F;intro gb1223 W S;have F:=S.fc) | ((with_reducible refine gate_callee (f:=132) rfl (L ?_));refine cl (some 6) Try.func132 (spec_boGood.calls _ _ _ _ _ _ _ _ S.c S.n A3) (hargs:=by (simp only [ma_,mb_,mc_,F] <;> rfl)) (h:=?_);rintro e W ⟨rfl,hb⟩;refine ⟨_,rfl,?_⟩;replace S:=S.go hb;clear F hb;have F:=S.fc))
   go_ret
   exact ⟨(by first | rfl | (simp [e0_,e1_] <;> rfl) | (simp [*,e0_,e1_] <;> rfl)),S.below⟩

/-! ### spec_EndNumber: function 55 -/
def spec_EndNumber.f (k:Nat) (a0_0:Int) (a0_1:Int) (l0_2:List (S42)) (a1:Int):Option (Int × Bool):=(spec_flHas.f k a0_0 a0_1 l0_2 a1).bind fun t1227=>(if t1227 = true then ((spec_flRun.f k a0_0 a0_1 l0_2 a1).bind fun bt1228=>((spec_syEnd.f a0_0 a0_1 l0_2 bt1228.1 bt1228.2.1 bt1228.2.2.1).bind fun t1238=>(some (t1238,true)))) else (some (0,false)))
theorem spec_EndNumber.calls (k:Nat) (a0_0:Int) (a0_1:Int) (A0_2:Option Addr) (c0_2:Nat) (l0_2:List (S42)) (a1:Int) (r1:Int) (r2:Bool) (w:World) (hr0_2:Kd.C k42 w A0_2 l0_2.length l0_2) (hc0_2:l0_2.length ≤ c0_2) (h:spec_EndNumber.f k a0_0 a0_1 l0_2 a1 = some (r1,r2)) :
    Calls Try.prog 55 #[.agg #[.int .i64 a0_0,.int .i64 a0_1,.slice A0_2 l0_2.length c0_2],.int .i64 a1] w fun e w'=>e = .returned (.tuple #[.int .i64 r1,.bool r2])∧Below w.heap.size w w':=by
 have S:=St.init (w:=w) (dc k42_heap at42 hr0_2 hc0_2 dn)
 clear hr0_2 hc0_2
 have F:=S.fc
 have H:=h;clear h;unfold spec_EndNumber.f at H
 replace H:=Option.bind_eq_some_iff.mp H;obtain ⟨t1227,A3,H⟩:=H;(try dsimp only at H)
 replace H:=sp_ H;rcases H with ⟨c4,H⟩ | ⟨c4,H⟩
 · skip
   subst c4
   replace H:=Option.bind_eq_some_iff.mp H;obtain ⟨⟨t1228,t1229,t1230,t1231,t1232,t1233⟩,A5,H⟩:=H;(try dsimp only at H)
   replace H:=Option.bind_eq_some_iff.mp H;obtain ⟨t1238,A6,H⟩:=H;(try dsimp only at H)
   simp only [Option.some.injEq,Prod.mk.injEq] at H
   obtain ⟨rfl,rfl⟩:=H
   go_enter Try.func55,Try.ntmps55
   go_wp2_with (first | ((with_reducible refine gd 2 rfl (L ?_));refine bo 2 (.agg #[_,_,_]) S ?_;clear S F;intro gb1226 W S;have F:=S.fc) | ((with_reducible refine gate_callee (f:=140) rfl (L ?_));refine cl (some 10) Try.func140 (spec_flHas.calls _ _ _ _ _ _ _ _ _ S.c S.n A3) (hargs:=by (simp only [ma_,mb_,mc_,F] <;> rfl)) (h:=?_);rintro e W ⟨rfl,hb⟩;refine ⟨_,rfl,?_⟩;replace S:=S.go hb;clear F hb;have F:=S.fc) | ((with_reducible refine gate_callee (f:=141) rfl (L ?_));refine cl (some 15) Try.func141 (spec_flRun.calls _ _ _ _ _ _ _ _ _ _ _ _ _ _ S.c S.n A5) (hargs:=by (simp only [ma_,mb_,mc_,F] <;> rfl)) (h:=?_);rintro e W ⟨v1234,rfl,ho0,hb⟩;refine ⟨_,rfl,?_⟩;replace S:=S.got at42 hb ho0;obtain ⟨At1233,ct1233,rfl,S⟩:=S;clear F hb ho0;have F:=S.fc) | ((with_reducible refine gd 6 rfl (L ?_));refine al 6 S zi80 ?_;clear S F;intro gb1236 W S;have F:=S.fc) | ((with_reducible refine gd 7 rfl (L ?_));refine al 7 S zi30 ?_;clear S F;intro gb1237 W S;have F:=S.fc) | ((with_reducible refine gate_callee (f:=142) rfl (L ?_));refine cl (some 20) Try.func142 (spec_syEnd.calls _ _ _ _ _ _ _ _ _ _ S.c S.n A6) (hargs:=by (simp only [ma_,mb_,mc_,F] <;> rfl)) (h:=?_);rintro e W ⟨rfl,hb⟩;refine ⟨_,rfl,?_⟩;replace S:=S.go hb;clear F hb;have F:=S.fc) | ((with_reducible refine gs (t:=30) rfl (L ?_));refine sb (.agg #[_,_,_]) S sz30 ?_;(clear S F;intro W S;have F:=S.fc)) | ((with_reducible refine gs (t:=80) rfl (L ?_));refine sb (.agg #[_,_,_]) S sz80 ?_;(clear S F;intro W S;have F:=S.fc)))
   go_ret2
   exact ⟨(by first | rfl | (simp [e0_,e1_] <;> rfl) | (simp [*,e0_,e1_] <;> rfl)),S.below⟩
 · skip
   replace c4:=cbf c4;subst c4
   simp only [Option.some.injEq,Prod.mk.injEq] at H
   obtain ⟨rfl,rfl⟩:=H
   go_enter Try.func55,Try.ntmps55
   go_wp2_with (first | ((with_reducible refine gd 2 rfl (L ?_));refine bo 2 (.agg #[_,_,_]) S ?_;clear S F;intro gb1226 W S;have F:=S.fc) | ((with_reducible refine gate_callee (f:=140) rfl (L ?_));refine cl (some 10) Try.func140 (spec_flHas.calls _ _ _ _ _ _ _ _ _ S.c S.n A3) (hargs:=by (simp only [ma_,mb_,mc_,F] <;> rfl)) (h:=?_);rintro e W ⟨rfl,hb⟩;refine ⟨_,rfl,?_⟩;replace S:=S.go hb;clear F hb;have F:=S.fc))
   go_ret2
   exact ⟨(by first | rfl | (simp [e0_,e1_] <;> rfl) | (simp [*,e0_,e1_] <;> rfl)),S.below⟩

/-! ### laws_FnSearch: function 5 -/
mutual
def laws_FnSearch.j0:Nat→List Int→Bool→List Int→Int→Int→Bool→Int→Bool→Int→Int→List (S42)→List Int→List Int→Int→Int→List (S42)→Int→Int→List (S42)→Option (Bool)
  | 0,_,_,_,_,_,_,_,_,_,_,_,_,_,_,_,_,_,_,_=>none
  | k + 1,x1,x7,x8,x12,x16,x19,x24,x180,x1252000,x1252001,x1252002,x1252003,x1252004,x1275000,x1275001,x1275002,x1282000,x1282001,x1282002=>if x180 = true then (some false) else (if x7 = true then ((laws_pSum.f k x8).bind fun t1289=>(if t1289 = x12 then (if x12 > x16 then (laws_FnSearch.j1 k x1 x8 x19 x24 true x1252000 x1252001 x1252002 x1252003 x1252004 x1275000 x1275001 x1275002 x1282000 x1282001 x1282002) else (laws_FnSearch.j1 k x1 x8 x19 x24 ((x8.length:Int) != (wrap64 ((wrap64 (x1252000 * x1252001)) + 1))) x1252000 x1252001 x1252002 x1252003 x1252004 x1275000 x1275001 x1275002 x1282000 x1282001 x1282002)) else (laws_FnSearch.j1 k x1 x8 x19 x24 true x1252000 x1252001 x1252002 x1252003 x1252004 x1275000 x1275001 x1275002 x1282000 x1282001 x1282002))) else (laws_FnSearch.j1 k x1 x8 x19 x24 false x1252000 x1252001 x1252002 x1252003 x1252004 x1275000 x1275001 x1275002 x1282000 x1282001 x1282002))
def laws_FnSearch.j1:Nat→List Int→List Int→Bool→Int→Bool→Int→Int→List (S42)→List Int→List Int→Int→Int→List (S42)→Int→Int→List (S42)→Option (Bool)
  | 0,_,_,_,_,_,_,_,_,_,_,_,_,_,_,_,_=>none
  | k + 1,x1,x8,x19,x24,x203,x1252000,x1252001,x1252002,x1252003,x1252004,x1275000,x1275001,x1275002,x1282000,x1282001,x1282002=>if x203 = true then (some false) else (if x19 = true then ((impl_MeetsChallenge.f k x1252000 x1252001 x1252002 x1252003 x1252004 x1275000 x1275001 x1275002).bind fun bt1290=>((impl_CountParts.f k x1275000 x1275001 x1275002).bind fun bt1292=>((spec_CountParts.f k x1282000 x1282001 x1282002).bind fun bt1296=>(if bt1290.2 = true then (if bt1290.1 = true then (if bt1292.2 = true then (if bt1296.2 = true then ((laws_sameInts.f k bt1292.1 bt1296.1).bind fun t1300=>(if t1300 = true then (if 0 < (bt1296.1.length:Int) then (if (wrap64 ((x1282002.length:Int) - (rd bt1296.1 0))) = x24 then (if x24 ≥ (x8.length:Int) then (laws_FnSearch.j2 k x1 true x1252000 x1252001 x1252002 x1252003 x1252004 x1275000 x1275001 x1275002) else (if 0 ≤ x24 then (if x24 < (x8.length:Int) then (if (rd x8 x24) < 1 then (laws_FnSearch.j2 k x1 true x1252000 x1252001 x1252002 x1252003 x1252004 x1275000 x1275001 x1275002) else (if x24 ≤ (x8.length:Int) then ((laws_pSum.f k (x8.take (x24:Int).toNat)).bind fun t1307=>(laws_FnSearch.j2 k x1 (t1307 != 0) x1252000 x1252001 x1252002 x1252003 x1252004 x1275000 x1275001 x1275002)) else (none))) else (none)) else (none))) else (laws_FnSearch.j2 k x1 true x1252000 x1252001 x1252002 x1252003 x1252004 x1275000 x1275001 x1275002)) else (none)) else (laws_FnSearch.j2 k x1 true x1252000 x1252001 x1252002 x1252003 x1252004 x1275000 x1275001 x1275002))) else (laws_FnSearch.j2 k x1 true x1252000 x1252001 x1252002 x1252003 x1252004 x1275000 x1275001 x1275002)) else (laws_FnSearch.j2 k x1 true x1252000 x1252001 x1252002 x1252003 x1252004 x1275000 x1275001 x1275002)) else (laws_FnSearch.j2 k x1 true x1252000 x1252001 x1252002 x1252003 x1252004 x1275000 x1275001 x1275002)) else (laws_FnSearch.j2 k x1 true x1252000 x1252001 x1252002 x1252003 x1252004 x1275000 x1275001 x1275002))))) else (laws_FnSearch.j3 k x1))
def laws_FnSearch.j3:Nat→List Int→Option (Bool)
  | 0,_=>none
  | k + 1,x1=>(spec_DrawMeetsChallenge.f k x1).bind fun bt1312=>((impl_MeetsChallenge.f k bt1312.1 bt1312.2.1 bt1312.2.2.1 bt1312.2.2.2.1 bt1312.2.2.2.2.1 bt1312.2.2.2.2.2.1 bt1312.2.2.2.2.2.2.1 bt1312.2.2.2.2.2.2.2).bind fun bt1330=>((spec_MeetsChallenge.f k bt1312.1 bt1312.2.1 bt1312.2.2.1 bt1312.2.2.2.1 bt1312.2.2.2.2.1 bt1312.2.2.2.2.2.1 bt1312.2.2.2.2.2.2.1 bt1312.2.2.2.2.2.2.2).bind fun bt1332=>((spec_DrawEndNumber.f k x1).bind fun bt1334=>((impl_EndNumber.f k bt1334.1 bt1334.2.1 bt1334.2.2.1 bt1334.2.2.2).bind fun bt1341=>((spec_EndNumber.f k bt1334.1 bt1334.2.1 bt1334.2.2.1 bt1334.2.2.2).bind fun bt1343=>(if (bt1330.2 == bt1332.2) = true then (if (bt1330.1 == bt1332.1) = true then (if (bt1341.2 == bt1343.2) = true then (some (bt1341.1 == bt1343.1)) else (some false)) else (some false)) else (some false)))))))
def laws_FnSearch.j2:Nat→List Int→Bool→Int→Int→List (S42)→List Int→List Int→Int→Int→List (S42)→Option (Bool)
  | 0,_,_,_,_,_,_,_,_,_,_=>none
  | k + 1,x1,x271,x1252000,x1252001,x1252002,x1252003,x1252004,x1275000,x1275001,x1275002=>if x271 = true then (some false) else (if 0 < (x1252003.length:Int) then ((impl_EndNumber.f k x1275000 x1275001 x1275002 (rd x1252003 0)).bind fun bt1309=>(if bt1309.2 = true then (if 0 < (x1252004.length:Int) then (if bt1309.1 = (rd x1252004 0) then (laws_FnSearch.j3 k x1) else (some false)) else (none)) else (some false))) else (none))
end
def laws_FnSearch.f (k:Nat) (l0:List Int) (l1:List Int):Option (Bool):=(laws_big.f l0 l1).bind fun t1239=>(if t1239 = true then (some true) else ((spec_DrawSolutionsBySize.f k l0).bind fun bt1240=>((impl_SolutionsBySize.f k bt1240.1 bt1240.2.1 bt1240.2.2.1 bt1240.2.2.2.1 bt1240.2.2.2.2).bind fun bt1252=>((spec_SolutionsBySize.f k bt1240.1 bt1240.2.1 bt1240.2.2.1 bt1240.2.2.2.1 bt1240.2.2.2.2).bind fun bt1256=>((impl_CountSolutions.f k bt1240.1 bt1240.2.1 bt1240.2.2.1 bt1240.2.2.2.1 bt1240.2.2.2.2).bind fun bt1260=>((spec_CountSolutions.f k bt1240.1 bt1240.2.1 bt1240.2.2.1 bt1240.2.2.2.1 bt1240.2.2.2.2).bind fun bt1262=>((impl_BoardsTried.f k bt1240.1 bt1240.2.1 bt1240.2.2.1 bt1240.2.2.2.1 bt1240.2.2.2.2).bind fun bt1264=>((spec_BoardsTried.f k bt1240.1 bt1240.2.1 bt1240.2.2.1 bt1240.2.2.2.1 bt1240.2.2.2.2).bind fun bt1266=>((impl_SmallestBoard.f k bt1240.1 bt1240.2.1 bt1240.2.2.1 bt1240.2.2.2.1 bt1240.2.2.2.2).bind fun bt1268=>((spec_SmallestBoard.f k bt1240.1 bt1240.2.1 bt1240.2.2.1 bt1240.2.2.2.1 bt1240.2.2.2.2).bind fun bt1275=>((impl_FewestParts.f k bt1240.1 bt1240.2.1 bt1240.2.2.1 bt1240.2.2.2.1 bt1240.2.2.2.2).bind fun bt1282=>((spec_FewestParts.f k bt1240.1 bt1240.2.1 bt1240.2.2.1 bt1240.2.2.2.1 bt1240.2.2.2.2).bind fun bt1284=>(if (bt1252.2 != bt1256.2) = true then (laws_FnSearch.j0 k l1 bt1252.2 bt1256.1 bt1262.1 bt1266.1 bt1268.2.2.2 bt1284.1 true bt1240.1 bt1240.2.1 bt1240.2.2.1 bt1240.2.2.2.1 bt1240.2.2.2.2 bt1268.1 bt1268.2.1 bt1268.2.2.1 bt1275.1 bt1275.2.1 bt1275.2.2.1) else ((laws_sameInts.f k bt1252.1 bt1256.1).bind fun t1286=>(if t1286 = true then (if (bt1260.2 != bt1262.2) = true then (laws_FnSearch.j0 k l1 bt1252.2 bt1256.1 bt1262.1 bt1266.1 bt1268.2.2.2 bt1284.1 true bt1240.1 bt1240.2.1 bt1240.2.2.1 bt1240.2.2.2.1 bt1240.2.2.2.2 bt1268.1 bt1268.2.1 bt1268.2.2.1 bt1275.1 bt1275.2.1 bt1275.2.2.1) else (if bt1260.1 = bt1262.1 then (if (bt1264.2 != bt1266.2) = true then (laws_FnSearch.j0 k l1 bt1252.2 bt1256.1 bt1262.1 bt1266.1 bt1268.2.2.2 bt1284.1 true bt1240.1 bt1240.2.1 bt1240.2.2.1 bt1240.2.2.2.1 bt1240.2.2.2.2 bt1268.1 bt1268.2.1 bt1268.2.2.1 bt1275.1 bt1275.2.1 bt1275.2.2.1) else (if bt1264.1 = bt1266.1 then (if (bt1268.2.2.2 != bt1275.2.2.2) = true then (laws_FnSearch.j0 k l1 bt1252.2 bt1256.1 bt1262.1 bt1266.1 bt1268.2.2.2 bt1284.1 true bt1240.1 bt1240.2.1 bt1240.2.2.1 bt1240.2.2.2.1 bt1240.2.2.2.2 bt1268.1 bt1268.2.1 bt1268.2.2.1 bt1275.1 bt1275.2.1 bt1275.2.2.1) else ((laws_pSameBoard.f k bt1268.1 bt1268.2.1 bt1268.2.2.1 bt1275.1 bt1275.2.1 bt1275.2.2.1).bind fun t1287=>(if t1287 = true then (if (bt1282.2 != bt1284.2) = true then (laws_FnSearch.j0 k l1 bt1252.2 bt1256.1 bt1262.1 bt1266.1 bt1268.2.2.2 bt1284.1 true bt1240.1 bt1240.2.1 bt1240.2.2.1 bt1240.2.2.2.1 bt1240.2.2.2.2 bt1268.1 bt1268.2.1 bt1268.2.2.1 bt1275.1 bt1275.2.1 bt1275.2.2.1) else (if bt1282.1 = bt1284.1 then (if (bt1260.2 != bt1252.2) = true then (laws_FnSearch.j0 k l1 bt1252.2 bt1256.1 bt1262.1 bt1266.1 bt1268.2.2.2 bt1284.1 true bt1240.1 bt1240.2.1 bt1240.2.2.1 bt1240.2.2.2.1 bt1240.2.2.2.2 bt1268.1 bt1268.2.1 bt1268.2.2.1 bt1275.1 bt1275.2.1 bt1275.2.2.1) else (if (bt1264.2 != bt1252.2) = true then (laws_FnSearch.j0 k l1 bt1252.2 bt1256.1 bt1262.1 bt1266.1 bt1268.2.2.2 bt1284.1 true bt1240.1 bt1240.2.1 bt1240.2.2.1 bt1240.2.2.2.1 bt1240.2.2.2.2 bt1268.1 bt1268.2.1 bt1268.2.2.1 bt1275.1 bt1275.2.1 bt1275.2.2.1) else (if (bt1282.2 != bt1268.2.2.2) = true then (laws_FnSearch.j0 k l1 bt1252.2 bt1256.1 bt1262.1 bt1266.1 bt1268.2.2.2 bt1284.1 true bt1240.1 bt1240.2.1 bt1240.2.2.1 bt1240.2.2.2.1 bt1240.2.2.2.2 bt1268.1 bt1268.2.1 bt1268.2.2.1 bt1275.1 bt1275.2.1 bt1275.2.2.1) else ((impl_IsChallenge.f k bt1240.1 bt1240.2.1 bt1240.2.2.1 bt1240.2.2.2.1 bt1240.2.2.2.2).bind fun t1288=>(if (t1288 != bt1252.2) = true then (laws_FnSearch.j0 k l1 bt1252.2 bt1256.1 bt1262.1 bt1266.1 bt1268.2.2.2 bt1284.1 true bt1240.1 bt1240.2.1 bt1240.2.2.1 bt1240.2.2.2.1 bt1240.2.2.2.2 bt1268.1 bt1268.2.1 bt1268.2.2.1 bt1275.1 bt1275.2.1 bt1275.2.2.1) else (if bt1252.2 = true then (laws_FnSearch.j0 k l1 bt1252.2 bt1256.1 bt1262.1 bt1266.1 bt1268.2.2.2 bt1284.1 (bt1268.2.2.2 != (decide (bt1262.1 > 0))) bt1240.1 bt1240.2.1 bt1240.2.2.1 bt1240.2.2.2.1 bt1240.2.2.2.2 bt1268.1 bt1268.2.1 bt1268.2.2.1 bt1275.1 bt1275.2.1 bt1275.2.2.1) else (laws_FnSearch.j0 k l1 bt1252.2 bt1256.1 bt1262.1 bt1266.1 bt1268.2.2.2 bt1284.1 (bt1268.2.2.2 != false) bt1240.1 bt1240.2.1 bt1240.2.2.1 bt1240.2.2.2.1 bt1240.2.2.2.2 bt1268.1 bt1268.2.1 bt1268.2.2.1 bt1275.1 bt1275.2.1 bt1275.2.2.1))))))) else (laws_FnSearch.j0 k l1 bt1252.2 bt1256.1 bt1262.1 bt1266.1 bt1268.2.2.2 bt1284.1 true bt1240.1 bt1240.2.1 bt1240.2.2.1 bt1240.2.2.2.1 bt1240.2.2.2.2 bt1268.1 bt1268.2.1 bt1268.2.2.1 bt1275.1 bt1275.2.1 bt1275.2.2.1))) else (laws_FnSearch.j0 k l1 bt1252.2 bt1256.1 bt1262.1 bt1266.1 bt1268.2.2.2 bt1284.1 true bt1240.1 bt1240.2.1 bt1240.2.2.1 bt1240.2.2.2.1 bt1240.2.2.2.2 bt1268.1 bt1268.2.1 bt1268.2.2.1 bt1275.1 bt1275.2.1 bt1275.2.2.1)))) else (laws_FnSearch.j0 k l1 bt1252.2 bt1256.1 bt1262.1 bt1266.1 bt1268.2.2.2 bt1284.1 true bt1240.1 bt1240.2.1 bt1240.2.2.1 bt1240.2.2.2.1 bt1240.2.2.2.2 bt1268.1 bt1268.2.1 bt1268.2.2.1 bt1275.1 bt1275.2.1 bt1275.2.2.1))) else (laws_FnSearch.j0 k l1 bt1252.2 bt1256.1 bt1262.1 bt1266.1 bt1268.2.2.2 bt1284.1 true bt1240.1 bt1240.2.1 bt1240.2.2.1 bt1240.2.2.2.1 bt1240.2.2.2.2 bt1268.1 bt1268.2.1 bt1268.2.2.1 bt1275.1 bt1275.2.1 bt1275.2.2.1))) else (laws_FnSearch.j0 k l1 bt1252.2 bt1256.1 bt1262.1 bt1266.1 bt1268.2.2.2 bt1284.1 true bt1240.1 bt1240.2.1 bt1240.2.2.1 bt1240.2.2.2.1 bt1240.2.2.2.2 bt1268.1 bt1268.2.1 bt1268.2.2.1 bt1275.1 bt1275.2.1 bt1275.2.2.1))))))))))))))))
theorem laws_FnSearch.calls (k:Nat) (A0:Option Addr) (c0:Nat) (l0:List Int) (A1:Option Addr) (c1:Nat) (l1:List Int) (r:Bool) (w:World) (hr0:Kd.C (Kd.int .u8) w A0 l0.length l0) (hc0:l0.length ≤ c0) (hr1:Kd.C (Kd.int .u8) w A1 l1.length l1) (hc1:l1.length ≤ c1) (hrt:r = true) (h:laws_FnSearch.f k l0 l1 = some r) :
    Calls Try.prog 5 #[.slice A0 l0.length c0,.slice A1 l1.length c1] w fun e w'=>e = .returned (.bool r)∧Below w.heap.size w w':=by
 have S:=St.init (w:=w) (dc (Kd.heap_int .u8) (atI .u8) hr0 hc0 (dc (Kd.heap_int .u8) (atI .u8) hr1 hc1 dn))
 have HRT:=Aside0.mk hrt;clear hrt
 clear hc0 hc1
 have F:=S.fc
 have H:=h;clear h;unfold laws_FnSearch.f at H
 replace H:=Option.bind_eq_some_iff.mp H;obtain ⟨t1239,A3,H⟩:=H;(try dsimp only at H)
 replace H:=sp_ H;rcases H with ⟨c4,H⟩ | ⟨c4,H⟩
 · skip
   subst c4
   obtain rfl:=Option.some.inj H
   go_enter Try.func5,Try.ntmps5
   go_wp2_with (first | ((with_reducible refine gate_callee (f:=8) rfl (L ?_));(try rw [Ny1303.out] at A3);refine cl (some 48) Try.func8 (laws_big.calls _ _ _ _ _ _ _ _ S.c S.n S.c S.n A3) (hargs:=by first | (simp only [ma_,mb_,mc_,F] <;> rfl) | (simp only [ma_,mb_,mc_,F,List.length_take,List.length_drop];rw [Nat.min_eq_left] <;> first | rfl | omega)) (h:=?_);rintro e W ⟨rfl,hb⟩;refine ⟨_,rfl,?_⟩;replace S:=S.gw hb;clear F hb;have F:=S.fc) | ((with_reducible refine gs (t:=27) rfl (L ?_));(first | refine sb (.agg #[_,_,_,_,_]) S sz27 ?_ | refine ro (.agg #[_,_,_,_,_]) S sz27 ?_ (ho:=rfl) (hx:=rfl) (hy:=rfl));(clear S F;intro W S;have F:=S.fc)) | ((with_reducible refine gs (t:=30) rfl (L ?_));(first | refine sb (.agg #[_,_,_]) S sz30 ?_ | refine ro (.agg #[_,_,_]) S sz30 ?_ (ho:=rfl) (hx:=rfl) (hy:=rfl));(clear S F;intro W S;have F:=S.fc)))
   go_ret
   exact ⟨(by first | rfl | (simp [e0_,e1_] <;> rfl) | (simp [*,e0_,e1_] <;> rfl)),S.below⟩
 · skip
   replace c4:=cbf c4;subst c4
   replace H:=Option.bind_eq_some_iff.mp H;obtain ⟨⟨t1240,t1241,t1242,t1245,t1248⟩,A5,H⟩:=H;(try dsimp only at H)
   replace H:=Option.bind_eq_some_iff.mp H;obtain ⟨⟨t1252,t1255⟩,A6,H⟩:=H;(try dsimp only at H)
   replace H:=Option.bind_eq_some_iff.mp H;obtain ⟨⟨t1256,t1259⟩,A7,H⟩:=H;(try dsimp only at H)
   replace H:=Option.bind_eq_some_iff.mp H;obtain ⟨⟨t1260,t1261⟩,A8,H⟩:=H;(try dsimp only at H)
   replace H:=Option.bind_eq_some_iff.mp H;obtain ⟨⟨t1262,t1263⟩,A9,H⟩:=H;(try dsimp only at H)
   replace H:=Option.bind_eq_some_iff.mp H;obtain ⟨⟨t1264,t1265⟩,A10,H⟩:=H;(try dsimp only at H)
   replace H:=Option.bind_eq_some_iff.mp H;obtain ⟨⟨t1266,t1267⟩,A11,H⟩:=H;(try dsimp only at H)
   replace H:=Option.bind_eq_some_iff.mp H;obtain ⟨⟨t1268,t1269,t1270,t1273⟩,A12,H⟩:=H;(try dsimp only at H)
   replace H:=Option.bind_eq_some_iff.mp H;obtain ⟨⟨t1275,t1276,t1277,t1280⟩,A13,H⟩:=H;(try dsimp only at H)
   replace H:=Option.bind_eq_some_iff.mp H;obtain ⟨⟨t1282,t1283⟩,A14,H⟩:=H;(try dsimp only at H)
   replace H:=Option.bind_eq_some_iff.mp H;obtain ⟨⟨t1284,t1285⟩,A15,H⟩:=H;(try dsimp only at H)
   go_enter Try.func5,Try.ntmps5
   go_upto_region 14 with (first | ((with_reducible refine gate_callee (f:=8) rfl (L ?_));(try rw [Ny1303.out] at A3);refine cl (some 48) Try.func8 (laws_big.calls _ _ _ _ _ _ _ _ S.c S.n S.c S.n A3) (hargs:=by first | (simp only [ma_,mb_,mc_,F] <;> rfl) | (simp only [ma_,mb_,mc_,F,List.length_take,List.length_drop];rw [Nat.min_eq_left] <;> first | rfl | omega)) (h:=?_);rintro e W ⟨rfl,hb⟩;refine ⟨_,rfl,?_⟩;replace S:=S.gw hb;clear F hb;have F:=S.fc) | ((with_reducible refine gate_callee (f:=39) rfl (L ?_));(try rw [Ny1303.out] at A5);refine cl (some 50) Try.func39 (spec_DrawSolutionsBySize.calls _ _ _ _ _ _ _ _ _ _ S.c S.n A5) (hargs:=by first | (simp only [ma_,mb_,mc_,F] <;> rfl) | (simp only [ma_,mb_,mc_,F,List.length_take,List.length_drop];rw [Nat.min_eq_left] <;> first | rfl | omega)) (h:=?_);rintro e W ⟨v1243,v1246,v1249,rfl,ho0,ho1,ho2,hb⟩;refine ⟨_,rfl,?_⟩;replace S:=S.got3i at42 (atI .i64) (atI .i64) hb ho0 ho1 ho2 (by decide);obtain ⟨At1242,ct1242,At1245,ct1245,At1248,ct1248,rfl,rfl,rfl,S⟩:=S;clear F hb ho0 ho1 ho2;have F:=S.fc) | ((with_reducible refine gd 5 rfl (L ?_));refine al 5 S zi27 ?_;clear S F;intro gb1251 W S;have F:=S.fc) | ((with_reducible refine gate_callee (f:=40) rfl (L ?_));(try rw [Ny1303.out] at A6);refine cl (some 53) Try.func40 (impl_SolutionsBySize.calls _ _ _ _ _ _ _ _ _ _ _ _ _ _ _ S.c S.n S.c S.n S.c S.n A6) (hargs:=by first | (simp only [ma_,mb_,mc_,F] <;> rfl) | (simp only [ma_,mb_,mc_,F,List.length_take,List.length_drop];rw [Nat.min_eq_left] <;> first | rfl | omega)) (h:=?_);rintro e W ⟨v1253,rfl,ho0,hb⟩;refine ⟨_,rfl,?_⟩;replace S:=S.got (atI .i64) hb ho0;obtain ⟨At1252,ct1252,rfl,S⟩:=S;clear F hb ho0;have F:=S.fc) | ((with_reducible refine gate_callee (f:=41) rfl (L ?_));(try rw [Ny1303.out] at A7);refine cl (some 58) Try.func41 (spec_SolutionsBySize.calls _ _ _ _ _ _ _ _ _ _ _ _ _ _ _ S.c S.n S.c S.n S.c S.n A7) (hargs:=by first | (simp only [ma_,mb_,mc_,F] <;> rfl) | (simp only [ma_,mb_,mc_,F,List.length_take,List.length_drop];rw [Nat.min_eq_left] <;> first | rfl | omega)) (h:=?_);rintro e W ⟨v1257,rfl,ho0,hb⟩;refine ⟨_,rfl,?_⟩;replace S:=S.got (atI .i64) hb ho0;obtain ⟨At1256,ct1256,rfl,S⟩:=S;clear F hb ho0;have F:=S.fc) | ((with_reducible refine gate_callee (f:=20) rfl (L ?_));(try rw [Ny1303.out] at A8);refine cl (some 63) Try.func20 (impl_CountSolutions.calls _ _ _ _ _ _ _ _ _ _ _ _ _ _ _ S.c S.n S.c S.n S.c S.n A8) (hargs:=by first | (simp only [ma_,mb_,mc_,F] <;> rfl) | (simp only [ma_,mb_,mc_,F,List.length_take,List.length_drop];rw [Nat.min_eq_left] <;> first | rfl | omega)) (h:=?_);rintro e W ⟨rfl,hb⟩;refine ⟨_,rfl,?_⟩;replace S:=S.go hb;clear F hb;have F:=S.fc) | ((with_reducible refine gate_callee (f:=21) rfl (L ?_));(try rw [Ny1303.out] at A9);refine cl (some 68) Try.func21 (spec_CountSolutions.calls _ _ _ _ _ _ _ _ _ _ _ _ _ _ _ S.c S.n S.c S.n S.c S.n A9) (hargs:=by first | (simp only [ma_,mb_,mc_,F] <;> rfl) | (simp only [ma_,mb_,mc_,F,List.length_take,List.length_drop];rw [Nat.min_eq_left] <;> first | rfl | omega)) (h:=?_);rintro e W ⟨rfl,hb⟩;refine ⟨_,rfl,?_⟩;replace S:=S.go hb;clear F hb;have F:=S.fc) | ((with_reducible refine gate_callee (f:=42) rfl (L ?_));(try rw [Ny1303.out] at A10);refine cl (some 73) Try.func42 (impl_BoardsTried.calls _ _ _ _ _ _ _ _ _ _ _ _ _ _ _ S.c S.n S.c S.n S.c S.n A10) (hargs:=by first | (simp only [ma_,mb_,mc_,F] <;> rfl) | (simp only [ma_,mb_,mc_,F,List.length_take,List.length_drop];rw [Nat.min_eq_left] <;> first | rfl | omega)) (h:=?_);rintro e W ⟨rfl,hb⟩;refine ⟨_,rfl,?_⟩;replace S:=S.go hb;clear F hb;have F:=S.fc) | ((with_reducible refine gate_callee (f:=43) rfl (L ?_));(try rw [Ny1303.out] at A11);refine cl (some 78) Try.func43 (spec_BoardsTried.calls _ _ _ _ _ _ _ _ _ _ _ _ _ _ _ S.c S.n S.c S.n S.c S.n A11) (hargs:=by first | (simp only [ma_,mb_,mc_,F] <;> rfl) | (simp only [ma_,mb_,mc_,F,List.length_take,List.length_drop];rw [Nat.min_eq_left] <;> first | rfl | omega)) (h:=?_);rintro e W ⟨rfl,hb⟩;refine ⟨_,rfl,?_⟩;replace S:=S.go hb;clear F hb;have F:=S.fc) | ((with_reducible refine gate_callee (f:=44) rfl (L ?_));(try rw [Ny1303.out] at A12);refine cl (some 83) Try.func44 (impl_SmallestBoard.calls _ _ _ _ _ _ _ _ _ _ _ _ _ _ _ _ _ S.c S.n S.c S.n S.c S.n A12) (hargs:=by first | (simp only [ma_,mb_,mc_,F] <;> rfl) | (simp only [ma_,mb_,mc_,F,List.length_take,List.length_drop];rw [Nat.min_eq_left] <;> first | rfl | omega)) (h:=?_);rintro e W ⟨v1271,rfl,ho0,hb⟩;refine ⟨_,rfl,?_⟩;replace S:=S.got at42 hb ho0;obtain ⟨At1270,ct1270,rfl,S⟩:=S;clear F hb ho0;have F:=S.fc) | ((with_reducible refine gd 18 rfl (L ?_));refine al 18 S zi30 ?_;clear S F;intro gb1274 W S;have F:=S.fc) | ((with_reducible refine gate_callee (f:=45) rfl (L ?_));(try rw [Ny1303.out] at A13);refine cl (some 88) Try.func45 (spec_SmallestBoard.calls _ _ _ _ _ _ _ _ _ _ _ _ _ _ _ _ _ S.c S.n S.c S.n S.c S.n A13) (hargs:=by first | (simp only [ma_,mb_,mc_,F] <;> rfl) | (simp only [ma_,mb_,mc_,F,List.length_take,List.length_drop];rw [Nat.min_eq_left] <;> first | rfl | omega)) (h:=?_);rintro e W ⟨v1278,rfl,ho0,hb⟩;refine ⟨_,rfl,?_⟩;replace S:=S.got at42 hb ho0;obtain ⟨At1277,ct1277,rfl,S⟩:=S;clear F hb ho0;have F:=S.fc) | ((with_reducible refine gd 20 rfl (L ?_));refine al 20 S zi30 ?_;clear S F;intro gb1281 W S;have F:=S.fc) | ((with_reducible refine gate_callee (f:=46) rfl (L ?_));(try rw [Ny1303.out] at A14);refine cl (some 93) Try.func46 (impl_FewestParts.calls _ _ _ _ _ _ _ _ _ _ _ _ _ _ _ S.c S.n S.c S.n S.c S.n A14) (hargs:=by first | (simp only [ma_,mb_,mc_,F] <;> rfl) | (simp only [ma_,mb_,mc_,F,List.length_take,List.length_drop];rw [Nat.min_eq_left] <;> first | rfl | omega)) (h:=?_);rintro e W ⟨rfl,hb⟩;refine ⟨_,rfl,?_⟩;replace S:=S.go hb;clear F hb;have F:=S.fc) | ((with_reducible refine gate_callee (f:=47) rfl (L ?_));(try rw [Ny1303.out] at A15);refine cl (some 98) Try.func47 (spec_FewestParts.calls _ _ _ _ _ _ _ _ _ _ _ _ _ _ _ S.c S.n S.c S.n S.c S.n A15) (hargs:=by first | (simp only [ma_,mb_,mc_,F] <;> rfl) | (simp only [ma_,mb_,mc_,F,List.length_take,List.length_drop];rw [Nat.min_eq_left] <;> first | rfl | omega)) (h:=?_);rintro e W ⟨rfl,hb⟩;refine ⟨_,rfl,?_⟩;replace S:=S.go hb;clear F hb;have F:=S.fc) | ((with_reducible refine gs (t:=27) rfl (L ?_));(first | refine sb (.agg #[_,_,_,_,_]) S sz27 ?_ | refine ro (.agg #[_,_,_,_,_]) S sz27 ?_ (ho:=rfl) (hx:=rfl) (hy:=rfl));(clear S F;intro W S;have F:=S.fc)) | ((with_reducible refine gs (t:=30) rfl (L ?_));(first | refine sb (.agg #[_,_,_]) S sz30 ?_ | refine ro (.agg #[_,_,_]) S sz30 ?_ (ho:=rfl) (hx:=rfl) (hy:=rfl));(clear S F;intro W S;have F:=S.fc)))
   (try simp only [Act.put,List.setIfInBounds_toArray,List.set_cons_zero,List.set_cons_succ])
   go_cut [180] (fun v180 wc=>∃ (kq:Nat) (x180_15:Bool),v180 = .bool x180_15∧laws_FnSearch.j0 kq l1 t1255 t1256 t1262 t1266 t1273 t1284 x180_15 t1240 t1241 t1242 t1245 t1248 t1268 t1269 t1270 t1275 t1276 t1277 = some r∧kq ≤ k∧St w w (fun _=>False) [bor (atI .u8) A0 c0 l0,bor (atI .u8) A1 c1 l1] wc  [box gb1281 30 [.int .i64 t1275,.int .i64 t1276,.slice At1277 t1277.length ct1277],qrow at42 42 At1277 t1277.length ct1277 t1277,box gb1274 30 [.int .i64 t1268,.int .i64 t1269,.slice At1270 t1270.length ct1270],qrow at42 42 At1270 t1270.length ct1270 t1270,row (atI .i64) 3 At1256 t1256.length ct1256 t1256,box gb1251 27 [.int .i64 t1240,.int .i64 t1241,.slice At1242 t1242.length ct1242,.slice At1245 t1245.length ct1245,.slice At1248 t1248.length ct1248],row (atI .i64) 3 At1248 t1248.length ct1248 t1248,row (atI .i64) 3 At1245 t1245.length ct1245 t1245,row at42 42 At1242 t1242.length ct1242 t1242])
   case first =>
    replace H:=sp_ H;rcases H with ⟨c51,H⟩ | ⟨c51,H⟩
    · skip
      have c51n:=c51;(try simp only [bne_iff_ne,ne_eq] at c51n)
      exact absurd HRT.out (by intro e_;subst e_;clear S F;cases k with | zero=>exact absurd H (by simp [laws_FnSearch.j0]) | succ k_=>exact absurd H (by simp [laws_FnSearch.j0]))
    · skip
      try replace c51:=cbf c51
      have c51n:=c51;(try simp only [bne_eq_false_iff_eq] at c51n);(try (subst c51n;clear c51))
      replace H:=Option.bind_eq_some_iff.mp H;obtain ⟨t1286,A52,H⟩:=H;(try dsimp only at H)
      replace H:=sp_ H;rcases H with ⟨c53,H⟩ | ⟨c53,H⟩
      · skip
        subst c53
        replace H:=sp_ H;rcases H with ⟨c54,H⟩ | ⟨c54,H⟩
        · skip
          have c54n:=c54;(try simp only [bne_iff_ne,ne_eq] at c54n)
          exact absurd HRT.out (by intro e_;subst e_;clear S F;cases k with | zero=>exact absurd H (by simp [laws_FnSearch.j0]) | succ k_=>exact absurd H (by simp [laws_FnSearch.j0]))
        · skip
          try replace c54:=cbf c54
          have c54n:=c54;(try simp only [bne_eq_false_iff_eq] at c54n);(try (subst c54n;clear c54))
          replace H:=sp_ H;rcases H with ⟨c57,H⟩ | ⟨c57,H⟩
          · skip
            replace c57:=ceq c57
            replace H:=sp_ H;rcases H with ⟨c58,H⟩ | ⟨c58,H⟩
            · skip
              have c58n:=c58;(try simp only [bne_iff_ne,ne_eq] at c58n)
              exact absurd HRT.out (by intro e_;subst e_;clear S F;cases k with | zero=>exact absurd H (by simp [laws_FnSearch.j0]) | succ k_=>exact absurd H (by simp [laws_FnSearch.j0]))
            · skip
              try replace c58:=cbf c58
              have c58n:=c58;(try simp only [bne_eq_false_iff_eq] at c58n);(try (subst c58n;clear c58))
              replace H:=sp_ H;rcases H with ⟨c61,H⟩ | ⟨c61,H⟩
              · skip
                replace c61:=ceq c61
                replace H:=sp_ H;rcases H with ⟨c62,H⟩ | ⟨c62,H⟩
                · skip
                  have c62n:=c62;(try simp only [bne_iff_ne,ne_eq] at c62n)
                  exact absurd HRT.out (by intro e_;subst e_;clear S F;cases k with | zero=>exact absurd H (by simp [laws_FnSearch.j0]) | succ k_=>exact absurd H (by simp [laws_FnSearch.j0]))
                · skip
                  try replace c62:=cbf c62
                  have c62n:=c62;(try simp only [bne_eq_false_iff_eq] at c62n);(try (subst c62n;clear c62))
                  replace H:=Option.bind_eq_some_iff.mp H;obtain ⟨t1287,A65,H⟩:=H;(try dsimp only at H)
                  replace H:=sp_ H;rcases H with ⟨c66,H⟩ | ⟨c66,H⟩
                  · skip
                    subst c66
                    replace H:=sp_ H;rcases H with ⟨c67,H⟩ | ⟨c67,H⟩
                    · skip
                      have c67n:=c67;(try simp only [bne_iff_ne,ne_eq] at c67n)
                      exact absurd HRT.out (by intro e_;subst e_;clear S F;cases k with | zero=>exact absurd H (by simp [laws_FnSearch.j0]) | succ k_=>exact absurd H (by simp [laws_FnSearch.j0]))
                    · skip
                      try replace c67:=cbf c67
                      have c67n:=c67;(try simp only [bne_eq_false_iff_eq] at c67n);(try (subst c67n;clear c67))
                      replace H:=sp_ H;rcases H with ⟨c76,H⟩ | ⟨c76,H⟩
                      · skip
                        replace c76:=ceq c76
                        replace H:=sp_ H;rcases H with ⟨c77,H⟩ | ⟨c77,H⟩
                        · skip
                          have c77n:=c77;(try simp only [bne_iff_ne,ne_eq] at c77n)
                          exact absurd HRT.out (by intro e_;subst e_;clear S F;cases k with | zero=>exact absurd H (by simp [laws_FnSearch.j0]) | succ k_=>exact absurd H (by simp [laws_FnSearch.j0]))
                        · skip
                          try replace c77:=cbf c77
                          have c77n:=c77;(try simp only [bne_eq_false_iff_eq] at c77n);(try (subst c77n;clear c77))
                          replace H:=sp_ H;rcases H with ⟨c86,H⟩ | ⟨c86,H⟩
                          · skip
                            have c86n:=c86;(try simp only [bne_iff_ne,ne_eq] at c86n)
                            exact absurd HRT.out (by intro e_;subst e_;clear S F;cases k with | zero=>exact absurd H (by simp [laws_FnSearch.j0]) | succ k_=>exact absurd H (by simp [laws_FnSearch.j0]))
                          · skip
                            try replace c86:=cbf c86
                            have c86n:=c86;(try simp only [bne_eq_false_iff_eq] at c86n);(try (subst c86n;clear c86))
                            replace H:=sp_ H;rcases H with ⟨c95,H⟩ | ⟨c95,H⟩
                            · skip
                              have c95n:=c95;(try simp only [bne_iff_ne,ne_eq] at c95n)
                              exact absurd HRT.out (by intro e_;subst e_;clear S F;cases k with | zero=>exact absurd H (by simp [laws_FnSearch.j0]) | succ k_=>exact absurd H (by simp [laws_FnSearch.j0]))
                            · skip
                              try replace c95:=cbf c95
                              have c95n:=c95;(try simp only [bne_eq_false_iff_eq] at c95n);(try (subst c95n;clear c95))
                              replace H:=Option.bind_eq_some_iff.mp H;obtain ⟨t1288,A104,H⟩:=H;(try dsimp only at H)
                              replace H:=sp_ H;rcases H with ⟨c105,H⟩ | ⟨c105,H⟩
                              · skip
                                have c105n:=c105;(try simp only [bne_iff_ne,ne_eq] at c105n)
                                exact absurd HRT.out (by intro e_;subst e_;clear S F;cases k with | zero=>exact absurd H (by simp [laws_FnSearch.j0]) | succ k_=>exact absurd H (by simp [laws_FnSearch.j0]))
                              · skip
                                try replace c105:=cbf c105
                                have c105n:=c105;(try simp only [bne_eq_false_iff_eq] at c105n);(try (subst c105n;clear c105))
                                replace H:=sp_ H;rcases H with ⟨c116,H⟩ | ⟨c116,H⟩
                                · skip
                                  subst c116
                                  as_aux_lemma =>
                                   go_wp2_with (first | (go_at_call 17;(try simp only [F]);refine (laws_sameInts.calls _ _ _ _ _ _ _ _ _ S.c S.n S.c S.n A52).mono ?_;rintro e W ⟨rfl,hb⟩;replace S:=S.gw hb;clear F hb;have F:=S.fc) | (go_at_call 16;(try simp only [F]);refine (laws_pSameBoard.calls _ _ _ _ _ _ _ _ _ _ _ _ _ S.c S.n S.c S.n A65).mono ?_;rintro e W ⟨rfl,hb⟩;replace S:=S.go hb;clear F hb;have F:=S.fc) | (go_at_call 37;(try simp only [F]);refine (impl_IsChallenge.calls _ _ _ _ _ _ _ _ _ _ _ _ _ _ S.c S.n S.c S.n S.c S.n A104).mono ?_;rintro e W ⟨rfl,hb⟩;replace S:=S.go hb;clear F hb;have F:=S.fc) | ((with_reducible refine gs (t:=27) rfl (L ?_));(first | refine sb (.agg #[_,_,_,_,_]) S sz27 ?_ | refine ro (.agg #[_,_,_,_,_]) S sz27 ?_ (ho:=rfl) (hx:=rfl) (hy:=rfl));(clear S F;intro W S;have F:=S.fc)) | ((with_reducible refine gs (t:=30) rfl (L ?_));(first | refine sb (.agg #[_,_,_]) S sz30 ?_ | refine ro (.agg #[_,_,_]) S sz30 ?_ (ho:=rfl) (hx:=rfl) (hy:=rfl));(clear S F;intro W S;have F:=S.fc)))
                                   go_meet
                                   case rel=>exact ⟨_,_,(by first | rfl | (simp;done) | (simp [*];done) | (rw [w6_ (by omega) (by omega)])),H,(by first | omega | exact Nat.le_refl _),(((S.tq At1277).tq At1270).ms [1,1,1,1,1,0])⟩
                                · skip
                                  replace c116:=cbf c116;subst c116
                                  as_aux_lemma =>
                                   go_wp2_with (first | (go_at_call 17;(try simp only [F]);refine (laws_sameInts.calls _ _ _ _ _ _ _ _ _ S.c S.n S.c S.n A52).mono ?_;rintro e W ⟨rfl,hb⟩;replace S:=S.gw hb;clear F hb;have F:=S.fc) | (go_at_call 16;(try simp only [F]);refine (laws_pSameBoard.calls _ _ _ _ _ _ _ _ _ _ _ _ _ S.c S.n S.c S.n A65).mono ?_;rintro e W ⟨rfl,hb⟩;replace S:=S.go hb;clear F hb;have F:=S.fc) | (go_at_call 37;(try simp only [F]);refine (impl_IsChallenge.calls _ _ _ _ _ _ _ _ _ _ _ _ _ _ S.c S.n S.c S.n S.c S.n A104).mono ?_;rintro e W ⟨rfl,hb⟩;replace S:=S.go hb;clear F hb;have F:=S.fc) | ((with_reducible refine gs (t:=27) rfl (L ?_));(first | refine sb (.agg #[_,_,_,_,_]) S sz27 ?_ | refine ro (.agg #[_,_,_,_,_]) S sz27 ?_ (ho:=rfl) (hx:=rfl) (hy:=rfl));(clear S F;intro W S;have F:=S.fc)) | ((with_reducible refine gs (t:=30) rfl (L ?_));(first | refine sb (.agg #[_,_,_]) S sz30 ?_ | refine ro (.agg #[_,_,_]) S sz30 ?_ (ho:=rfl) (hx:=rfl) (hy:=rfl));(clear S F;intro W S;have F:=S.fc)))
                                   go_meet
                                   case rel=>exact ⟨_,_,(by first | rfl | (simp;done) | (simp [*];done) | (rw [w6_ (by omega) (by omega)])),H,(by first | omega | exact Nat.le_refl _),(((S.tq At1277).tq At1270).ms [1,1,1,1,1,0])⟩
                      · skip
                        replace c76:=cne c76
                        exact absurd HRT.out (by intro e_;subst e_;clear S F;cases k with | zero=>exact absurd H (by simp [laws_FnSearch.j0]) | succ k_=>exact absurd H (by simp [laws_FnSearch.j0]))
                  · skip
                    replace c66:=cbf c66;subst c66
                    exact absurd HRT.out (by intro e_;subst e_;clear S F;cases k with | zero=>exact absurd H (by simp [laws_FnSearch.j0]) | succ k_=>exact absurd H (by simp [laws_FnSearch.j0]))
              · skip
                replace c61:=cne c61
                exact absurd HRT.out (by intro e_;subst e_;clear S F;cases k with | zero=>exact absurd H (by simp [laws_FnSearch.j0]) | succ k_=>exact absurd H (by simp [laws_FnSearch.j0]))
          · skip
            replace c57:=cne c57
            exact absurd HRT.out (by intro e_;subst e_;clear S F;cases k with | zero=>exact absurd H (by simp [laws_FnSearch.j0]) | succ k_=>exact absurd H (by simp [laws_FnSearch.j0]))
      · skip
        replace c53:=cbf c53;subst c53
        exact absurd HRT.out (by intro e_;subst e_;clear S F;cases k with | zero=>exact absurd H (by simp [laws_FnSearch.j0]) | succ k_=>exact absurd H (by simp [laws_FnSearch.j0]))
   case rest =>
    as_aux_lemma =>
     clear H S F
     obtain ⟨kq,x180_15,rfl,HA,HJ15,S⟩:=hcut
     have F:=S.fc
     cases kq with
     | zero=>exact absurd HA (by simp [laws_FnSearch.j0])
     | succ kj15 =>
      have H:=HA;clear HA;simp only [laws_FnSearch.j0,F] at H
      replace H:=sp_ H;rcases H with ⟨c159,H⟩ | ⟨c159,H⟩
      · skip
        subst c159
        exact absurd (H.trans (congrArg some HRT.out)) (by simp)
      · skip
        replace c159:=cbf c159;subst c159
        go_upto_region 16 with (first | ((with_reducible refine gs (t:=27) rfl (L ?_));(first | refine sb (.agg #[_,_,_,_,_]) S sz27 ?_ | refine ro (.agg #[_,_,_,_,_]) S sz27 ?_ (ho:=rfl) (hx:=rfl) (hy:=rfl));(clear S F;intro W S;have F:=S.fc)) | ((with_reducible refine gs (t:=30) rfl (L ?_));(first | refine sb (.agg #[_,_,_]) S sz30 ?_ | refine ro (.agg #[_,_,_]) S sz30 ?_ (ho:=rfl) (hx:=rfl) (hy:=rfl));(clear S F;intro W S;have F:=S.fc)))
        go_cut [203] (fun v203 wc=>∃ (kq:Nat) (x203_159:Bool),v203 = .bool x203_159∧laws_FnSearch.j1 kq l1 t1256 t1273 t1284 x203_159 t1240 t1241 t1242 t1245 t1248 t1268 t1269 t1270 t1275 t1276 t1277 = some r∧kq ≤ kj15∧St w w (fun _=>False) [bor (atI .u8) A0 c0 l0,bor (atI .u8) A1 c1 l1] wc  [box gb1281 30 [.int .i64 t1275,.int .i64 t1276,.slice At1277 t1277.length ct1277],qrow at42 42 At1277 t1277.length ct1277 t1277,box gb1274 30 [.int .i64 t1268,.int .i64 t1269,.slice At1270 t1270.length ct1270],qrow at42 42 At1270 t1270.length ct1270 t1270,row (atI .i64) 3 At1256 t1256.length ct1256 t1256,box gb1251 27 [.int .i64 t1240,.int .i64 t1241,.slice At1242 t1242.length ct1242,.slice At1245 t1245.length ct1245,.slice At1248 t1248.length ct1248],row (atI .i64) 3 At1248 t1248.length ct1248 t1248,row (atI .i64) 3 At1245 t1245.length ct1245 t1245,row at42 42 At1242 t1242.length ct1242 t1242])
        case first =>
         replace H:=sp_ H;rcases H with ⟨c161,H⟩ | ⟨c161,H⟩
         · skip
           subst c161
           replace H:=Option.bind_eq_some_iff.mp H;obtain ⟨t1289,A162,H⟩:=H;(try dsimp only at H)
           replace H:=sp_ H;rcases H with ⟨c163,H⟩ | ⟨c163,H⟩
           · skip
             replace c163:=ceq c163
             replace H:=sp_ H;rcases H with ⟨c164,H⟩ | ⟨c164,H⟩
             · skip
               exact absurd HRT.out (by intro e_;subst e_;clear S F;cases kj15 with | zero=>exact absurd H (by simp [laws_FnSearch.j1]) | succ k_=>exact absurd H (by simp [laws_FnSearch.j1]))
             · skip
               as_aux_lemma =>
                go_wp2_with (first | (go_at_call 48;(try simp only [F]);refine (laws_pSum.calls _ _ _ _ _ _ S.c S.n A162).mono ?_;rintro e W ⟨rfl,hb⟩;replace S:=S.gw hb;clear F hb;have F:=S.fc) | ((with_reducible refine gs (t:=27) rfl (L ?_));(first | refine sb (.agg #[_,_,_,_,_]) S sz27 ?_ | refine ro (.agg #[_,_,_,_,_]) S sz27 ?_ (ho:=rfl) (hx:=rfl) (hy:=rfl));(clear S F;intro W S;have F:=S.fc)) | ((with_reducible refine gs (t:=30) rfl (L ?_));(first | refine sb (.agg #[_,_,_]) S sz30 ?_ | refine ro (.agg #[_,_,_]) S sz30 ?_ (ho:=rfl) (hx:=rfl) (hy:=rfl));(clear S F;intro W S;have F:=S.fc)))
                go_meet
                case rel=>exact ⟨_,_,(by simp only [decide_eq_false (Int.not_lt.mpr c164),Bool.false_or]),H,(by first | omega | exact Nat.le_refl _),S⟩
           · skip
             replace c163:=cne c163
             exact absurd HRT.out (by intro e_;subst e_;clear S F;cases kj15 with | zero=>exact absurd H (by simp [laws_FnSearch.j1]) | succ k_=>exact absurd H (by simp [laws_FnSearch.j1]))
         · skip
           replace c161:=cbf c161;subst c161
           as_aux_lemma =>
            go_wp2_with (first | ((with_reducible refine gs (t:=27) rfl (L ?_));(first | refine sb (.agg #[_,_,_,_,_]) S sz27 ?_ | refine ro (.agg #[_,_,_,_,_]) S sz27 ?_ (ho:=rfl) (hx:=rfl) (hy:=rfl));(clear S F;intro W S;have F:=S.fc)) | ((with_reducible refine gs (t:=30) rfl (L ?_));(first | refine sb (.agg #[_,_,_]) S sz30 ?_ | refine ro (.agg #[_,_,_]) S sz30 ?_ (ho:=rfl) (hx:=rfl) (hy:=rfl));(clear S F;intro W S;have F:=S.fc)))
            go_meet
            case rel=>exact ⟨_,false,(by first | rfl | (simp;done) | (simp [*];done) | (rw [w6_ (by omega) (by omega)])),H,(by first | omega | exact Nat.le_refl _),S⟩
        case rest =>
         as_aux_lemma =>
          clear H S F
          obtain ⟨kq,x203_159,rfl,HA,HJ159,S⟩:=hcut
          have F:=S.fc
          cases kq with
          | zero=>exact absurd HA (by simp [laws_FnSearch.j1])
          | succ kj159 =>
           have H:=HA;clear HA;simp only [laws_FnSearch.j1,F] at H
           replace H:=sp_ H;rcases H with ⟨c171,H⟩ | ⟨c171,H⟩
           · skip
             subst c171
             exact absurd (H.trans (congrArg some HRT.out)) (by simp)
           · skip
             replace c171:=cbf c171;subst c171
             go_upto_if 204 with (first | ((with_reducible refine gs (t:=27) rfl (L ?_));(first | refine sb (.agg #[_,_,_,_,_]) S sz27 ?_ | refine ro (.agg #[_,_,_,_,_]) S sz27 ?_ (ho:=rfl) (hx:=rfl) (hy:=rfl));(clear S F;intro W S;have F:=S.fc)) | ((with_reducible refine gs (t:=30) rfl (L ?_));(first | refine sb (.agg #[_,_,_]) S sz30 ?_ | refine ro (.agg #[_,_,_]) S sz30 ?_ (ho:=rfl) (hx:=rfl) (hy:=rfl));(clear S F;intro W S;have F:=S.fc)))
             go_cut [] (fun wc=>∃ (kq:Nat),laws_FnSearch.j3 kq l1 = some r∧kq ≤ kj159∧St w w (fun _=>False) [bor (atI .u8) A0 c0 l0,bor (atI .u8) A1 c1 l1] wc  [box gb1281 30 [.int .i64 t1275,.int .i64 t1276,.slice At1277 t1277.length ct1277],qrow at42 42 At1277 t1277.length ct1277 t1277,box gb1274 30 [.int .i64 t1268,.int .i64 t1269,.slice At1270 t1270.length ct1270],qrow at42 42 At1270 t1270.length ct1270 t1270,box gb1251 27 [.int .i64 t1240,.int .i64 t1241,.slice At1242 t1242.length ct1242,.slice At1245 t1245.length ct1245,.slice At1248 t1248.length ct1248],row (atI .i64) 3 At1248 t1248.length ct1248 t1248,row (atI .i64) 3 At1245 t1245.length ct1245 t1245,row at42 42 At1242 t1242.length ct1242 t1242])
             case first =>
              replace H:=sp_ H;rcases H with ⟨c173,H⟩ | ⟨c173,H⟩
              · skip
                subst c173
                replace H:=Option.bind_eq_some_iff.mp H;obtain ⟨⟨t1290,t1291⟩,A174,H⟩:=H;(try dsimp only at H)
                replace H:=Option.bind_eq_some_iff.mp H;obtain ⟨⟨t1292,t1295⟩,A175,H⟩:=H;(try dsimp only at H)
                replace H:=Option.bind_eq_some_iff.mp H;obtain ⟨⟨t1296,t1299⟩,A176,H⟩:=H;(try dsimp only at H)
                go_upto_region 22 with (first | ((with_reducible refine gate_callee (f:=18) rfl (L ?_));(try rw [Ny1303.out] at A174);refine cl (some 208) Try.func18 (impl_MeetsChallenge.calls _ _ _ _ _ _ _ _ _ _ _ _ _ _ _ _ _ _ _ _ S.c S.n S.c S.n S.c S.n S.c S.n A174) (hargs:=by first | (simp only [ma_,mb_,mc_,F] <;> rfl) | (simp only [ma_,mb_,mc_,F,List.length_take,List.length_drop];rw [Nat.min_eq_left] <;> first | rfl | omega)) (h:=?_);rintro e W ⟨rfl,hb⟩;refine ⟨_,rfl,?_⟩;replace S:=S.go hb;clear F hb;have F:=S.fc) | ((with_reducible refine gate_callee (f:=49) rfl (L ?_));(try rw [Ny1303.out] at A175);refine cl (some 213) Try.func49 (impl_CountParts.calls _ _ _ _ _ _ _ _ _ S.c S.n A175) (hargs:=by first | (simp only [ma_,mb_,mc_,F] <;> rfl) | (simp only [ma_,mb_,mc_,F,List.length_take,List.length_drop];rw [Nat.min_eq_left] <;> first | rfl | omega)) (h:=?_);rintro e W ⟨v1293,rfl,ho0,hb⟩;refine ⟨_,rfl,?_⟩;replace S:=S.got (atI .i64) hb ho0;obtain ⟨At1292,ct1292,rfl,S⟩:=S;clear F hb ho0;have F:=S.fc) | ((with_reducible refine gate_callee (f:=50) rfl (L ?_));(try rw [Ny1303.out] at A176);refine cl (some 218) Try.func50 (spec_CountParts.calls _ _ _ _ _ _ _ _ _ S.c S.n A176) (hargs:=by first | (simp only [ma_,mb_,mc_,F] <;> rfl) | (simp only [ma_,mb_,mc_,F,List.length_take,List.length_drop];rw [Nat.min_eq_left] <;> first | rfl | omega)) (h:=?_);rintro e W ⟨v1297,rfl,ho0,hb⟩;refine ⟨_,rfl,?_⟩;replace S:=S.got (atI .i64) hb ho0;obtain ⟨At1296,ct1296,rfl,S⟩:=S;clear F hb ho0;have F:=S.fc) | ((with_reducible refine gs (t:=27) rfl (L ?_));(first | refine sb (.agg #[_,_,_,_,_]) S sz27 ?_ | refine ro (.agg #[_,_,_,_,_]) S sz27 ?_ (ho:=rfl) (hx:=rfl) (hy:=rfl));(clear S F;intro W S;have F:=S.fc)) | ((with_reducible refine gs (t:=30) rfl (L ?_));(first | refine sb (.agg #[_,_,_]) S sz30 ?_ | refine ro (.agg #[_,_,_]) S sz30 ?_ (ho:=rfl) (hx:=rfl) (hy:=rfl));(clear S F;intro W S;have F:=S.fc)))
                (try simp only [Act.put,List.setIfInBounds_toArray,List.set_cons_zero,List.set_cons_succ])
                go_cut [271] (fun v271 wc=>∃ (kq:Nat) (x271_176:Bool),v271 = .bool x271_176∧laws_FnSearch.j2 kq l1 x271_176 t1240 t1241 t1242 t1245 t1248 t1268 t1269 t1270 = some r∧kq ≤ kj159∧St w w (fun _=>False) [bor (atI .u8) A0 c0 l0,bor (atI .u8) A1 c1 l1] wc  [box gb1281 30 [.int .i64 t1275,.int .i64 t1276,.slice At1277 t1277.length ct1277],qrow at42 42 At1277 t1277.length ct1277 t1277,box gb1274 30 [.int .i64 t1268,.int .i64 t1269,.slice At1270 t1270.length ct1270],qrow at42 42 At1270 t1270.length ct1270 t1270,box gb1251 27 [.int .i64 t1240,.int .i64 t1241,.slice At1242 t1242.length ct1242,.slice At1245 t1245.length ct1245,.slice At1248 t1248.length ct1248],row (atI .i64) 3 At1248 t1248.length ct1248 t1248,row (atI .i64) 3 At1245 t1245.length ct1245 t1245,row at42 42 At1242 t1242.length ct1242 t1242])
                case first =>
                 replace H:=sp_ H;rcases H with ⟨c188,H⟩ | ⟨c188,H⟩
                 · skip
                   subst c188
                   replace H:=sp_ H;rcases H with ⟨c189,H⟩ | ⟨c189,H⟩
                   · skip
                     subst c189
                     replace H:=sp_ H;rcases H with ⟨c190,H⟩ | ⟨c190,H⟩
                     · skip
                       subst c190
                       replace H:=sp_ H;rcases H with ⟨c191,H⟩ | ⟨c191,H⟩
                       · skip
                         subst c191
                         replace H:=Option.bind_eq_some_iff.mp H;obtain ⟨t1300,A192,H⟩:=H;(try dsimp only at H)
                         replace H:=sp_ H;rcases H with ⟨c193,H⟩ | ⟨c193,H⟩
                         · skip
                           subst c193
                           replace H:=np_ H;obtain ⟨c194,H⟩:=H;(try have m_t1296:0 < t1296.length:=by omega)
                           replace H:=sp_ H;rcases H with ⟨c195,H⟩ | ⟨c195,H⟩
                           · skip
                             replace c195:=ceq c195
                             replace H:=sp_ H;rcases H with ⟨c196,H⟩ | ⟨c196,H⟩
                             · skip
                               exact absurd HRT.out (by intro e_;subst e_;clear S F;cases kj159 with | zero=>exact absurd H (by simp [laws_FnSearch.j2]) | succ k_=>exact absurd H (by simp [laws_FnSearch.j2]))
                             · skip
                               replace H:=np_ H;obtain ⟨c201,H⟩:=H
                               replace H:=np_ H;obtain ⟨c202,H⟩:=H
                               replace H:=sp_ H;rcases H with ⟨c203,H⟩ | ⟨c203,H⟩
                               · skip
                                 exact absurd HRT.out (by intro e_;subst e_;clear S F;cases kj159 with | zero=>exact absurd H (by simp [laws_FnSearch.j2]) | succ k_=>exact absurd H (by simp [laws_FnSearch.j2]))
                               · skip
                                 replace H:=np_ H;obtain ⟨c209,H⟩:=H
                                 (first | (with_reducible replace H:=ob_ H;obtain ⟨y1303,hy1303,H⟩:=H;(try dsimp only at H)) | (obtain ⟨y1303,hy1303⟩:∃ y_:List Int,y_ = (t1256.take (t1284:Int).toNat):=⟨_,rfl⟩;(try rw [← hy1303] at H);(try simp only [Option.bind_some] at H)));have Ny1303:=Aside0.mk hy1303;clear hy1303
                                 replace H:=Option.bind_eq_some_iff.mp H;obtain ⟨t1307,A210,H⟩:=H;(try dsimp only at H)
                                 as_aux_lemma =>
                                  go_wp2_with (first | ((with_reducible refine gs (t:=27) rfl (L ?_));(first | refine sb (.agg #[_,_,_,_,_]) S sz27 ?_ | refine ro (.agg #[_,_,_,_,_]) S sz27 ?_ (ho:=rfl) (hx:=rfl) (hy:=rfl));clear S F;intro W S;(try rw [← Ny1303.out] at S);have F:=S.fc) | ((with_reducible refine gs (t:=30) rfl (L ?_));(first | refine sb (.agg #[_,_,_]) S sz30 ?_ | refine ro (.agg #[_,_,_]) S sz30 ?_ (ho:=rfl) (hx:=rfl) (hy:=rfl));clear S F;intro W S;(try rw [← Ny1303.out] at S);have F:=S.fc))
                                  (try have q203_:=Int.not_lt.mpr c203);(try have r203_:=Int.not_le.mpr c203);(try have q196_:=Int.not_lt.mpr c196);(try have r196_:=Int.not_le.mpr c196);(try have q195_:=Int.not_lt.mpr c195);(try have r195_:=Int.not_le.mpr c195);(try have q193_:=Int.not_lt.mpr c193);(try have r193_:=Int.not_le.mpr c193);(try have q191_:=Int.not_lt.mpr c191);(try have r191_:=Int.not_le.mpr c191);(try have q190_:=Int.not_lt.mpr c190);(try have r190_:=Int.not_le.mpr c190);(try have q189_:=Int.not_lt.mpr c189);(try have r189_:=Int.not_le.mpr c189);(try have q188_:=Int.not_lt.mpr c188);(try have r188_:=Int.not_le.mpr c188)
                                  refine rq S [(0,0),(0,1),(0,2),(0,3),(0,4),(0,5),(0,6),(0,7),(0,8),(0,9),(0,10),(0,11),(0,12),(0,13),(0,14),(0,15),(0,16),(2,17),(0,18),(0,19),(0,20),(0,21),(0,24),(0,25),(0,28),(1,22),(0,23),(2,26),(0,27),(0,29),(0,30),(0,31),(0,32),(0,33),(0,34),(0,35),(0,36),(0,37),(0,38),(0,39),(0,40),(2,41),(0,42),(0,43),(0,44),(0,45),(0,46),(0,47),(2,48),(0,49),(0,50)] [] (h:=?_);clear S F;intro W S;have S0:=S;have F:=S.fc
                                  repeat (first | (refine q0 (h:=?_)) | (refine q1 S0 (h:=?_)) | (refine q0n (h:=?_)) | (refine q1n S0 (h:=?_)) | (refine q2 S0 (h:=?_)))
                                  (try rw [Ny1303.out] at A192);refine lk2 (by rfl) (by exact (Eq.refl true)) ?_;refine cl (some 238) Try.func17 (laws_sameInts.calls _ _ _ _ _ _ _ _ _ S.c S.n S.c S.n A192) (hargs:=by first | (simp only [ma_,mb_,mc_,F] <;> rfl) | (simp only [ma_,mb_,mc_,F,List.length_take,List.length_drop];rw [Nat.min_eq_left] <;> first | rfl | omega)) (h:=?_);rintro e W ⟨rfl,hb⟩;refine ⟨_,rfl,?_⟩;replace S:=S.gw hb;clear F hb;have F:=S.fc
                                  clear S0;have S0:=S;refine ⟨S0,?_⟩
                                  have z_:=(S.rf At1296 rfl) 0 (by omega) (by omega);simp only [show ((0:Int)).toNat = 0 from rfl,Addr.add_zero'] at z_
                                  repeat (first | (refine q0 (h:=?_)) | (refine q1 S0 (h:=?_)) | (refine q0n (h:=?_)) | (refine q1n S0 (h:=?_)) | (refine q2 S0 (h:=?_)))
                                  (try rw [Ny1303.out] at A210);refine lk2 (by rfl) (by exact (Eq.refl true)) ?_;refine cl (some 269) Try.func48 (laws_pSum.calls _ _ _ _ _ _ S.c S.n A210) (hargs:=by first | (simp only [ma_,mb_,mc_,F] <;> rfl) | (simp only [ma_,mb_,mc_,F,List.length_take,List.length_drop];rw [Nat.min_eq_left] <;> first | rfl | omega)) (h:=?_);rintro e W ⟨rfl,hb⟩;refine ⟨_,rfl,?_⟩;replace S:=S.gw hb;clear F hb;have F:=S.fc
                                  clear S0;have S0:=S;refine ⟨S0,?_⟩
                                  repeat (first | (refine q0 (h:=?_)) | (refine q1 S0 (h:=?_)) | (refine q0n (h:=?_)) | (refine q1n S0 (h:=?_)) | (refine q2 S0 (h:=?_)))
                                  refine oz ?_
                                  try clear S0
                                  go_wp2_with (first | ((with_reducible refine gs (t:=27) rfl (L ?_));(first | refine sb (.agg #[_,_,_,_,_]) S sz27 ?_ | refine ro (.agg #[_,_,_,_,_]) S sz27 ?_ (ho:=rfl) (hx:=rfl) (hy:=rfl));clear S F;intro W S;(try rw [← Ny1303.out] at S);have F:=S.fc) | ((with_reducible refine gs (t:=30) rfl (L ?_));(first | refine sb (.agg #[_,_,_]) S sz30 ?_ | refine ro (.agg #[_,_,_]) S sz30 ?_ (ho:=rfl) (hx:=rfl) (hy:=rfl));clear S F;intro W S;(try rw [← Ny1303.out] at S);have F:=S.fc))
                                  go_meet
                                  case rel=>exact ⟨_,_,(by first | rfl | (simp;done) | (simp [*];done) | (rw [w6_ (by omega) (by omega)])),H,(by first | omega | exact Nat.le_refl _),(S.ms [0,0,1,1,1,1,0])⟩
                           · skip
                             replace c195:=cne c195
                             exact absurd HRT.out (by intro e_;subst e_;clear S F;cases kj159 with | zero=>exact absurd H (by simp [laws_FnSearch.j2]) | succ k_=>exact absurd H (by simp [laws_FnSearch.j2]))
                         · skip
                           replace c193:=cbf c193;subst c193
                           exact absurd HRT.out (by intro e_;subst e_;clear S F;cases kj159 with | zero=>exact absurd H (by simp [laws_FnSearch.j2]) | succ k_=>exact absurd H (by simp [laws_FnSearch.j2]))
                       · skip
                         replace c191:=cbf c191;subst c191
                         exact absurd HRT.out (by intro e_;subst e_;clear S F;cases kj159 with | zero=>exact absurd H (by simp [laws_FnSearch.j2]) | succ k_=>exact absurd H (by simp [laws_FnSearch.j2]))
                     · skip
                       replace c190:=cbf c190;subst c190
                       exact absurd HRT.out (by intro e_;subst e_;clear S F;cases kj159 with | zero=>exact absurd H (by simp [laws_FnSearch.j2]) | succ k_=>exact absurd H (by simp [laws_FnSearch.j2]))
                   · skip
                     replace c189:=cbf c189;subst c189
                     exact absurd HRT.out (by intro e_;subst e_;clear S F;cases kj159 with | zero=>exact absurd H (by simp [laws_FnSearch.j2]) | succ k_=>exact absurd H (by simp [laws_FnSearch.j2]))
                 · skip
                   replace c188:=cbf c188;subst c188
                   exact absurd HRT.out (by intro e_;subst e_;clear S F;cases kj159 with | zero=>exact absurd H (by simp [laws_FnSearch.j2]) | succ k_=>exact absurd H (by simp [laws_FnSearch.j2]))
                case rest =>
                 as_aux_lemma =>
                  clear H S F
                  obtain ⟨kq,x271_176,rfl,HA,HJ176,S⟩:=hcut
                  have F:=S.fc
                  cases kq with
                  | zero=>exact absurd HA (by simp [laws_FnSearch.j2])
                  | succ kj176 =>
                   have H:=HA;clear HA;simp only [laws_FnSearch.j2,F] at H
                   replace H:=sp_ H;rcases H with ⟨c226,H⟩ | ⟨c226,H⟩
                   · skip
                     subst c226
                     exact absurd (H.trans (congrArg some HRT.out)) (by simp)
                   · skip
                     replace c226:=cbf c226;subst c226
                     replace H:=np_ H;obtain ⟨c227,H⟩:=H;(try have m_t1245:0 < t1245.length:=by omega)
                     replace H:=Option.bind_eq_some_iff.mp H;obtain ⟨⟨t1309,t1310⟩,A228,H⟩:=H;(try dsimp only at H)
                     replace H:=sp_ H;rcases H with ⟨c229,H⟩ | ⟨c229,H⟩
                     · skip
                       subst c229
                       replace H:=np_ H;obtain ⟨c230,H⟩:=H;(try have m_t1248:0 < t1248.length:=by omega)
                       replace H:=sp_ H;rcases H with ⟨c231,H⟩ | ⟨c231,H⟩
                       · skip
                         replace c231:=ceq c231
                         as_aux_lemma =>
                          go_wp2_with (first | ((with_reducible refine gs (t:=27) rfl (L ?_));(first | refine sb (.agg #[_,_,_,_,_]) S sz27 ?_ | refine ro (.agg #[_,_,_,_,_]) S sz27 ?_ (ho:=rfl) (hx:=rfl) (hy:=rfl));(clear S F;intro W S;have F:=S.fc)) | ((with_reducible refine gs (t:=30) rfl (L ?_));(first | refine sb (.agg #[_,_,_]) S sz30 ?_ | refine ro (.agg #[_,_,_]) S sz30 ?_ (ho:=rfl) (hx:=rfl) (hy:=rfl));(clear S F;intro W S;have F:=S.fc)))
                          refine rq S [(0,1),(1,0),(1,2),(0,3),(1,4),(2,5),(0,6),(0,7),(0,8),(0,9),(0,10)] [] (h:=?_);clear S F;intro W S;have S0:=S;have F:=S.fc
                          repeat (first | (refine q0 (h:=?_)) | (refine q1 S0 (h:=?_)) | (refine q0n (h:=?_)) | (refine q1n S0 (h:=?_)))
                          refine q1 S0 (hv:=by intro W S;have F:=S.fc;have z_:=(S.rf At1245 rfl) 0 (by omega) (by omega);simp only [show ((0:Int)).toNat = 0 from rfl,Addr.add_zero'] at z_;go_simp;first | with_reducible rfl) (h:=?_)
                          repeat (first | (refine q0 (h:=?_)) | (refine q1 S0 (h:=?_)) | (refine q0n (h:=?_)) | (refine q1n S0 (h:=?_)))
                          (try rw [Ny1303.out] at A228);refine lk2 (by rfl) (by exact (Eq.refl true)) ?_;refine cl (some 278) Try.func51 (impl_EndNumber.calls _ _ _ _ _ _ _ _ _ _ S.c S.n A228) (hargs:=by first | (simp only [ma_,mb_,mc_,F] <;> rfl) | (simp only [ma_,mb_,mc_,F,List.length_take,List.length_drop];rw [Nat.min_eq_left] <;> first | rfl | omega)) (h:=?_);rintro e W ⟨rfl,hb⟩;refine ⟨_,rfl,?_⟩;replace S:=S.go hb;clear F hb;have F:=S.fc
                          clear S0;have S0:=S;refine ⟨S0,?_⟩
                          repeat (first | (refine q0 (h:=?_)) | (refine q1 S0 (h:=?_)) | (refine q0n (h:=?_)) | (refine q1n S0 (h:=?_)))
                          refine oz ?_
                          try clear S0
                          have z_:=(S.rf At1248 rfl) 0 (by omega) (by omega);simp only [show ((0:Int)).toNat = 0 from rfl,Addr.add_zero'] at z_
                          go_wp2_with (first | ((with_reducible refine gs (t:=27) rfl (L ?_));(first | refine sb (.agg #[_,_,_,_,_]) S sz27 ?_ | refine ro (.agg #[_,_,_,_,_]) S sz27 ?_ (ho:=rfl) (hx:=rfl) (hy:=rfl));(clear S F;intro W S;have F:=S.fc)) | ((with_reducible refine gs (t:=30) rfl (L ?_));(first | refine sb (.agg #[_,_,_]) S sz30 ?_ | refine ro (.agg #[_,_,_]) S sz30 ?_ (ho:=rfl) (hx:=rfl) (hy:=rfl));(clear S F;intro W S;have F:=S.fc)))
                          go_meet
                          case rel=>exact ⟨_,H,(by first | omega | exact Nat.le_refl _),S⟩
                       · skip
                         replace c231:=cne c231
                         exact absurd (H.trans (congrArg some HRT.out)) (by simp)
                     · skip
                       replace c229:=cbf c229;subst c229
                       exact absurd (H.trans (congrArg some HRT.out)) (by simp)
              · skip
                replace c173:=cbf c173;subst c173
                as_aux_lemma =>
                 go_wp2_with (first | ((with_reducible refine gs (t:=27) rfl (L ?_));(first | refine sb (.agg #[_,_,_,_,_]) S sz27 ?_ | refine ro (.agg #[_,_,_,_,_]) S sz27 ?_ (ho:=rfl) (hx:=rfl) (hy:=rfl));(clear S F;intro W S;have F:=S.fc)) | ((with_reducible refine gs (t:=30) rfl (L ?_));(first | refine sb (.agg #[_,_,_]) S sz30 ?_ | refine ro (.agg #[_,_,_]) S sz30 ?_ (ho:=rfl) (hx:=rfl) (hy:=rfl));(clear S F;intro W S;have F:=S.fc)))
                 go_meet
                 case rel=>exact ⟨_,H,(by first | omega | exact Nat.le_refl _),(S.ms [1,1,1,1,0])⟩
             case rest =>
              as_aux_lemma =>
               clear H S F
               obtain ⟨kq,HA,HJ171,S⟩:=hcut
               have F:=S.fc
               cases kq with
               | zero=>exact absurd HA (by simp [laws_FnSearch.j3])
               | succ kj171 =>
                have H:=HA;clear HA;simp only [laws_FnSearch.j3,F] at H
                replace H:=Option.bind_eq_some_iff.mp H;obtain ⟨⟨t1312,t1313,t1314,t1317,t1320,t1323,t1324,t1325⟩,A237,H⟩:=H;(try dsimp only at H)
                replace H:=Option.bind_eq_some_iff.mp H;obtain ⟨⟨t1330,t1331⟩,A238,H⟩:=H;(try dsimp only at H)
                replace H:=Option.bind_eq_some_iff.mp H;obtain ⟨⟨t1332,t1333⟩,A239,H⟩:=H;(try dsimp only at H)
                replace H:=Option.bind_eq_some_iff.mp H;obtain ⟨⟨t1334,t1335,t1336,t1339⟩,A240,H⟩:=H;(try dsimp only at H)
                replace H:=Option.bind_eq_some_iff.mp H;obtain ⟨⟨t1341,t1342⟩,A241,H⟩:=H;(try dsimp only at H)
                replace H:=Option.bind_eq_some_iff.mp H;obtain ⟨⟨t1343,t1344⟩,A242,H⟩:=H;(try dsimp only at H)
                replace H:=sp_ H;rcases H with ⟨c243,H⟩ | ⟨c243,H⟩
                · skip
                  replace H:=sp_ H;rcases H with ⟨c244,H⟩ | ⟨c244,H⟩
                  · skip
                    replace H:=sp_ H;rcases H with ⟨c245,H⟩ | ⟨c245,H⟩
                    · skip
                      obtain rfl:=Option.some.inj H
                      go_wp2_with (first | ((with_reducible refine gate_callee (f:=52) rfl (L ?_));(try rw [Ny1303.out] at A237);refine cl (some 293) Try.func52 (spec_DrawMeetsChallenge.calls _ _ _ _ _ _ _ _ _ _ _ _ _ S.c S.n A237) (hargs:=by first | (simp only [ma_,mb_,mc_,F] <;> rfl) | (simp only [ma_,mb_,mc_,F,List.length_take,List.length_drop];rw [Nat.min_eq_left] <;> first | rfl | omega)) (h:=?_);rintro e W ⟨v1315,v1318,v1321,v1326,rfl,ho0,ho1,ho2,ho3,hb⟩;refine ⟨_,rfl,?_⟩;replace S:=S.g4 at42 (atI .i64) (atI .i64) at42 hb ho0 ho1 ho2 ho3;obtain ⟨At1314,ct1314,At1317,ct1317,At1320,ct1320,At1325,ct1325,rfl,rfl,rfl,rfl,S⟩:=S;clear F hb ho0 ho1 ho2 ho3;have F:=S.fc) | ((with_reducible refine gd 34 rfl (L ?_));refine al 34 S zi27 ?_;clear S F;intro gb1328 W S;have F:=S.fc) | ((with_reducible refine gd 35 rfl (L ?_));refine al 35 S zi30 ?_;clear S F;intro gb1329 W S;have F:=S.fc) | ((with_reducible refine gate_callee (f:=18) rfl (L ?_));(try rw [Ny1303.out] at A238);refine cl (some 299) Try.func18 (impl_MeetsChallenge.calls _ _ _ _ _ _ _ _ _ _ _ _ _ _ _ _ _ _ _ _ S.c S.n S.c S.n S.c S.n S.c S.n A238) (hargs:=by first | (simp only [ma_,mb_,mc_,F] <;> rfl) | (simp only [ma_,mb_,mc_,F,List.length_take,List.length_drop];rw [Nat.min_eq_left] <;> first | rfl | omega)) (h:=?_);rintro e W ⟨rfl,hb⟩;refine ⟨_,rfl,?_⟩;replace S:=S.go hb;clear F hb;have F:=S.fc) | ((with_reducible refine gate_callee (f:=53) rfl (L ?_));(try rw [Ny1303.out] at A239);refine cl (some 305) Try.func53 (spec_MeetsChallenge.calls _ _ _ _ _ _ _ _ _ _ _ _ _ _ _ _ _ _ _ _ S.c S.n S.c S.n S.c S.n S.c S.n A239) (hargs:=by first | (simp only [ma_,mb_,mc_,F] <;> rfl) | (simp only [ma_,mb_,mc_,F,List.length_take,List.length_drop];rw [Nat.min_eq_left] <;> first | rfl | omega)) (h:=?_);rintro e W ⟨rfl,hb⟩;refine ⟨_,rfl,?_⟩;replace S:=S.go hb;clear F hb;have F:=S.fc) | ((with_reducible refine gate_callee (f:=54) rfl (L ?_));(try rw [Ny1303.out] at A240);refine cl (some 310) Try.func54 (spec_DrawEndNumber.calls _ _ _ _ _ _ _ _ _ S.c S.n A240) (hargs:=by first | (simp only [ma_,mb_,mc_,F] <;> rfl) | (simp only [ma_,mb_,mc_,F,List.length_take,List.length_drop];rw [Nat.min_eq_left] <;> first | rfl | omega)) (h:=?_);rintro e W ⟨v1337,rfl,ho0,hb⟩;refine ⟨_,rfl,?_⟩;replace S:=S.gotq at42 hb ho0;obtain ⟨At1336,ct1336,rfl,S⟩:=S;clear F hb ho0;have F:=S.fc) | ((with_reducible refine gd 40 rfl (L ?_));refine al 40 S zi30 ?_;clear S F;intro gb1340 W S;have F:=S.fc) | ((with_reducible refine gate_callee (f:=51) rfl (L ?_));(try rw [Ny1303.out] at A241);refine cl (some 316) Try.func51 (impl_EndNumber.calls _ _ _ _ _ _ _ _ _ _ S.c S.n A241) (hargs:=by first | (simp only [ma_,mb_,mc_,F] <;> rfl) | (simp only [ma_,mb_,mc_,F,List.length_take,List.length_drop];rw [Nat.min_eq_left] <;> first | rfl | omega)) (h:=?_);rintro e W ⟨rfl,hb⟩;refine ⟨_,rfl,?_⟩;replace S:=S.go hb;clear F hb;have F:=S.fc) | ((with_reducible refine gate_callee (f:=55) rfl (L ?_));(try rw [Ny1303.out] at A242);refine cl (some 322) Try.func55 (spec_EndNumber.calls _ _ _ _ _ _ _ _ _ _ S.c S.n A242) (hargs:=by first | (simp only [ma_,mb_,mc_,F] <;> rfl) | (simp only [ma_,mb_,mc_,F,List.length_take,List.length_drop];rw [Nat.min_eq_left] <;> first | rfl | omega)) (h:=?_);rintro e W ⟨rfl,hb⟩;refine ⟨_,rfl,?_⟩;replace S:=S.go hb;clear F hb;have F:=S.fc) | ((with_reducible refine gs (t:=27) rfl (L ?_));(first | refine sb (.agg #[_,_,_,_,_]) S sz27 ?_ | refine ro (.agg #[_,_,_,_,_]) S sz27 ?_ (ho:=rfl) (hx:=rfl) (hy:=rfl));(clear S F;intro W S;have F:=S.fc)) | ((with_reducible refine gs (t:=30) rfl (L ?_));(first | refine sb (.agg #[_,_,_]) S sz30 ?_ | refine ro (.agg #[_,_,_]) S sz30 ?_ (ho:=rfl) (hx:=rfl) (hy:=rfl));(clear S F;intro W S;have F:=S.fc)))
                      go_ret
                      exact ⟨(by first | rfl | (simp [e0_,e1_] <;> rfl) | (simp [*,e0_,e1_] <;> rfl)),S.below⟩
                    · skip
                      try replace c245:=cbf c245
                      exact absurd (H.trans (congrArg some HRT.out)) (by simp)
                  · skip
                    try replace c244:=cbf c244
                    exact absurd (H.trans (congrArg some HRT.out)) (by simp)
                · skip
                  try replace c243:=cbf c243
                  exact absurd (H.trans (congrArg some HRT.out)) (by simp)
end Go.Proofs.Ytnmffpfiichjgaa.F
