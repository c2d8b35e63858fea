-- Printed by a program; checked here.
import Derived.Test.YtipaimgpmgbkiaaF0
import Derived.Test.YtipaimgpmgbkiaaF1
import Derived.Test.YtipaimgpmgbkiaaF2
namespace Go.Proofs.Ytipaimgpmgbkiaa.F
open Go.RowKit Go.Proofs.YtipaimgpmgbkiaaV.PrintWords Go.Proofs.YtipaimgpmgbkiaaV.PrintLast Go.Proofs.YtipaimgpmgbkiaaV.PrintMore Go.Proofs.YtipaimgpmgbkiaaV.Sl Go.Proofs.YtipaimgpmgbkiaaV.Rf
attribute [local go_sem] max2_int min2_int max_two min_two max_three min_three max_four min_four ia_opt it_opt
attribute [local go_sem] Try.underlying4 Try.underlying23 Try.underlying25 Try.underlying29 Try.underlying31 Try.underlying41 Try.underlying42 Try.underlying46 Try.underlying50 Try.underlying63 Try.underlying85 Try.underlying88 Try.underlying89 Try.underlying106 Try.underlying122 Try.underlying127
set_option maxHeartbeats 8000000
set_option maxRecDepth 100000
set_option linter.unusedVariables false
set_option linter.unusedSimpArgs false

attribute [local go_sem high] eqA88
/-! ### spec_ggGroups: function 136 -/
mutual
def spec_ggGroups.l0:Nat→List Int→Int→Int→Int→Int→List (S88)→Option (List Int)
 | 0,_,_,_,_,_,_=>none
 | k + 1,x3,x17,x18,x217000,x217001,x217002=>if x18 < x17 then (if 0 ≤ x18 then (if x18 < (x3.length:Int) then (spec_ggGroups.l0 k (x3.set (x18:Int).toNat (-1)) x17 (wrap64 (x18 + 1)) x217000 x217001 x217002) else (none)) else (none)) else (spec_ggGroups.l1 k x3 0 x217002 (x217002.length:Int) 0 x217000 x217001 x217002)
def spec_ggGroups.l1:Nat→List Int→Int→List (S88)→Int→Int→Int→Int→List (S88)→Option (List Int)
 | 0,_,_,_,_,_,_,_,_=>none
 | k + 1,x3,x5,x26,x27,x28,x217000,x217001,x217002=>if x28 < x27 then (if 0 ≤ x28 then (if x28 < (x26.length:Int) then ((spec_ggGear.f ((rd_T88 x26 x28).f0) ((rd_T88 x26 x28).f1)).bind fun t223=>(if t223 = true then (if x28 < (x3.length:Int) then (spec_ggGroups.j2 k x3 x5 x28 x26 x27 x28 (decide ((rd x3 x28) ≥ 0)) x217000 x217001 x217002) else (none)) else (spec_ggGroups.j2 k x3 x5 x28 x26 x27 x28 true x217000 x217001 x217002))) else (none)) else (none)) else (some x3)
def spec_ggGroups.j2:Nat→List Int→Int→Int→List (S88)→Int→Int→Bool→Int→Int→List (S88)→Option (List Int)
 | 0,_,_,_,_,_,_,_,_,_,_=>none
 | k + 1,x3,x5,x6,x26,x27,x28,x42,x217000,x217001,x217002=>if x42 = true then (spec_ggGroups.l1 k x3 x5 x26 x27 (wrap64 (x28 + 1)) x217000 x217001 x217002) else (if 0 ≤ x6 then (if x6 < (x3.length:Int) then (spec_ggGroups.l2 k (x3.set (x6:Int).toNat x5) x5 (([x6]:List Int)) 0 x26 x27 x28 x217000 x217001 x217002) else (none)) else (none))
def spec_ggGroups.l2:Nat→List Int→Int→List Int→Int→List (S88)→Int→Int→Int→Int→List (S88)→Option (List Int)
 | 0,_,_,_,_,_,_,_,_,_,_=>none
 | k + 1,x3,x5,x8,x9,x26,x27,x28,x217000,x217001,x217002=>if x9 < (x8.length:Int) then (if 0 ≤ x9 then ((spec_ggNear.f k x217000 x217001 x217002 (rd x8 x9)).bind fun t230=>(spec_ggGroups.l3 k x3 x5 x8 x9 x26 x27 x28 t230 (t230.length:Int) 0 x217000 x217001 x217002)) else (none)) else (spec_ggGroups.l1 k x3 (wrap64 (x5 + 1)) x26 x27 (wrap64 (x28 + 1)) x217000 x217001 x217002)
def spec_ggGroups.l3:Nat→List Int→Int→List Int→Int→List (S88)→Int→Int→List Int→Int→Int→Int→Int→List (S88)→Option (List Int)
 | 0,_,_,_,_,_,_,_,_,_,_,_,_,_=>none
 | k + 1,x3,x5,x8,x9,x26,x27,x28,x60,x61,x62,x217000,x217001,x217002=>if x62 < x61 then (if 0 ≤ x62 then (if x62 < (x60.length:Int) then (if 0 ≤ (rd x60 x62) then (if (rd x60 x62) < (x217002.length:Int) then ((spec_ggGear.f ((rd_T88 x217002 (rd x60 x62)).f0) ((rd_T88 x217002 (rd x60 x62)).f1)).bind fun t235=>(if t235 = true then (if (rd x60 x62) < (x3.length:Int) then (if (rd x3 (rd x60 x62)) < 0 then (if x8.length < 17592186044416 then (spec_ggGroups.l3 k (x3.set ((rd x60 x62):Int).toNat x5) x5 (x8 ++ [rd x60 x62]) x9 x26 x27 x28 x60 x61 (wrap64 (x62 + 1)) x217000 x217001 x217002) else (none)) else (spec_ggGroups.l3 k x3 x5 x8 x9 x26 x27 x28 x60 x61 (wrap64 (x62 + 1)) x217000 x217001 x217002)) else (none)) else (spec_ggGroups.l3 k x3 x5 x8 x9 x26 x27 x28 x60 x61 (wrap64 (x62 + 1)) x217000 x217001 x217002))) else (none)) else (none)) else (none)) else (none)) else (spec_ggGroups.l2 k x3 x5 x8 (wrap64 (x9 + 1)) x26 x27 x28 x217000 x217001 x217002)
end
def spec_ggGroups.f (k:Nat) (a0_0:Int) (a0_1:Int) (l0_2:List (S88)):Option (List Int):=if 0 ≤ (l0_2.length:Int) then (if ((l0_2.length:Int):Int).toNat ≤ 35184372088832 then ((some (List.replicate ((l0_2.length:Int):Int).toNat 0:List Int)).bind fun y217=>(spec_ggGroups.l0 k y217 (y217.length:Int) 0 a0_0 a0_1 l0_2)) else (none)) else (none)
def spec_ggGroups.T17:Bool × List (List Nat × List Nat):=(true,[([],[]),([],[]),([],[]),([1,2],[1,2]),([3],[3]),([0,4],[0,4]),([5],[5]),([],[])])
def spec_ggGroups.B17:List Nat:=[0,0,0,6,14,31,63,0]
theorem spec_ggGroups.tab17:rtab .any (opsOf Try.f136 17) = spec_ggGroups.T17:=by kernel_rfl
theorem spec_ggGroups.bits17:waitsOk spec_ggGroups.T17.2 spec_ggGroups.B17 = true:=by kernel_rfl
theorem spec_ggGroups.calls (k:Nat) (a0_0:Int) (a0_1:Int) (A0_2:Option Addr) (c0_2:Nat) (l0_2:List (S88)) (r:List Int) (w:World) (hr0_2:Kd.C k88 w A0_2 l0_2.length l0_2) (hc0_2:l0_2.length ≤ c0_2) (h:spec_ggGroups.f k a0_0 a0_1 l0_2 = some r) :
  Calls Try.prog 136 #[.agg #[.int .i64 a0_0,.int .i64 a0_1,.slice A0_2 l0_2.length c0_2]] w fun e w'=>∃ v0_:Value,e = .returned (v0_)∧Kd.R (Kd.int .i64) 3 w' w.heap.size (fun _=>True) v0_ r∧Below w.heap.size w w':=by
 have HR0_2:=Aside0.mk hr0_2;have HC0_2:=Aside0.mk hc0_2;clear hr0_2 hc0_2;have HB:=Aside0.mk (Below.refl w.heap.size w);have H:(if 0 ≤ (l0_2.length:Int) then (if ((l0_2.length:Int):Int).toNat ≤ 35184372088832 then ((some (List.replicate ((l0_2.length:Int):Int).toNat 0:List Int)).bind fun y217=>(spec_ggGroups.l0 k y217 (y217.length:Int) 0 a0_0 a0_1 l0_2)) else (none)) else (none)) = some r:=h;clear h;replace H:=np_ H;obtain ⟨c2,H⟩:=H;have c2b0:=eq_true c2;have c2b1:decide (0 ≤ (l0_2.length:Int)) = true:=decide_eq_true c2;clear c2;replace H:=np_ H;obtain ⟨c3,H⟩:=H;have c3b0:=eq_true c3;have c3b1:decide (((l0_2.length:Int):Int).toNat ≤ 35184372088832) = true:=decide_eq_true c3;clear c3;obtain ⟨y217,hy217⟩:∃ y_:List Int,y_ = (List.replicate ((l0_2.length:Int):Int).toNat 0):=⟨_,rfl⟩
 replace H:(spec_ggGroups.l0 k y217 (y217.length:Int) 0 a0_0 a0_1 l0_2) = some r:=by first | (rw [hy217];with_reducible exact H) | (have H2_:=(Option.bind_some _ _).symm.trans H;rw [hy217];with_reducible exact H2_) | (have H2_:=(Option.bind_some _ _).symm.trans H;with_reducible exact H2_) | with_reducible exact H | (rw [hy217];exact H) | exact H
 have Ny217:=Aside0.mk hy217;clear hy217;have H':=Aside0.mk H;clear H;go_enter Try.func136,Try.ntmps136;go_wp2_with (first | ((with_reducible refine gate_dst (N:=1) rfl ?_);refine box_event ?hg (N:=1) ?hd (cs:=#[.int .i64 a0_0,.int .i64 a0_1,.slice A0_2 l0_2.length c0_2]) (t:=50) ?hr ?_;(case hd=>rfl);(case hg=>rfl);(case hr=>first | (go_simp;done) | (go_simp;rfl));intro gb216 hg w4 hbox hb;refine ev4 (bs HB hb) (hbox) (gle hg HB) (gle hg HB) ?_;clear HB;intro HB BK216 GW216 GE216;clear hb hbox hg;obtain ⟨hcz5_0,hcz5_1,hcz5_2,hfz5_0,hfz5_1,hfz5_2⟩:=bt3 BK216) | ((with_reducible refine gate_dst (N:=15) rfl ?_);refine Kd.R_make (Kd.int .i64) _ 3 rfl (N:=15) rfl 23 _ _ rfl (l0_2.length:Int) rfl rfl Try.underlying23 (.int .i64 0) 8 info3 rfl (by decide) (by omega) 0 (ok:=fun _=>True) (okp:=fun _=>True) rfl (fun _ hk=>hk) trivial (of_decide_eq_true (by first | (with_reducible assumption) | assumption)) (Nat.le_trans (Nat.mul_le_mul_right _ (of_decide_eq_true (by first | (with_reducible assumption) | assumption):(l0_2.length:Int).toNat ≤ 35184372088832)) (by omega)) (Below.refl _ _) (Nat.le_refl _) ?_;intro v218 w6 ho7 hb hg_ hnew_;clear hg_ hnew_;(first | rw [← Ny217.out] at ho7 | (simp only [Int.reduceToNat] at ho7;rw [← Ny217.out] at ho7));refine ev3 (Kd.R_lower ho7 (below_size (bm HB))) (kb BK216 hb) (bs HB hb) ?_;clear BK216 HB;intro HO219 BK216 HB;clear hb ho7;obtain ⟨Ao8,co8,eo8⟩:=Kd.R_slice HO219.out;subst eo8))
 go_loopg [18] k (fun kq v18 w'=>∃ (x3_1:List Int) (x18_1:Int),v18 = .int .i64 x18_1∧Aside0 (spec_ggGroups.l0 kq x3_1 (y217.length:Int) x18_1 a0_0 a0_1 l0_2 = some r)∧Aside0 (kq ≤ k)∧Aside0 (Kd.R (Kd.int .i64) 3 w' w.heap.size (fun _=>True) (.slice Ao8 y217.length co8) x3_1)∧Aside0 (w'.heap[gb216]? = some (.cells #[.int .i64 a0_0,.int .i64 a0_1,(.slice A0_2 l0_2.length c0_2)] 50 (0,0)))∧Aside0 (Below w.heap.size w w'))
 case atStart=>exact ⟨(y217),(0),(by first | rfl | (simp;done) | (simp [*];done)),H',⟨Nat.le_refl _⟩,⟨Kd.R_mv HO219.out⟩,⟨km_ BK216⟩,⟨bm HB⟩⟩
 case round =>
  clear H';(try clear c1);(try clear c2);(try clear c2b0);(try clear c2b1);(try clear p2);(try clear c3);(try clear c3b0);(try clear c3b1);(try clear hcz5_0 hcz5_1 hcz5_2 hfz5_0 hfz5_1 hfz5_2);obtain ⟨x3_1,x18_1,rfl,HA,HK1,HO_3,BK216,HB⟩:=hrel;have hl3_1:=(Kd.R_reads' HO_3.out).1;rw [hl3_1] at HO_3;(try simp only [hl3_1])
  (try simp only [hl3_1] at BK216)
  cases gk with
  | zero=>exact absurd HA.out (by simp [spec_ggGroups.l0])
  | succ k1 =>
   have H:=HA.out;clear HA;simp only [spec_ggGroups.l0] at H;by_cases c9:x18_1 < (y217.length:Int)
   ·rw [if_pos c9] at H;have c9b0:decide (x18_1 < (y217.length:Int)) = true:=decide_eq_true c9;(try simp only [hl3_1] at c9b0)
    clear c9;replace H:=np_ H;obtain ⟨c10,H⟩:=H;have c10b0:decide (0 ≤ x18_1) = true:=decide_eq_true c10;clear c10;replace H:=np_ H;obtain ⟨c11,H⟩:=H;have c11b0:decide (x18_1 < (x3_1.length:Int)) = true:=decide_eq_true c11;(try simp only [hl3_1] at c11b0)
    clear c11;obtain ⟨y220,hy220⟩:∃ y_:List Int,y_ = (x3_1.set (x18_1:Int).toNat (-1)):=⟨_,rfl⟩
    replace H:(spec_ggGroups.l0 k1 y220 (y217.length:Int) (wrap64 (x18_1 + 1)) a0_0 a0_1 l0_2) = some r:=by first | (rw [hy220];with_reducible exact H) | (have H2_:=(Option.bind_some _ _).symm.trans H;rw [hy220];with_reducible exact H2_) | (have H2_:=(Option.bind_some _ _).symm.trans H;with_reducible exact H2_) | with_reducible exact H | (rw [hy220];exact H) | exact H
    have Ny220:=Aside0.mk hy220;clear hy220;have H':=Aside0.mk H;clear H;have p12:0 ≤ (x18_1:Int):=of_decide_eq_true (by first | (with_reducible assumption) | assumption);have q12:(x18_1:Int) < ((x3_1.length:Int):Int):=of_decide_eq_true (by first | (with_reducible assumption) | assumption);obtain ⟨go12,co12,eo12,gb12,gl12,cl12,HG12⟩:=Kd.R_form HO_3.out (by omega);(first | cases eo12 | (injection eo12 with ea_ en_ ec_;(first | subst ea_ | (injection ea_ with ea_;subst ea_));subst ec_;clear en_))
    have GB12:=Aside0.mk gb12;have GG12:=Aside0.mk HG12;clear gb12 gl12 HG12;obtain ⟨hx12_0,hf12_0⟩:=Kd.R_celln 0 HO_3.out (x18_1:Int) p12 q12;replace p12:=eq_true p12;replace q12:=eq_true q12;have HP13:=Kd.R_putg HO_3.out (x18_1:Int) (-1);go_wp2_with (first | ((with_reducible refine gate_store (t:=3) (p:=23) rfl ?_);refine store_event (t:=3) (p:=23) (v:=?vo_w14) (w1:=(wr.setCell ⟨go12,(x18_1:Int).toNat,none⟩ (.int .i64 (-1)))) ?hg ?ho ?hn ?hr ?_;(case ho=>rfl);(case hg=>rfl);(case hn=>rfl);(case hr=>first | (go_simp;done) | (go_simp;rfl));intro w14 hw;have hg:wr.grownBy w14 (some go12):=(by rw [hw];exact HP13.2);have hp_:Kd.R (Kd.int .i64) 3 w14 w.heap.size (fun _=>True) (.slice (some ⟨go12,0,none⟩) x3_1.length co8) y220:=(by rw [hw,Ny220.out];exact HP13.1);clear HP13;refine ev3 (hp_) (blk_grown (km_ BK216) hg (Kd.R_ne HO_3.out BK216.out (by decide))) ((by rw [hw];exact below_set (HB.out) GB12.out:Below w.heap.size w w14)) ?_;clear HO_3 BK216 HB;intro HO_3 BK216 HB;clear hg hw hp_))
    (try simp only [← hl3_1])
    go_roundg k1
    case measure=>have:=HK1.out;omega
    case rel=>exact ⟨(y220),(wrap64 (x18_1 + 1)),(by first | rfl | (simp;done) | (simp [*];done)),H',⟨by have:=HK1.out;omega⟩,⟨by (try simp only [hl3_1]);exact Kd.R_mv HO_3.out⟩,⟨by (try simp only [hl3_1]);exact km_ BK216⟩,⟨bm HB⟩⟩
   ·rw [if_neg c9] at H;have c9b0:decide (x18_1 < (y217.length:Int)) = false:=decide_eq_false c9;(try simp only [hl3_1] at c9b0)
    clear c9;have H':=Aside0.mk H;clear H;obtain ⟨hcz15_0,hcz15_1,hcz15_2,hfz15_0,hfz15_1,hfz15_2⟩:=bt3 BK216;go_wp2;go_loopg [5,28] k1 (fun kq v5 v28 w'=>∃ (x3_2:List Int) (x5_2:Int) (x28_2:Int),v5 = .int .i64 x5_2∧v28 = .int .i64 x28_2∧Aside0 (spec_ggGroups.l1 kq x3_2 x5_2 l0_2 (l0_2.length:Int) x28_2 a0_0 a0_1 l0_2 = some r)∧Aside0 (kq ≤ k1)∧Aside0 (Kd.R (Kd.int .i64) 3 w' w.heap.size (fun _=>True) (.slice Ao8 x3_1.length co8) x3_2)∧Aside0 (w'.heap[gb216]? = some (.cells #[.int .i64 a0_0,.int .i64 a0_1,(.slice A0_2 l0_2.length c0_2)] 50 (0,0)))∧Aside0 (Below w.heap.size w w'))
    case atStart=>exact ⟨(x3_1),(0),(0),(by first | rfl | (simp;done) | (simp [*];done)),(by first | rfl | (simp;done) | (simp [*];done)),H',⟨Nat.le_refl _⟩,⟨by (try simp only [hl3_1]);exact Kd.R_mv HO_3.out⟩,⟨by (try simp only [hl3_1]);exact km_ BK216⟩,⟨bm HB⟩⟩
    case round =>
     clear H';(try clear c1);(try clear c2);(try clear c2b0);(try clear c2b1);(try clear p2);(try clear c3);(try clear c3b0);(try clear c3b1);(try clear c9);(try clear c9b0);(try clear c13);(try clear hcz15_0 hcz15_1 hcz15_2 hfz15_0 hfz15_1 hfz15_2);(try clear hcz5_0 hcz5_1 hcz5_2 hfz5_0 hfz5_1 hfz5_2);(try clear p2);obtain ⟨x3_2,x5_2,x28_2,rfl,rfl,HA,HK2,HO_3,BK216,HB⟩:=hrel;have hl3_2:=(Kd.R_reads' HO_3.out).1;rw [hl3_2] at HO_3;(try simp only [hl3_2])
     (try simp only [hl3_2] at BK216)
     cases gk with
     | zero=>exact absurd HA.out (by simp [spec_ggGroups.l1])
     | succ k2 =>
      have H:=HA.out;clear HA;simp only [spec_ggGroups.l1] at H;by_cases c16:x28_2 < (l0_2.length:Int)
      ·rw [if_pos c16] at H;have c16b0:decide (x28_2 < (l0_2.length:Int)) = true:=decide_eq_true c16;(try simp only [hl3_1] at c16b0)
       (try simp only [hl3_2] at c16b0)
       clear c16;replace H:=np_ H;obtain ⟨c17,H⟩:=H;have c17b0:decide (0 ≤ x28_2) = true:=decide_eq_true c17;clear c17;replace H:=np_ H;obtain ⟨c18,H⟩:=H;have c18b0:decide (x28_2 < (l0_2.length:Int)) = true:=decide_eq_true c18;(try simp only [hl3_1] at c18b0)
       (try simp only [hl3_2] at c18b0)
       clear c18;have HC19:=Aside0.mk H;clear H;have p221:0 ≤ (x28_2:Int):=of_decide_eq_true (by first | (with_reducible assumption) | assumption);have q221:x28_2 < (l0_2.length:Int):=of_decide_eq_true (by first | (with_reducible assumption) | assumption);obtain ⟨ad221,e221,hx221_0,hx221_1⟩:=at_T88 HR0_2.out x28_2 p221 q221;cases e221;replace hx221_0:=(HB.out.cell (World.block_lt_of_cell? w _ hx221_0)).trans hx221_0;replace hx221_1:=(HB.out.cell (World.block_lt_of_cell? w _ hx221_1)).trans hx221_1;replace p221:=eq_true p221;replace q221:=eq_true q221;go_upto_region 11 with (first | ((with_reducible refine gate_dst (N:=7) rfl ?_);refine box_event ?hg (N:=7) ?hd (cs:=#[.int .i64 0,.int .i64 0]) (t:=88) ?hr ?_;(case hd=>rfl);(case hg=>rfl);(case hr=>first | (go_simp;done) | (go_simp;rfl));intro gb222 hg w20 hbox hb;refine ev8 (Kd.R_below (Kd.R_mv HO_3.out) hb) (kb BK216 hb) (bs HB hb) (hbox) (gle hg HB) (gle hg HB) (gnf hg BK216) (gne hg BK216) ?_;clear HO_3 BK216 HB;intro HO_3 BK216 HB BK222 GW222 GE222 NB216_222 NB222_216;clear hb hbox hg;have hnb21:=NB222_216.out;have hnc21:=NB216_222.out;obtain ⟨hcz22_0,hcz22_1,hfz22_0,hfz22_1⟩:=bt2 BK222))
       (try simp only [Act.put,za_,zb_,zc_])
       go_cut [42] (fun v42 wc=>∃ (kq:Nat) (x42_18:Bool),v42 = .bool x42_18∧Aside0 (spec_ggGroups.j2 kq x3_2 x5_2 x28_2 l0_2 (l0_2.length:Int) x28_2 x42_18 a0_0 a0_1 l0_2 = some r)∧Aside0 (kq ≤ k2)∧Aside0 (Kd.R (Kd.int .i64) 3 wc w.heap.size (fun _=>True) (.slice Ao8 x3_2.length co8) x3_2)∧Aside0 (wc.heap[gb216]? = some (.cells #[.int .i64 a0_0,.int .i64 a0_1,(.slice (some ad221) l0_2.length c0_2)] 50 (0,0)))∧Aside0 (wc.heap[gb222]? = some (.cells #[.int .i64 ((rd_T88 l0_2 x28_2).f0),.int .i64 ((rd_T88 l0_2 x28_2).f1)] 88 (0,0)))∧Aside0 (Below w.heap.size w wc))
       case first =>
        have H:=HC19.out;clear HC19;replace H:=Option.bind_eq_some_iff.mp H;obtain ⟨t223,A230,H⟩:=H;(try dsimp only at H)
        have A23:=Aside0.mk A230;clear A230;by_cases c24:t223 = true
        ·subst c24;have H1:(if x28_2 < (x3_2.length:Int) then (spec_ggGroups.j2 k2 x3_2 x5_2 x28_2 l0_2 (l0_2.length:Int) x28_2 (decide ((rd x3_2 x28_2) ≥ 0)) a0_0 a0_1 l0_2) else (none)) = some r:=by rw [if_pos rfl] at H;exact H
         clear H;have H:=H1;clear H1;replace H:=np_ H;obtain ⟨c25,H⟩:=H;have c25b0:decide (x28_2 < (x3_2.length:Int)) = true:=decide_eq_true c25;(try simp only [hl3_1] at c25b0)
         (try simp only [hl3_2] at c25b0)
         clear c25;(first | rw [c25b0] | (simp only [i64_w,i32_w];rw [c25b0]) | skip)
         have H':=Aside0.mk H;clear H;have hnb26:=NB222_216.out;have hnc26:=NB216_222.out;obtain ⟨hcz27_0,hcz27_1,hfz27_0,hfz27_1⟩:=bt2 BK222;go_wp2_with (first | ((with_reducible refine gate_callee (f:=145) rfl ?_);refine gL_ (some 34) Try.func145 #[.agg #[.int .i64 ((rd_T88 l0_2 x28_2).f0),.int .i64 ((rd_T88 l0_2 x28_2).f1)]] (h:=?_);(with_reducible refine (spec_ggGear.calls ((rd_T88 l0_2 x28_2).f0) ((rd_T88 l0_2 x28_2).f1) true _ A23.out).mono ?_);rintro e w28 ⟨rfl,hb⟩;refine ⟨_,rfl,?_⟩;refine ev4 (Kd.R_below (Kd.R_ft HO_3.out BK222.out (by decide)) hb) (blk_below (g:=gb216) (o:=.cells #[.int .i64 a0_0,.int .i64 a0_1,.slice (some ad221) l0_2.length c0_2] 50 (0,0)) (fp BK216 rfl) hb) (blk_below (g:=gb222) (o:=.cells #[.int .i64 ((rd_T88 l0_2 x28_2).f0),.int .i64 ((rd_T88 l0_2 x28_2).f1)] 88 (0,0)) (fp BK222 rfl) hb) (bs HB hb) ?_;clear HO_3 BK216 BK222 HB;intro HO_3 BK216 BK222 HB;(try clear hb);have p224:0 ≤ (x28_2:Int):=of_decide_eq_true (by first | (with_reducible assumption) | assumption);have q224:x28_2 < (x3_2.length:Int):=of_decide_eq_true (by first | (with_reducible assumption) | assumption);obtain ⟨ad224,e224,hx224_0⟩:=Kd.at_int (Kd.R_reads' HO_3.out).2.2 x28_2 p224 q224;cases e224;replace p224:=eq_true p224;replace q224:=eq_true q224))
         go_meet
         case rel=>exact ⟨_,(decide ((rd x3_2 x28_2) ≥ 0)),(by first | rfl | (simp;done) | (simp [*];done)),H',⟨by have:=HK1.out;have:=HK2.out;first | omega | exact Nat.le_refl _⟩,⟨by (try simp only [hl3_1]);(try simp only [hl3_2]);exact Kd.R_mv HO_3.out⟩,⟨by (try simp only [hl3_1]);(try simp only [hl3_2]);exact km_ BK216⟩,⟨by (try simp only [hl3_1]);(try simp only [hl3_2]);exact km_ BK222⟩,⟨bm HB⟩⟩
        ·replace c24:=Bool.eq_false_iff.mpr c24;subst c24;have H1:(spec_ggGroups.j2 k2 x3_2 x5_2 x28_2 l0_2 (l0_2.length:Int) x28_2 true a0_0 a0_1 l0_2) = some r:=by rw [if_neg (show ¬ (false = true) by decide)] at H;exact H
         clear H;have H:=H1;clear H1;have H':=Aside0.mk H;clear H;have hnb29:=NB222_216.out;have hnc29:=NB216_222.out;obtain ⟨hcz30_0,hcz30_1,hfz30_0,hfz30_1⟩:=bt2 BK222;go_wp2_with (first | ((with_reducible refine gate_callee (f:=145) rfl ?_);refine gL_ (some 34) Try.func145 #[.agg #[.int .i64 ((rd_T88 l0_2 x28_2).f0),.int .i64 ((rd_T88 l0_2 x28_2).f1)]] (h:=?_);(with_reducible refine (spec_ggGear.calls ((rd_T88 l0_2 x28_2).f0) ((rd_T88 l0_2 x28_2).f1) false _ A23.out).mono ?_);rintro e w31 ⟨rfl,hb⟩;refine ⟨_,rfl,?_⟩;refine ev4 (Kd.R_below (Kd.R_ft HO_3.out BK222.out (by decide)) hb) (blk_below (g:=gb216) (o:=.cells #[.int .i64 a0_0,.int .i64 a0_1,.slice (some ad221) l0_2.length c0_2] 50 (0,0)) (fp BK216 rfl) hb) (blk_below (g:=gb222) (o:=.cells #[.int .i64 ((rd_T88 l0_2 x28_2).f0),.int .i64 ((rd_T88 l0_2 x28_2).f1)] 88 (0,0)) (fp BK222 rfl) hb) (bs HB hb) ?_;clear HO_3 BK216 BK222 HB;intro HO_3 BK216 BK222 HB;(try clear hb)))
         go_meet
         case rel=>exact ⟨_,(true),(by first | rfl | (simp;done) | (simp [*];done)),H',⟨by have:=HK1.out;have:=HK2.out;first | omega | exact Nat.le_refl _⟩,⟨by (try simp only [hl3_1]);(try simp only [hl3_2]);exact Kd.R_mv HO_3.out⟩,⟨by (try simp only [hl3_1]);(try simp only [hl3_2]);exact km_ BK216⟩,⟨by (try simp only [hl3_1]);(try simp only [hl3_2]);exact km_ BK222⟩,⟨bm HB⟩⟩
       case rest =>
        clear HC19;(try clear c1);(try clear c2);(try clear c2b0);(try clear c2b1);(try clear p2);(try clear q2);(try clear hx2);(try clear c3);(try clear c3b0);(try clear c3b1);(try clear c9);(try clear c9b0);(try clear c13);(try clear c16);(try clear c16b0);(try clear c17);(try clear c17b0);(try clear c18);(try clear c18b0);(try clear c21);(try clear p22);(try clear q22);(try clear hx22);(try clear hcz15_0 hcz15_1 hcz15_2 hfz15_0 hfz15_1 hfz15_2);(try clear hcz22_0 hcz22_1 hfz22_0 hfz22_1);(try clear hcz5_0 hcz5_1 hcz5_2 hfz5_0 hfz5_1 hfz5_2);(try clear hx221_0);(try clear hx221_1);(try clear p2);(try clear p221);(try clear q221);obtain ⟨kq,x42_18,rfl,HA,HJ18,HO_3,BK216,BK222,HB⟩:=hcut;cases kq with
        | zero=>exact absurd HA.out (by simp [spec_ggGroups.j2])
        | succ kj18 =>
         have H:=HA.out;clear HA;simp only [spec_ggGroups.j2] at H;by_cases c32:x42_18 = true
         ·subst c32;have H1:(spec_ggGroups.l1 kj18 x3_2 x5_2 l0_2 (l0_2.length:Int) (wrap64 (x28_2 + 1)) a0_0 a0_1 l0_2) = some r:=by rw [if_pos rfl] at H;exact H
          clear H;have H:=H1;clear H1;have H':=Aside0.mk H;clear H;go_wp2;(try simp only [← hl3_2])
          go_roundg kj18
          case measure=>have:=HK1.out;have:=HK2.out;have:=HJ18.out;omega
          case rel=>exact ⟨(x3_2),(x5_2),(wrap64 (x28_2 + 1)),(by first | rfl | (simp;done) | (simp [*];done)),(by first | rfl | (simp;done) | (simp [*];done)),H',⟨by have:=HK1.out;have:=HK2.out;have:=HJ18.out;omega⟩,⟨by (try simp only [hl3_1]);(try simp only [hl3_2]);exact Kd.R_mv HO_3.out⟩,⟨by (try simp only [hl3_1]);(try simp only [hl3_2]);exact km_ BK216⟩,⟨bm HB⟩⟩
         ·replace c32:=Bool.eq_false_iff.mpr c32;subst c32;have H1:(if 0 ≤ x28_2 then (if x28_2 < (x3_2.length:Int) then (spec_ggGroups.l2 kj18 (x3_2.set (x28_2:Int).toNat x5_2) x5_2 (([x28_2]:List Int)) 0 l0_2 (l0_2.length:Int) x28_2 a0_0 a0_1 l0_2) else (none)) else (none)) = some r:=by rw [if_neg (show ¬ (false = true) by decide)] at H;exact H
          clear H;have H:=H1;clear H1;replace H:=np_ H;obtain ⟨c33,H⟩:=H;have c33b0:decide (0 ≤ x28_2) = true:=decide_eq_true c33;clear c33;replace H:=np_ H;obtain ⟨c34,H⟩:=H;have c34b0:decide (x28_2 < (x3_2.length:Int)) = true:=decide_eq_true c34;(try simp only [hl3_1] at c34b0)
          (try simp only [hl3_2] at c34b0)
          clear c34;obtain ⟨y225,hy225⟩:∃ y_:List Int,y_ = (x3_2.set (x28_2:Int).toNat x5_2):=⟨_,rfl⟩
          replace H:(spec_ggGroups.l2 kj18 y225 x5_2 (([x28_2]:List Int)) 0 l0_2 (l0_2.length:Int) x28_2 a0_0 a0_1 l0_2) = some r:=by first | (rw [hy225];with_reducible exact H) | (have H2_:=(Option.bind_some _ _).symm.trans H;rw [hy225];with_reducible exact H2_) | (have H2_:=(Option.bind_some _ _).symm.trans H;with_reducible exact H2_) | with_reducible exact H | (rw [hy225];exact H) | exact H
          have Ny225:=Aside0.mk hy225;clear hy225;obtain ⟨y226,hy226⟩:∃ y_:List Int,y_ = (([x28_2]:List Int)):=⟨_,rfl⟩
          replace H:(spec_ggGroups.l2 kj18 y225 x5_2 y226 0 l0_2 (l0_2.length:Int) x28_2 a0_0 a0_1 l0_2) = some r:=by first | (rw [hy226];with_reducible exact H) | (have H2_:=(Option.bind_some _ _).symm.trans H;rw [hy226];with_reducible exact H2_) | (have H2_:=(Option.bind_some _ _).symm.trans H;with_reducible exact H2_) | with_reducible exact H | (rw [hy226];exact H) | exact H
          have Ny226:=Aside0.mk hy226;clear hy226;have H':=Aside0.mk H;clear H;have p35:0 ≤ (x28_2:Int):=of_decide_eq_true (by first | (with_reducible assumption) | assumption);have q35:(x28_2:Int) < ((x3_2.length:Int):Int):=of_decide_eq_true (by first | (with_reducible assumption) | assumption);obtain ⟨go35,co35,eo35,gb35,gl35,cl35,HG35⟩:=Kd.R_form HO_3.out (by omega);(first | cases eo35 | (injection eo35 with ea_ en_ ec_;(first | subst ea_ | (injection ea_ with ea_;subst ea_));subst ec_;clear en_))
          have GB35:=Aside0.mk gb35;have GG35:=Aside0.mk HG35;clear gb35 gl35 HG35;obtain ⟨hx35_0,hf35_0⟩:=Kd.R_celln 0 HO_3.out (x28_2:Int) p35 q35;replace p35:=eq_true p35;replace q35:=eq_true q35;have HP36:=Kd.R_putg HO_3.out (x28_2:Int) x5_2;go_wp2_with (first | ((with_reducible refine gate_store (t:=3) (p:=46) rfl ?_);refine store_event (t:=3) (p:=46) (v:=?vo_w37) (w1:=(wc.setCell ⟨go35,(x28_2:Int).toNat,none⟩ (.int .i64 x5_2))) ?hg ?ho ?hn ?hr ?_;(case ho=>rfl);(case hg=>rfl);(case hn=>rfl);(case hr=>first | (go_simp;done) | (go_simp;rfl));intro w37 hw;have hg:wc.grownBy w37 (some go35):=(by rw [hw];exact HP36.2);have hp_:Kd.R (Kd.int .i64) 3 w37 w.heap.size (fun _=>True) (.slice (some ⟨go35,0,none⟩) x3_2.length co8) y225:=(by rw [hw,Ny225.out];exact HP36.1);clear HP36;refine ev4 (hp_) (blk_grown (km_ BK216) hg (Kd.R_ne HO_3.out BK216.out (by decide))) (blk_grown (km_ BK222) hg (Kd.R_ne HO_3.out BK222.out (by decide))) ((by rw [hw];exact below_set (HB.out) GB35.out:Below w.heap.size w w37)) ?_;clear HO_3 BK216 BK222 HB;intro HO_3 BK216 BK222 HB;clear hg hw hp_) | ((with_reducible refine gate_dst (N:=48) rfl ?_);refine Kd.R_lit (Kd.int .i64) _ 3 ?hg (N:=48) ?hd (xs:=([x28_2]:List Int)) (inner:=[.int .i64 x28_2]) (ok:=fun _=>True) (okp:=fun _=>True) ?hr ?hp (fun _ hk=>hk) trivial (Below.refl _ _) (Nat.le_refl _) (by simp) ?_;(case hd=>rfl);(case hg=>rfl);(case hr=>first | (go_simp;done) | (go_simp;rfl));(case hp=>exact (Reps.one (show Kd.M (Kd.int .i64) _ _ _ x28_2 [.int .i64 x28_2] from rfl) (Reps.none _ _)));intro v227 w38 ho39 hb hg_ hnew_;clear hg_ hnew_;(first | rw [← Ny226.out] at ho39 | (simp only [Int.reduceToNat] at ho39;rw [← Ny226.out] at ho39));refine ev5 (Kd.R_elder' (Kd.R_mv HO_3.out) (Kd.R_base ho39) hb) (Kd.R_lower (Kd.R_new' ho39 (Kd.R_lt (Kd.R_mv HO_3.out))) (below_size (bm HB))) (kb BK216 hb) (kb BK222 hb) (bs HB hb) ?_;clear HO_3 BK216 BK222 HB;intro HO_3 HO228 BK216 BK222 HB;clear hb ho39))
          go_loopg [8,9] kj18 (fun kq v8 v9 w'=>∃ (x3_4:List Int) (x8_4:List Int) (x9_4:Int),v9 = .int .i64 x9_4∧Aside0 (spec_ggGroups.l2 kq x3_4 x5_2 x8_4 x9_4 l0_2 (l0_2.length:Int) x28_2 a0_0 a0_1 l0_2 = some r)∧Aside0 (kq ≤ kj18)∧Aside0 (Kd.R (Kd.int .i64) 3 w' w.heap.size (fun k_=>some k_ ≠ (v8:Value).ownBlock) (.slice (some ⟨go35,0,none⟩) x3_2.length co8) x3_4)∧Aside0 (Kd.R (Kd.int .i64) 3 w' w.heap.size (fun k_=>some k_ ≠ ((.slice (some ⟨go35,0,none⟩) x3_2.length co8):Value).ownBlock) v8 x8_4)∧Aside0 (w'.heap[gb216]? = some (.cells #[.int .i64 a0_0,.int .i64 a0_1,(.slice (some ad221) l0_2.length c0_2)] 50 (0,0)))∧Aside0 (w'.heap[gb222]? = some (.cells #[.int .i64 ((rd_T88 l0_2 x28_2).f0),.int .i64 ((rd_T88 l0_2 x28_2).f1)] 88 (0,0)))∧Aside0 (Below w.heap.size w w'))
          case atStart=>exact ⟨(y225),(y226),(0),(by first | rfl | (simp;done) | (simp [*];done)),H',⟨Nat.le_refl _⟩,⟨by (try simp only [hl3_1]);(try simp only [hl3_2]);exact Kd.R_mv (Kd.R_mono HO_3.out (fun _ hk=>hk.2))⟩,⟨by (try simp only [hl3_1]);(try simp only [hl3_2]);exact Kd.R_mv (Kd.R_mono HO228.out (fun _ hk=>hk.2))⟩,⟨by (try simp only [hl3_1]);(try simp only [hl3_2]);exact km_ BK216⟩,⟨by (try simp only [hl3_1]);(try simp only [hl3_2]);exact km_ BK222⟩,⟨bm HB⟩⟩
          case round =>
           clear H';(try clear c1);(try clear c2);(try clear c2b0);(try clear c2b1);(try clear p2);(try clear q2);(try clear hx2);(try clear c3);(try clear c3b0);(try clear c3b1);(try clear p3);(try clear q3);(try clear hx3);(try clear hf3);(try clear c9);(try clear c9b0);(try clear c13);(try clear c16);(try clear c16b0);(try clear c17);(try clear c17b0);(try clear c18);(try clear c18b0);(try clear c21);(try clear p22);(try clear q22);(try clear hx22);(try clear c32);(try clear c33);(try clear c33b0);(try clear c34);(try clear c34b0);(try clear p35);(try clear q35);(try clear hx35);(try clear hf35);(try clear hcz15_0 hcz15_1 hcz15_2 hfz15_0 hfz15_1 hfz15_2);(try clear hcz22_0 hcz22_1 hfz22_0 hfz22_1);(try clear hcz5_0 hcz5_1 hcz5_2 hfz5_0 hfz5_1 hfz5_2);(try clear hx221_0);(try clear hx221_1);(try clear hx35_0);(try clear p2);(try clear p22);(try clear p221);(try clear p35);(try clear q2);(try clear q22);(try clear q221);(try clear q35);obtain ⟨x3_4,x8_4,x9_4,rfl,HA,HK4,HO_3,HO_8,BK216,BK222,HB⟩:=hrel;have hl3_4:=(Kd.R_reads' HO_3.out).1;rw [hl3_4] at HO_3;(try simp only [hl3_4])
           (try simp only [hl3_4] at BK216)
           (try simp only [hl3_4] at BK222)
           (try simp only [hl3_4] at HO_8)
           cases gk with
           | zero=>exact absurd HA.out (by simp [spec_ggGroups.l2])
           | succ k4 =>
            have H:=HA.out;clear HA;simp only [spec_ggGroups.l2] at H;by_cases c40:x9_4 < (x8_4.length:Int)
            ·rw [if_pos c40] at H;have c40b0:decide (x9_4 < (x8_4.length:Int)) = true:=decide_eq_true c40;(try simp only [hl3_1] at c40b0)
             (try simp only [hl3_2] at c40b0)
             (try simp only [hl3_4] at c40b0)
             clear c40;replace H:=np_ H;obtain ⟨c41,H⟩:=H;have c41b0:decide (0 ≤ x9_4) = true:=decide_eq_true c41;clear c41;replace H:=Option.bind_eq_some_iff.mp H;obtain ⟨t230,A420,H⟩:=H;(try dsimp only at H)
             have A42:=Aside0.mk A420;clear A420;have H':=Aside0.mk H;clear H;obtain ⟨Ao43,co43,eo43⟩:=Kd.R_slice HO_8.out;subst eo43;try go_wp2
             refine ev5 (Kd.R_drew HO_3.out) (Kd.R_drew HO_8.out) (blk_drew BK216.out) (blk_drew BK222.out) (below_drew1 HB.out) ?_;clear HO_3 HO_8 BK216 BK222 HB;intro HO_3 HO_8 BK216 BK222 HB;have p229:0 ≤ (x9_4:Int):=of_decide_eq_true (by first | (with_reducible assumption) | assumption);have q229:x9_4 < (x8_4.length:Int):=of_decide_eq_true (by first | (with_reducible assumption) | assumption);obtain ⟨ad229,e229,hx229_0⟩:=Kd.at_int (Kd.R_reads' HO_8.out).2.2 x9_4 p229 q229;cases e229;replace p229:=eq_true p229;replace q229:=eq_true q229;refine start_ (n:=8) (S:=fun w'=>w'.cell? ⟨gb216,0,none⟩ = some (.int .i64 a0_0)∧w'.cell? ⟨gb216,1,none⟩ = some (.int .i64 a0_1)∧w'.cell? ⟨gb216,2,none⟩ = some (.slice (some ad221) l0_2.length c0_2)∧w'.cell? (ad229.add (x9_4).toNat) = some (.int .i64 (rd x8_4 x9_4))) (ds:=[]) #[Z,Z,Z,Z,Z,Z,Z,Z] (by kernel_rfl) rfl rfl ⟨(blk_cell BK216.out 0).trans rfl,(blk_cell BK216.out 1).trans rfl,(blk_cell BK216.out 2).trans rfl,hx229_0⟩ (fun hHeld=>?_);refine with_tabW spec_ggGroups.tab17 spec_ggGroups.bits17 (fun HT_ HW_=>?_);generalize wr.drew = w44 at HO_3 HO_8 BK216 BK222 HB hx229_0 hHeld ⊢
             refine pA 1 (some 56) ?_ #[Z,Y,Z,Z,Z,Z,Z,Z] rfl rfl HT_ (by kernel_rfl) (fun _ _ _ h=>h) (by rfl) ?_ ?_ ?_ ?_;rotate_left
             ·intro w';go_simp;with_reducible rfl
             rotate_left
             ·simp only [Act.put,za_,zb_,zc_,i64_w,i32_w];rfl
             refine pA 2 (some 57) ?_ #[Z,Y,Y,Z,Z,Z,Z,Z] rfl rfl HT_ (by kernel_rfl) (fun _ _ _ h=>h) (by rfl) ?_ ?_ ?_ ?_;rotate_left
             ·intro w';go_simp;with_reducible rfl
             rotate_left
             ·simp only [Act.put,za_,zb_,zc_,i64_w,i32_w];rfl
             refine pA 3 (some 58) ?_ #[Z,Y,Y,Y,Z,Z,Z,Z] rfl rfl HT_ (by kernel_rfl) (fun _ _ _ h=>h) (by rfl) ?_ ?_ ?_ ?_;rotate_left
             ·intro w';go_simp;with_reducible rfl
             rotate_left
             ·simp only [Act.put,za_,zb_,zc_,i64_w,i32_w];rfl
             refine pA 7 (some 62) ?_ #[Z,Y,Y,Y,Z,Z,Z,Y] rfl rfl HT_ (by kernel_rfl) (fun _ _ _ h=>h) (by rfl) ?_ ?_ ?_ ?_;rotate_left
             ·intro w';go_simp;with_reducible rfl
             rotate_left
             ·simp only [Act.put,za_,zb_,zc_,i64_w,i32_w];rfl
             refine tA 0 (some 55) ?_ #[Y,Y,Y,Y,Z,Z,Z,Y] rfl rfl HT_ HW_ (by kernel_rfl) (fun _ _ _ h=>h) (by rfl) ?_ hHeld ?_ ?_ ?_;rotate_left
             ·rintro w' ⟨s0,s1,s2,s3⟩;go_simp;with_reducible rfl
             rotate_left
             ·simp only [Act.put,za_,zb_,zc_,i64_w,i32_w];rfl
             refine tA 4 (some 59) ?_ #[Y,Y,Y,Y,Y,Z,Z,Y] rfl rfl HT_ HW_ (by kernel_rfl) (fun _ _ _ h=>h) (by rfl) ?_ hHeld ?_ ?_ ?_;rotate_left
             ·rintro w' ⟨s0,s1,s2,s3⟩;go_simp;with_reducible rfl
             rotate_left
             ·simp only [Act.put,za_,zb_,zc_,i64_w,i32_w];rfl
             refine one_ (i:=5) (N:=some 60) #[Y,Y,Y,Y,Y,Y,Z,Y] rfl rfl (one_of HT_.out (by kernel_rfl)) (by decide) (fun K hK=>?_);refine goes_ Try.func146 (by kernel_rfl) rfl #[.agg #[.int .i64 a0_0,.int .i64 a0_1,.slice (some ad221) l0_2.length c0_2],.int .i64 (rd x8_4 x9_4)] (by rfl) rfl rfl (by (try simp only [ma_,mb_,mc_]);first | done | rfl | (simp only [List.length_drop,List.length_take];rfl)) ?_;with_reducible refine (spec_ggNear.calls k4 a0_0 a0_1 _ _ l0_2 (rd x8_4 x9_4) t230 _ ?side1 ?side2 A42.out).mono ?_
             (case side1=>exact Kd.C_mv (Kd.C_below HR0_2.out HB.out))
             (case side2=>exact HC0_2.out)
             rintro e w45 ⟨v231,rfl,ho0,hb⟩;have HS3_:=(hb.cell (World.block_lt_of_cell? _ _ (hHeld.2.2.2))).trans (hHeld.2.2.2);refine ⟨_,rfl,?_⟩;refine ev6 (Kd.R_elder' (Kd.R_mv HO_3.out) (Kd.R_base ho0) hb) (Kd.R_elder' (Kd.R_mv HO_8.out) (Kd.R_base ho0) hb) (Kd.R_lower (Kd.R_new' (Kd.R_new' ho0 (Kd.R_lt (Kd.R_mv HO_3.out))) (Kd.R_lt (Kd.R_mv HO_8.out))) (below_size (bm HB))) (kb BK216 hb) (kb BK222 hb) (bs HB hb) ?_;clear HO_3 HO_8 BK216 BK222 HB;intro HO_3 HO_8 HO232 BK216 BK222 HB;(try clear hb);(try clear ho0);obtain ⟨Ao46,co46,eo46⟩:=Kd.R_slice HO232.out;(first | subst eo46 | (injection eo46 with f1_ f2_ f3_;have f4_:=f1_.symm;have f5_:=f3_.symm;clear f1_ f2_ f3_;subst f4_;subst f5_))
             refine hK.out _ _ ⟨(blk_cell BK216.out 0).trans rfl,(blk_cell BK216.out 1).trans rfl,(blk_cell BK216.out 2).trans rfl,HS3_⟩ (fun hHeld=>?_);clear hK K;refine norm_ (a':=?_) ?_ ?_;rotate_left
             ·show Act.put _ (some 60) _ = _
              simp only [Act.put,za_,zb_,zc_,i64_w,i32_w];rfl
             refine pA 6 (some 61) ?_ #[Y,Y,Y,Y,Y,Y,Y,Y] rfl rfl HT_ (by kernel_rfl) (fun _ _ _ h=>h) (by rfl) ?_ ?_ ?_ ?_;rotate_left
             ·intro w';go_simp;with_reducible rfl
             rotate_left
             ·simp only [Act.put,za_,zb_,zc_,i64_w,i32_w];rfl
             refine done_ (done_of HT_.out (by kernel_rfl)) ?_;try go_wp2
             go_loopg [8,62] k4 (fun kq v8 v62 w'=>∃ (x3_5:List Int) (x8_5:List Int) (x62_5:Int),v62 = .int .i64 x62_5∧Aside0 (spec_ggGroups.l3 kq x3_5 x5_2 x8_5 x9_4 l0_2 (l0_2.length:Int) x28_2 t230 (t230.length:Int) x62_5 a0_0 a0_1 l0_2 = some r)∧Aside0 (kq ≤ k4)∧Aside0 (Kd.R (Kd.int .i64) 3 w' w.heap.size (fun k_=>some k_ ≠ (v8:Value).ownBlock∧some k_ ≠ ((.slice Ao46 t230.length co46):Value).ownBlock) (.slice (some ⟨go35,0,none⟩) x3_4.length co8) x3_5)∧Aside0 (Kd.R (Kd.int .i64) 3 w' w.heap.size (fun k_=>some k_ ≠ ((.slice (some ⟨go35,0,none⟩) x3_4.length co8):Value).ownBlock∧some k_ ≠ ((.slice Ao46 t230.length co46):Value).ownBlock) v8 x8_5)∧Aside0 (Kd.R (Kd.int .i64) 3 w' w.heap.size (fun k_=>some k_ ≠ ((.slice (some ⟨go35,0,none⟩) x3_4.length co8):Value).ownBlock∧some k_ ≠ (v8:Value).ownBlock) (.slice Ao46 t230.length co46) t230)∧Aside0 (w'.heap[gb216]? = some (.cells #[.int .i64 a0_0,.int .i64 a0_1,(.slice (some ad221) l0_2.length c0_2)] 50 (0,0)))∧Aside0 (w'.heap[gb222]? = some (.cells #[.int .i64 ((rd_T88 l0_2 x28_2).f0),.int .i64 ((rd_T88 l0_2 x28_2).f1)] 88 (0,0)))∧Aside0 (Below w.heap.size w w'))
             case atStart=>exact ⟨(x3_4),(x8_4),(0),(by first | rfl | (simp;done) | (simp [*];done)),H',⟨Nat.le_refl _⟩,⟨by (try simp only [hl3_1]);(try simp only [hl3_2]);(try simp only [hl3_4]);exact Kd.R_mv HO_3.out⟩,⟨by (try simp only [hl3_1]);(try simp only [hl3_2]);(try simp only [hl3_4]);exact Kd.R_mv HO_8.out⟩,⟨by (try simp only [hl3_1]);(try simp only [hl3_2]);(try simp only [hl3_4]);exact Kd.R_mv (Kd.R_mono HO232.out (fun _ hk=>⟨hk.1.2,hk.2⟩))⟩,⟨by (try simp only [hl3_1]);(try simp only [hl3_2]);(try simp only [hl3_4]);exact km_ BK216⟩,⟨by (try simp only [hl3_1]);(try simp only [hl3_2]);(try simp only [hl3_4]);exact km_ BK222⟩,⟨bm HB⟩⟩
             case round =>
              clear H';(try clear c1);(try clear c2);(try clear c2b0);(try clear c2b1);(try clear p2);(try clear q2);(try clear hx2);(try clear c3);(try clear c3b0);(try clear c3b1);(try clear p3);(try clear q3);(try clear hx3);(try clear hf3);(try clear c4);(try clear c9);(try clear c9b0);(try clear c13);(try clear c14);(try clear c16);(try clear c16b0);(try clear c17);(try clear c17b0);(try clear c18);(try clear c18b0);(try clear c21);(try clear p22);(try clear q22);(try clear hx22);(try clear c32);(try clear c33);(try clear c33b0);(try clear c34);(try clear c34b0);(try clear p35);(try clear q35);(try clear hx35);(try clear hf35);(try clear c40);(try clear c40b0);(try clear c41);(try clear c41b0);(try clear hcz15_0 hcz15_1 hcz15_2 hfz15_0 hfz15_1 hfz15_2);(try clear hcz22_0 hcz22_1 hfz22_0 hfz22_1);(try clear hcz5_0 hcz5_1 hcz5_2 hfz5_0 hfz5_1 hfz5_2);(try clear hx221_0);(try clear hx221_1);(try clear hx229_0);(try clear hx35_0);(try clear p2);(try clear p22);(try clear p221);(try clear p229);(try clear p3);(try clear p35);(try clear q2);(try clear q22);(try clear q221);(try clear q229);(try clear q3);(try clear q35);obtain ⟨x3_5,x8_5,x62_5,rfl,HA,HK5,HO_3,HO_8,HO_60,BK216,BK222,HB⟩:=hrel;have hl3_5:=(Kd.R_reads' HO_3.out).1;rw [hl3_5] at HO_3;(try simp only [hl3_5])
              (try simp only [hl3_5] at BK216)
              (try simp only [hl3_5] at BK222)
              (try simp only [hl3_5] at HO_8)
              (try simp only [hl3_5] at HO_60)
              cases gk with
              | zero=>exact absurd HA.out (by simp [spec_ggGroups.l3])
              | succ k5 =>
               have H:=HA.out;clear HA;simp only [spec_ggGroups.l3] at H;by_cases c47:x62_5 < (t230.length:Int)
               ·rw [if_pos c47] at H;have c47b0:decide (x62_5 < (t230.length:Int)) = true:=decide_eq_true c47;(try simp only [hl3_1] at c47b0)
                (try simp only [hl3_2] at c47b0)
                (try simp only [hl3_4] at c47b0)
                (try simp only [hl3_5] at c47b0)
                clear c47;replace H:=np_ H;obtain ⟨c48,H⟩:=H;have c48b0:decide (0 ≤ x62_5) = true:=decide_eq_true c48;clear c48;replace H:=np_ H;obtain ⟨c49,H⟩:=H;have c49b0:decide (x62_5 < (t230.length:Int)) = true:=decide_eq_true c49;(try simp only [hl3_1] at c49b0)
                (try simp only [hl3_2] at c49b0)
                (try simp only [hl3_4] at c49b0)
                (try simp only [hl3_5] at c49b0)
                clear c49;replace H:=np_ H;obtain ⟨c50,H⟩:=H;have c50b0:decide (0 ≤ (rd t230 x62_5)) = true:=decide_eq_true c50;clear c50;replace H:=np_ H;obtain ⟨c51,H⟩:=H;have c51b0:decide ((rd t230 x62_5) < (l0_2.length:Int)) = true:=decide_eq_true c51;(try simp only [hl3_1] at c51b0)
                (try simp only [hl3_2] at c51b0)
                (try simp only [hl3_4] at c51b0)
                (try simp only [hl3_5] at c51b0)
                clear c51;replace H:=Option.bind_eq_some_iff.mp H;obtain ⟨t235,A520,H⟩:=H;(try dsimp only at H)
                have A52:=Aside0.mk A520;clear A520;by_cases c53:t235 = true
                ·subst c53;have H1:(if (rd t230 x62_5) < (x3_5.length:Int) then (if (rd x3_5 (rd t230 x62_5)) < 0 then (if x8_5.length < 17592186044416 then (spec_ggGroups.l3 k5 (x3_5.set ((rd t230 x62_5):Int).toNat x5_2) x5_2 (x8_5 ++ [rd t230 x62_5]) x9_4 l0_2 (l0_2.length:Int) x28_2 t230 (t230.length:Int) (wrap64 (x62_5 + 1)) a0_0 a0_1 l0_2) else (none)) else (spec_ggGroups.l3 k5 x3_5 x5_2 x8_5 x9_4 l0_2 (l0_2.length:Int) x28_2 t230 (t230.length:Int) (wrap64 (x62_5 + 1)) a0_0 a0_1 l0_2)) else (none)) = some r:=by rw [if_pos rfl] at H;exact H
                 clear H;have H:=H1;clear H1;replace H:=np_ H;obtain ⟨c54,H⟩:=H;have c54b0:decide ((rd t230 x62_5) < (x3_5.length:Int)) = true:=decide_eq_true c54;(try simp only [hl3_1] at c54b0)
                 (try simp only [hl3_2] at c54b0)
                 (try simp only [hl3_4] at c54b0)
                 (try simp only [hl3_5] at c54b0)
                 clear c54;by_cases c55:(rd x3_5 (rd t230 x62_5)) < 0
                 ·rw [if_pos c55] at H;have c55b0:decide ((rd x3_5 (rd t230 x62_5)) < 0) = true:=decide_eq_true c55;clear c55;obtain ⟨y237,hy237⟩:∃ y_:List Int,y_ = (x3_5.set ((rd t230 x62_5):Int).toNat x5_2):=⟨_,rfl⟩
                  replace H:(if x8_5.length < 17592186044416 then (spec_ggGroups.l3 k5 y237 x5_2 (x8_5 ++ [rd t230 x62_5]) x9_4 l0_2 (l0_2.length:Int) x28_2 t230 (t230.length:Int) (wrap64 (x62_5 + 1)) a0_0 a0_1 l0_2) else (none)) = some r:=by first | (rw [hy237];with_reducible exact H) | (have H2_:=(Option.bind_some _ _).symm.trans H;rw [hy237];with_reducible exact H2_) | (have H2_:=(Option.bind_some _ _).symm.trans H;with_reducible exact H2_) | with_reducible exact H | (rw [hy237];exact H) | exact H
                  have Ny237:=Aside0.mk hy237;clear hy237;replace H:=np_ H;obtain ⟨c57,H⟩:=H;have LMc57:=Aside0.mk c57;clear c57;obtain ⟨y238,hy238⟩:∃ y_:List Int,y_ = (x8_5 ++ [rd t230 x62_5]):=⟨_,rfl⟩
                  replace H:(spec_ggGroups.l3 k5 y237 x5_2 y238 x9_4 l0_2 (l0_2.length:Int) x28_2 t230 (t230.length:Int) (wrap64 (x62_5 + 1)) a0_0 a0_1 l0_2) = some r:=by first | (rw [hy238];with_reducible exact H) | (have H2_:=(Option.bind_some _ _).symm.trans H;rw [hy238];with_reducible exact H2_) | (have H2_:=(Option.bind_some _ _).symm.trans H;with_reducible exact H2_) | with_reducible exact H | (rw [hy238];exact H) | exact H
                  have Ny238:=Aside0.mk hy238;clear hy238;have H':=Aside0.mk H;clear H;have p233:0 ≤ (x62_5:Int):=of_decide_eq_true (by first | (with_reducible assumption) | assumption);have q233:x62_5 < (t230.length:Int):=of_decide_eq_true (by first | (with_reducible assumption) | assumption);obtain ⟨ad233,e233,hx233_0⟩:=Kd.at_int (Kd.R_reads' HO_60.out).2.2 x62_5 p233 q233;cases e233;replace p233:=eq_true p233;replace q233:=eq_true q233;have hnb58:=NB216_222.out;have hnc58:=NB222_216.out;obtain ⟨hcz59_0,hcz59_1,hcz59_2,hfz59_0,hfz59_1,hfz59_2⟩:=bt3 BK216;have p234:0 ≤ ((rd t230 x62_5):Int):=of_decide_eq_true (by first | (with_reducible assumption) | assumption);have q234:(rd t230 x62_5) < (l0_2.length:Int):=of_decide_eq_true (by first | (with_reducible assumption) | assumption);obtain ⟨ad234,e234,hx234_0,hx234_1⟩:=at_T88 HR0_2.out (rd t230 x62_5) p234 q234;obtain rfl:ad221 = ad234:=(by injection e234)
                  replace hx234_0:=(HB.out.cell (World.block_lt_of_cell? w _ hx234_0)).trans hx234_0;replace hx234_1:=(HB.out.cell (World.block_lt_of_cell? w _ hx234_1)).trans hx234_1;replace p234:=eq_true p234;replace q234:=eq_true q234;go_wp2_with (first | ((with_reducible refine gate_callee (f:=145) rfl ?_);refine gL_ (some 71) Try.func145 #[.agg #[.int .i64 ((rd_T88 l0_2 (rd t230 x62_5)).f0),.int .i64 ((rd_T88 l0_2 (rd t230 x62_5)).f1)]] (h:=?_);(with_reducible refine (spec_ggGear.calls ((rd_T88 l0_2 (rd t230 x62_5)).f0) ((rd_T88 l0_2 (rd t230 x62_5)).f1) true _ A52.out).mono ?_);rintro e w60 ⟨rfl,hb⟩;refine ⟨_,rfl,?_⟩;refine ev6 (Kd.R_below (Kd.R_mv HO_3.out) hb) (Kd.R_below (Kd.R_mv HO_8.out) hb) (Kd.R_below (Kd.R_mv HO_60.out) hb) (kb BK216 hb) (kb BK222 hb) (bs HB hb) ?_;clear HO_3 HO_8 HO_60 BK216 BK222 HB;intro HO_3 HO_8 HO_60 BK216 BK222 HB;(try clear hb);have p236:0 ≤ ((rd t230 x62_5):Int):=of_decide_eq_true (by first | (with_reducible assumption) | assumption);have q236:(rd t230 x62_5) < (x3_5.length:Int):=of_decide_eq_true (by first | (with_reducible assumption) | assumption);obtain ⟨ad236,e236,hx236_0⟩:=Kd.at_int (Kd.R_reads' HO_3.out).2.2 (rd t230 x62_5) p236 q236;obtain rfl:(⟨go35,0,none⟩:Addr) = ad236:=(by injection e236);(first | simp only [add_plain] at hx236_0 | simp only [add_at] at hx236_0 | simp only [Addr.add,Nat.zero_add] at hx236_0 | skip);replace p236:=eq_true p236;replace q236:=eq_true q236;have p56:0 ≤ ((rd t230 x62_5):Int):=of_decide_eq_true (by first | (with_reducible assumption) | assumption);have q56:((rd t230 x62_5):Int) < ((x3_5.length:Int):Int):=of_decide_eq_true (by first | (with_reducible assumption) | assumption);obtain ⟨hx56_0,hf56_0⟩:=Kd.R_celln 0 HO_3.out ((rd t230 x62_5):Int) p56 q56;replace p56:=eq_true p56;replace q56:=eq_true q56;obtain ⟨hy61_,hz61_⟩:=Kd.R_celln 0 HO_3.out ((rd t230 x62_5):Int) (of_decide_eq_true (by first | (with_reducible assumption) | assumption)) (of_decide_eq_true (by first | (with_reducible assumption) | assumption));have HP61:=Kd.R_putg HO_3.out ((rd t230 x62_5):Int) x5_2) | ((with_reducible refine gate_store (t:=3) (p:=82) rfl ?_);refine store_event (t:=3) (p:=82) (v:=?vo_w62) (w1:=(w60.setCell ⟨go35,((rd t230 x62_5):Int).toNat,none⟩ (.int .i64 x5_2))) ?hg ?ho ?hn ?hr ?_;(case ho=>rfl);(case hg=>rfl);(case hn=>rfl);(case hr=>first | (go_simp;done) | (go_simp;rfl));intro w62 hw;have hg:w60.grownBy w62 (some go35):=(by rw [hw];exact HP61.2);have hp_:Kd.R (Kd.int .i64) 3 w62 w.heap.size (fun k_=>some k_ ≠ (u8:Value).ownBlock∧some k_ ≠ (.slice (some ad233) t230.length co46:Value).ownBlock) (.slice (some ⟨go35,0,none⟩) x3_5.length co8) y237:=(by rw [hw,Ny237.out];exact HP61.1);clear HP61;refine ev6 (hp_) (Kd.R_after (v:=(.slice (some ⟨go35,0,none⟩) x3_5.length co8)) (v1:=(.slice (some ⟨go35,0,none⟩) x3_5.length co8)) (ok:=(fun k_=>some k_ ≠ (.slice (some ad233) t230.length co46:Value).ownBlock)) (Kd.R_mv (Kd.R_mono HO_8.out (fun _ hk=>⟨hk.2,hk.1⟩))) hg (.inl rfl)) (Kd.R_after (v:=(.slice (some ⟨go35,0,none⟩) x3_5.length co8)) (v1:=(.slice (some ⟨go35,0,none⟩) x3_5.length co8)) (ok:=(fun k_=>some k_ ≠ (u8:Value).ownBlock)) (Kd.R_mv (Kd.R_mono HO_60.out (fun _ hk=>⟨hk.2,hk.1⟩))) hg (.inl rfl)) (blk_grown (km_ BK216) hg (Kd.R_ne HO_3.out BK216.out (by decide))) (blk_grown (km_ BK222) hg (Kd.R_ne HO_3.out BK222.out (by decide))) ((by rw [hw];exact below_set (HB.out) GB35.out:Below w.heap.size w w62)) ?_;clear HO_3 HO_8 HO_60 BK216 BK222 HB;intro HO_3 HO_8 HO_60 BK216 BK222 HB;clear hg hw hp_) | ((with_reducible refine gate_builtin (b:=.append) (xs:=#[.tmp 83,.tmp 85]) rfl ?_);at_builtin;refine Kd.R_append (Kd.int .i64) (w0:=w) w.heap.size rfl (.tmp 83) (.tmp 85) 23 3 (.int .i64 0) 8 rfl Try.underlying23 info3 rfl (by decide) (by omega) u8 x8_5 (rd t230 x62_5) [.int .i64 (rd t230 x62_5)] (fun k_=>some k_ ≠ (.slice (some ⟨go35,0,none⟩) x3_5.length co8:Value).ownBlock∧some k_ ≠ (.slice (some ad233) t230.length co46:Value).ownBlock) (fun _=>False) rfl rfl ?aP (fun _ hk=>hk.elim) ?aF ?aO ?aB ?aS ?aL ?_;(case aP=>exact rfl);(case aB=>exact (bm HB));(case aF=>exact (fun k_ hk=>⟨Kd.fresh' (Kd.R_lt (Kd.R_mv HO_3.out)) k_ hk,Kd.fresh' (Kd.R_lt (Kd.R_mv HO_60.out)) k_ hk⟩));(case aO=>exact (Kd.R_mv (Kd.R_mono HO_8.out (fun _ hk=>⟨hk.2,hk.1⟩))));(case aS=>exact (below_size (bm HB)));(case aL=>have:=LMc57.out;omega);intro v239 w63 ho hb hg hat;rw [← Ny238.out] at ho;refine ev6 (Kd.R_after (ok:=(fun k_=>some k_ ≠ (.slice (some ad233) t230.length co46:Value).ownBlock)) (Kd.R_mv (Kd.R_mono HO_3.out (fun _ hk=>⟨hk.2,hk.1⟩))) hg hat) (Kd.R_after (ok:=(fun k_=>some k_ ≠ (.slice (some ⟨go35,0,none⟩) x3_5.length co8:Value).ownBlock)) (Kd.R_mv (Kd.R_mono HO_60.out (fun _ hk=>⟨hk.2,hk.1⟩))) hg hat) (blk_grown (km_ BK216) hg (Kd.R_ne HO_8.out BK216.out (by decide))) (blk_grown (km_ BK222) hg (Kd.R_ne HO_8.out BK222.out (by decide))) (hb) (ho) ?_;clear HO_3 HO_60 BK216 BK222 HB HO_8;intro HO_3 HO_60 BK216 BK222 HB HO240;clear ho hb hg hat))
                  (try simp only [← hl3_5])
                  go_roundg k5
                  case measure=>have:=HK1.out;have:=HK2.out;have:=HJ18.out;have:=HK4.out;have:=HK5.out;omega
                  case rel=>exact ⟨(y237),(y238),(wrap64 (x62_5 + 1)),(by first | rfl | (simp;done) | (simp [*];done)),H',⟨by have:=HK1.out;have:=HK2.out;have:=HJ18.out;have:=HK4.out;have:=HK5.out;omega⟩,⟨by (try simp only [hl3_1]);(try simp only [hl3_2]);(try simp only [hl3_4]);(try simp only [hl3_5]);exact Kd.R_mv (Kd.R_mono HO_3.out (fun _ hk=>⟨hk.2,hk.1⟩))⟩,⟨by (try simp only [hl3_1]);(try simp only [hl3_2]);(try simp only [hl3_4]);(try simp only [hl3_5]);exact Kd.R_mv HO240.out⟩,⟨by (try simp only [hl3_1]);(try simp only [hl3_2]);(try simp only [hl3_4]);(try simp only [hl3_5]);exact Kd.R_mv HO_60.out⟩,⟨by (try simp only [hl3_1]);(try simp only [hl3_2]);(try simp only [hl3_4]);(try simp only [hl3_5]);exact km_ BK216⟩,⟨by (try simp only [hl3_1]);(try simp only [hl3_2]);(try simp only [hl3_4]);(try simp only [hl3_5]);exact km_ BK222⟩,⟨bm HB⟩⟩
                 ·rw [if_neg c55] at H;have c55b0:decide ((rd x3_5 (rd t230 x62_5)) < 0) = false:=decide_eq_false c55;clear c55;have H':=Aside0.mk H;clear H;have p233:0 ≤ (x62_5:Int):=of_decide_eq_true (by first | (with_reducible assumption) | assumption);have q233:x62_5 < (t230.length:Int):=of_decide_eq_true (by first | (with_reducible assumption) | assumption);obtain ⟨ad233,e233,hx233_0⟩:=Kd.at_int (Kd.R_reads' HO_60.out).2.2 x62_5 p233 q233;cases e233;replace p233:=eq_true p233;replace q233:=eq_true q233;have hnb64:=NB216_222.out;have hnc64:=NB222_216.out;obtain ⟨hcz65_0,hcz65_1,hcz65_2,hfz65_0,hfz65_1,hfz65_2⟩:=bt3 BK216;have p234:0 ≤ ((rd t230 x62_5):Int):=of_decide_eq_true (by first | (with_reducible assumption) | assumption);have q234:(rd t230 x62_5) < (l0_2.length:Int):=of_decide_eq_true (by first | (with_reducible assumption) | assumption);obtain ⟨ad234,e234,hx234_0,hx234_1⟩:=at_T88 HR0_2.out (rd t230 x62_5) p234 q234;obtain rfl:ad221 = ad234:=(by injection e234)
                  replace hx234_0:=(HB.out.cell (World.block_lt_of_cell? w _ hx234_0)).trans hx234_0;replace hx234_1:=(HB.out.cell (World.block_lt_of_cell? w _ hx234_1)).trans hx234_1;replace p234:=eq_true p234;replace q234:=eq_true q234;go_wp2_with (first | ((with_reducible refine gate_callee (f:=145) rfl ?_);refine gL_ (some 71) Try.func145 #[.agg #[.int .i64 ((rd_T88 l0_2 (rd t230 x62_5)).f0),.int .i64 ((rd_T88 l0_2 (rd t230 x62_5)).f1)]] (h:=?_);(with_reducible refine (spec_ggGear.calls ((rd_T88 l0_2 (rd t230 x62_5)).f0) ((rd_T88 l0_2 (rd t230 x62_5)).f1) true _ A52.out).mono ?_);rintro e w66 ⟨rfl,hb⟩;refine ⟨_,rfl,?_⟩;refine ev6 (Kd.R_below (Kd.R_mv HO_3.out) hb) (Kd.R_below (Kd.R_mv HO_8.out) hb) (Kd.R_below (Kd.R_mv HO_60.out) hb) (kb BK216 hb) (kb BK222 hb) (bs HB hb) ?_;clear HO_3 HO_8 HO_60 BK216 BK222 HB;intro HO_3 HO_8 HO_60 BK216 BK222 HB;(try clear hb);have p236:0 ≤ ((rd t230 x62_5):Int):=of_decide_eq_true (by first | (with_reducible assumption) | assumption);have q236:(rd t230 x62_5) < (x3_5.length:Int):=of_decide_eq_true (by first | (with_reducible assumption) | assumption);obtain ⟨ad236,e236,hx236_0⟩:=Kd.at_int (Kd.R_reads' HO_3.out).2.2 (rd t230 x62_5) p236 q236;obtain rfl:(⟨go35,0,none⟩:Addr) = ad236:=(by injection e236);(first | simp only [add_plain] at hx236_0 | simp only [add_at] at hx236_0 | simp only [Addr.add,Nat.zero_add] at hx236_0 | skip);replace p236:=eq_true p236;replace q236:=eq_true q236))
                  (try simp only [← hl3_5])
                  go_roundg k5
                  case measure=>have:=HK1.out;have:=HK2.out;have:=HJ18.out;have:=HK4.out;have:=HK5.out;omega
                  case rel=>exact ⟨(x3_5),(x8_5),(wrap64 (x62_5 + 1)),(by first | rfl | (simp;done) | (simp [*];done)),H',⟨by have:=HK1.out;have:=HK2.out;have:=HJ18.out;have:=HK4.out;have:=HK5.out;omega⟩,⟨by (try simp only [hl3_1]);(try simp only [hl3_2]);(try simp only [hl3_4]);(try simp only [hl3_5]);exact Kd.R_mv HO_3.out⟩,⟨by (try simp only [hl3_1]);(try simp only [hl3_2]);(try simp only [hl3_4]);(try simp only [hl3_5]);exact Kd.R_mv HO_8.out⟩,⟨by (try simp only [hl3_1]);(try simp only [hl3_2]);(try simp only [hl3_4]);(try simp only [hl3_5]);exact Kd.R_mv HO_60.out⟩,⟨by (try simp only [hl3_1]);(try simp only [hl3_2]);(try simp only [hl3_4]);(try simp only [hl3_5]);exact km_ BK216⟩,⟨by (try simp only [hl3_1]);(try simp only [hl3_2]);(try simp only [hl3_4]);(try simp only [hl3_5]);exact km_ BK222⟩,⟨bm HB⟩⟩
                ·replace c53:=Bool.eq_false_iff.mpr c53;subst c53;have H1:(spec_ggGroups.l3 k5 x3_5 x5_2 x8_5 x9_4 l0_2 (l0_2.length:Int) x28_2 t230 (t230.length:Int) (wrap64 (x62_5 + 1)) a0_0 a0_1 l0_2) = some r:=by rw [if_neg (show ¬ (false = true) by decide)] at H;exact H
                 clear H;have H:=H1;clear H1;have H':=Aside0.mk H;clear H;have p233:0 ≤ (x62_5:Int):=of_decide_eq_true (by first | (with_reducible assumption) | assumption);have q233:x62_5 < (t230.length:Int):=of_decide_eq_true (by first | (with_reducible assumption) | assumption);obtain ⟨ad233,e233,hx233_0⟩:=Kd.at_int (Kd.R_reads' HO_60.out).2.2 x62_5 p233 q233;cases e233;replace p233:=eq_true p233;replace q233:=eq_true q233;have hnb67:=NB216_222.out;have hnc67:=NB222_216.out;obtain ⟨hcz68_0,hcz68_1,hcz68_2,hfz68_0,hfz68_1,hfz68_2⟩:=bt3 BK216;have p234:0 ≤ ((rd t230 x62_5):Int):=of_decide_eq_true (by first | (with_reducible assumption) | assumption);have q234:(rd t230 x62_5) < (l0_2.length:Int):=of_decide_eq_true (by first | (with_reducible assumption) | assumption);obtain ⟨ad234,e234,hx234_0,hx234_1⟩:=at_T88 HR0_2.out (rd t230 x62_5) p234 q234;obtain rfl:ad221 = ad234:=(by injection e234)
                 replace hx234_0:=(HB.out.cell (World.block_lt_of_cell? w _ hx234_0)).trans hx234_0;replace hx234_1:=(HB.out.cell (World.block_lt_of_cell? w _ hx234_1)).trans hx234_1;replace p234:=eq_true p234;replace q234:=eq_true q234;go_wp2_with (first | ((with_reducible refine gate_callee (f:=145) rfl ?_);refine gL_ (some 71) Try.func145 #[.agg #[.int .i64 ((rd_T88 l0_2 (rd t230 x62_5)).f0),.int .i64 ((rd_T88 l0_2 (rd t230 x62_5)).f1)]] (h:=?_);(with_reducible refine (spec_ggGear.calls ((rd_T88 l0_2 (rd t230 x62_5)).f0) ((rd_T88 l0_2 (rd t230 x62_5)).f1) false _ A52.out).mono ?_);rintro e w69 ⟨rfl,hb⟩;refine ⟨_,rfl,?_⟩;refine ev6 (Kd.R_below (Kd.R_mv HO_3.out) hb) (Kd.R_below (Kd.R_mv HO_8.out) hb) (Kd.R_below (Kd.R_mv HO_60.out) hb) (kb BK216 hb) (kb BK222 hb) (bs HB hb) ?_;clear HO_3 HO_8 HO_60 BK216 BK222 HB;intro HO_3 HO_8 HO_60 BK216 BK222 HB;(try clear hb)))
                 (try simp only [← hl3_5])
                 go_roundg k5
                 case measure=>have:=HK1.out;have:=HK2.out;have:=HJ18.out;have:=HK4.out;have:=HK5.out;omega
                 case rel=>exact ⟨(x3_5),(x8_5),(wrap64 (x62_5 + 1)),(by first | rfl | (simp;done) | (simp [*];done)),H',⟨by have:=HK1.out;have:=HK2.out;have:=HJ18.out;have:=HK4.out;have:=HK5.out;omega⟩,⟨by (try simp only [hl3_1]);(try simp only [hl3_2]);(try simp only [hl3_4]);(try simp only [hl3_5]);exact Kd.R_mv HO_3.out⟩,⟨by (try simp only [hl3_1]);(try simp only [hl3_2]);(try simp only [hl3_4]);(try simp only [hl3_5]);exact Kd.R_mv HO_8.out⟩,⟨by (try simp only [hl3_1]);(try simp only [hl3_2]);(try simp only [hl3_4]);(try simp only [hl3_5]);exact Kd.R_mv HO_60.out⟩,⟨by (try simp only [hl3_1]);(try simp only [hl3_2]);(try simp only [hl3_4]);(try simp only [hl3_5]);exact km_ BK216⟩,⟨by (try simp only [hl3_1]);(try simp only [hl3_2]);(try simp only [hl3_4]);(try simp only [hl3_5]);exact km_ BK222⟩,⟨bm HB⟩⟩
               ·rw [if_neg c47] at H;have c47b0:decide (x62_5 < (t230.length:Int)) = false:=decide_eq_false c47;(try simp only [hl3_1] at c47b0)
                (try simp only [hl3_2] at c47b0)
                (try simp only [hl3_4] at c47b0)
                (try simp only [hl3_5] at c47b0)
                clear c47;have H':=Aside0.mk H;clear H;go_wp2;(try simp only [← hl3_4,← hl3_5])
                go_roundg k5
                case measure=>have:=HK1.out;have:=HK2.out;have:=HJ18.out;have:=HK4.out;have:=HK5.out;omega
                case rel=>exact ⟨(x3_5),(x8_5),(wrap64 (x9_4 + 1)),(by first | rfl | (simp;done) | (simp [*];done)),H',⟨by have:=HK1.out;have:=HK2.out;have:=HJ18.out;have:=HK4.out;have:=HK5.out;omega⟩,⟨by (try simp only [hl3_1]);(try simp only [hl3_2]);(try simp only [hl3_4]);(try simp only [hl3_5]);exact Kd.R_mv (Kd.R_mono HO_3.out (fun _ hk=>hk.1))⟩,⟨by (try simp only [hl3_1]);(try simp only [hl3_2]);(try simp only [hl3_4]);(try simp only [hl3_5]);exact Kd.R_mv (Kd.R_mono HO_8.out (fun _ hk=>hk.1))⟩,⟨by (try simp only [hl3_1]);(try simp only [hl3_2]);(try simp only [hl3_4]);(try simp only [hl3_5]);exact km_ BK216⟩,⟨by (try simp only [hl3_1]);(try simp only [hl3_2]);(try simp only [hl3_4]);(try simp only [hl3_5]);exact km_ BK222⟩,⟨bm HB⟩⟩
            ·rw [if_neg c40] at H;have c40b0:decide (x9_4 < (x8_4.length:Int)) = false:=decide_eq_false c40;(try simp only [hl3_1] at c40b0)
             (try simp only [hl3_2] at c40b0)
             (try simp only [hl3_4] at c40b0)
             clear c40;have H':=Aside0.mk H;clear H;obtain ⟨Ao70,co70,eo70⟩:=Kd.R_slice HO_8.out;subst eo70;go_wp2;(try simp only [← hl3_2,← hl3_4])
             go_roundg k4
             case measure=>have:=HK1.out;have:=HK2.out;have:=HJ18.out;have:=HK4.out;omega
             case rel=>exact ⟨(x3_4),(wrap64 (x5_2 + 1)),(wrap64 (x28_2 + 1)),(by first | rfl | (simp;done) | (simp [*];done)),(by first | rfl | (simp;done) | (simp [*];done)),H',⟨by have:=HK1.out;have:=HK2.out;have:=HJ18.out;have:=HK4.out;omega⟩,⟨by (try simp only [hl3_1]);(try simp only [hl3_2]);(try simp only [hl3_4]);exact Kd.R_mv (Kd.R_mono (ok':=fun k_=>True) HO_3.out (fun _ hk=>trivial))⟩,⟨by (try simp only [hl3_1]);(try simp only [hl3_2]);(try simp only [hl3_4]);exact km_ BK216⟩,⟨bm HB⟩⟩
      ·rw [if_neg c16] at H;have c16b0:decide (x28_2 < (l0_2.length:Int)) = false:=decide_eq_false c16;(try simp only [hl3_1] at c16b0)
       (try simp only [hl3_2] at c16b0)
       clear c16;obtain rfl:=Option.some.inj H;go_wp2;go_ret;exact ⟨_,by first | rfl | (simp [e0_,e1_] <;> rfl) | (simp [*,e0_,e1_] <;> rfl),Kd.R_mv HO_3.out,bm HB⟩

/-! ### spec_flRun: function 123 -/
def spec_flRun.f (k:Nat) (a0_0:Int) (a0_1:Int) (l0_2:List (S88)) (a1:Int):Option (Int × Int × Int × Int × Int × (List (S88))):=(spec_ggGroups.f k a0_0 a0_1 l0_2).bind fun t244=>((spec_flGo.f k a0_0 a0_1 l0_2 t244 a1).bind fun bt247=>(some (bt247.1,bt247.2.1,bt247.2.2.1,bt247.2.2.2.1,bt247.2.2.2.2.1,bt247.2.2.2.2.2.1)))
theorem spec_flRun.calls (k:Nat) (a0_0:Int) (a0_1:Int) (A0_2:Option Addr) (c0_2:Nat) (l0_2:List (S88)) (a1:Int) (r1:Int) (r2:Int) (r3:Int) (r4:Int) (r5:Int) (r6:List (S88)) (w:World) (hr0_2:Kd.C k88 w A0_2 l0_2.length l0_2) (hc0_2:l0_2.length ≤ c0_2) (h:spec_flRun.f k a0_0 a0_1 l0_2 a1 = some (r1,r2,r3,r4,r5,r6)) :
    Calls Try.prog 123 #[.agg #[.int .i64 a0_0,.int .i64 a0_1,.slice A0_2 l0_2.length c0_2],.int .i64 a1] w fun e w'=>∃ v5_:Value,e = .returned (.tuple #[.agg #[.int .i64 r1,.int .i64 r2,.int .i64 r3],.agg #[.int .i64 r4,.int .i64 r5,v5_]])∧Kd.R k88 88 w' w.heap.size (fun _=>True) v5_ r6∧Below w.heap.size w w':=by
 have S:=St.init (w:=w) (dc k88_heap at88 hr0_2 hc0_2 dn)
 clear hr0_2 hc0_2
 have F:=S.fc
 have H:=h;clear h;unfold spec_flRun.f at H
 replace H:=Option.bind_eq_some_iff.mp H;obtain ⟨t244,A3,H⟩:=H;(try dsimp only at H)
 replace H:=Option.bind_eq_some_iff.mp H;obtain ⟨⟨t247,t248,t249,t250,t251,t252,t255⟩,A4,H⟩:=H;(try dsimp only at H)
 simp only [Option.some.injEq,Prod.mk.injEq] at H
 obtain ⟨rfl,rfl,rfl,rfl,rfl,rfl⟩:=H
 go_enter Try.func123,Try.ntmps123
 go_wp2_with (first | ((with_reducible refine gd 2 rfl (L ?_));refine bo 2 (.agg #[_,_,_]) S ?_;clear S F;intro gb241 W S;have F:=S.fc) | ((with_reducible refine gd 4 rfl (L ?_));refine al 4 S zi127 ?_;clear S F;intro gb242 W S;have F:=S.fc) | ((with_reducible refine gd 5 rfl (L ?_));refine al 5 S zi50 ?_;clear S F;intro gb243 W S;have F:=S.fc) | ((with_reducible refine gs (t:=50) rfl (L ?_));(first | refine sb (.agg #[_,_,_]) S sz50 ?_ | refine ro (.agg #[_,_,_]) S sz50 ?_ (ho:=rfl) (hx:=rfl) (hy:=rfl));(clear S F;intro W S;have F:=S.fc)) | ((with_reducible refine gs (t:=127) rfl (L ?_));(first | refine sb (.agg #[_,_,_]) S sz127 ?_ | refine ro (.agg #[_,_,_]) S sz127 ?_ (ho:=rfl) (hx:=rfl) (hy:=rfl));(clear S F;intro W S;have F:=S.fc)))
 refine rgF S (fun _ S=>S) (fkc 9 6 zi127 (fkc 10 7 zi50 fk0)) [(0,3),(1,0),(1,1),(2,2),(2,4),(0,5),(0,6),(0,7),(0,8)] [(3,11),(3,12),(0,13)] [11,12] (id:=1) (h:=?_);clear S F;intro W S;have S0:=S;have F:=S.fc
 repeat (first | (refine f0 (h:=?_)) | (refine f1 S0 (h:=?_)) | (refine f0n (h:=?_)) | (refine f1n S0 (h:=?_)))
 refine fe2 S (by rfl) ?_;intro x6_ x7_ X W S;simp only [List.cons_append,List.nil_append,putF,Act.put,za_,zb_,zc_] at S ⊢;clear F;have F:=S.fc;refine ⟨rfl,?_⟩;refine cl (some 12) Try.func136 (spec_ggGroups.calls _ _ _ _ _ _ _ _ S.c S.n A3) (hargs:=by (simp only [ma_,mb_,mc_,F] <;> rfl)) (h:=?_);rintro e W ⟨v245,rfl,ho0,hb⟩;refine ⟨_,rfl,?_⟩;replace S:=S.got (atI .i64) hb ho0;obtain ⟨At244,ct244,rfl,S⟩:=S;clear F hb ho0;have F:=S.fc
 clear S0;have S0:=(S.nx X).tl;refine ⟨S0,?_⟩
 refine fe2 S (by rfl) ?_;intro x6_ x7_ X W S;simp only [List.cons_append,List.nil_append,putF,Act.put,za_,zb_,zc_] at S ⊢;clear F;have F:=S.fc;refine ⟨rfl,?_⟩;refine cl (some 14) Try.func135 (spec_flGo.calls _ _ _ _ _ _ _ _ _ _ _ _ _ _ _ _ _ _ S.c S.n S.c S.n A4) (hargs:=by (simp only [ma_,mb_,mc_,F] <;> rfl)) (h:=?_);rintro e W ⟨v253,v256,rfl,ho0,ho1,hb⟩;refine ⟨_,rfl,?_⟩;replace S:=S.got2 at88 (atU (d:=Kd.slice 3 (Kd.int .i64))) hb ho0 ho1 (by decide);obtain ⟨At252,ct252,At255,ct255,rfl,rfl,S⟩:=S;clear F hb ho0 ho1;have F:=S.fc
 clear S0;have S0:=(S.nx X).tl.tl.tl;refine ⟨S0,?_⟩
 repeat (first | (refine f0 (h:=?_)) | (refine f1 S0 (h:=?_)) | (refine f0n (h:=?_)) | (refine f1n S0 (h:=?_)))
 refine fz S ?_;intro gb258 gb259 W S;simp only [bxs,fbox,ptr,List.map_cons,List.map_nil,List.cons_append,List.nil_append,putF,Act.put,za_,zb_,zc_] at S ⊢;clear F S0;have S0:=S.tl.tl.tl.tl.tl;have F:=S.fc
 refine lk3 (by rfl) (by exact (Eq.refl true)) ?_;(first | refine sb (.agg #[_,_,_]) S sz50 ?_ | refine ro (.agg #[_,_,_]) S sz50 ?_ (ho:=rfl) (hx:=rfl) (hy:=rfl) | refine sb (.agg #[_,_,_]) S sz127 ?_ | refine ro (.agg #[_,_,_]) S sz127 ?_ (ho:=rfl) (hx:=rfl) (hy:=rfl));(clear S F;intro W S;have F:=S.fc)
 refine lk3 (by rfl) (by exact (Eq.refl true)) ?_;(first | refine sb (.agg #[_,_,_]) S sz50 ?_ | refine ro (.agg #[_,_,_]) S sz50 ?_ (ho:=rfl) (hx:=rfl) (hy:=rfl) | refine sb (.agg #[_,_,_]) S sz127 ?_ | refine ro (.agg #[_,_,_]) S sz127 ?_ (ho:=rfl) (hx:=rfl) (hy:=rfl));(clear S F;intro W S;have F:=S.fc)
 repeat (first | (refine q0 (h:=?_)) | (refine q1 S0 (h:=?_)) | (refine q0n (h:=?_)) | (refine q1n S0 (h:=?_)))
 refine oz ?_
 try clear S0
 go_wp2_with (first | ((with_reducible refine gs (t:=50) rfl (L ?_));(first | refine sb (.agg #[_,_,_]) S sz50 ?_ | refine ro (.agg #[_,_,_]) S sz50 ?_ (ho:=rfl) (hx:=rfl) (hy:=rfl));(clear S F;intro W S;have F:=S.fc)) | ((with_reducible refine gs (t:=127) rfl (L ?_));(first | refine sb (.agg #[_,_,_]) S sz127 ?_ | refine ro (.agg #[_,_,_]) S sz127 ?_ (ho:=rfl) (hx:=rfl) (hy:=rfl));(clear S F;intro W S;have F:=S.fc)))
 refine rgP S (fun _ S=>(S.ms [1,1,1,1,1,0,0])) [(1,0),(1,1),(2,2),(2,3)] [] (by kernel_rfl) (by kernel_rfl) (fun _ d _ _ _ h=>by cases d <;> exact h) ?_;clear S F;intro W S;have S0:=(S.ms [1,1,1,1,1,0,0]);have F:=S.fc
 repeat (first | (refine q0 (h:=?_)) | (refine q1 S0 (h:=?_)) | (refine q0n (h:=?_)) | (refine q1n S0 (h:=?_)))
 refine lk2 (by rfl) (by exact (Eq.refl true)) ?_;(first | refine sb (.agg #[_,_,_]) S sz50 ?_ | refine ro (.agg #[_,_,_]) S sz50 ?_ (ho:=rfl) (hx:=rfl) (hy:=rfl) | refine sb (.agg #[_,_,_]) S sz127 ?_ | refine ro (.agg #[_,_,_]) S sz127 ?_ (ho:=rfl) (hx:=rfl) (hy:=rfl));(clear S F;intro W S;have F:=S.fc)
 clear S0;have S0:=(S.ms [1,1,1,1,1,0,0]);refine ⟨S0,?_⟩
 refine lk2 (by rfl) (by exact (Eq.refl true)) ?_;(first | refine sb (.agg #[_,_,_]) S sz50 ?_ | refine ro (.agg #[_,_,_]) S sz50 ?_ (ho:=rfl) (hx:=rfl) (hy:=rfl) | refine sb (.agg #[_,_,_]) S sz127 ?_ | refine ro (.agg #[_,_,_]) S sz127 ?_ (ho:=rfl) (hx:=rfl) (hy:=rfl));(clear S F;intro W S;have F:=S.fc)
 clear S0;have S0:=(S.ms [1,1,1,1,1,0,0]);refine ⟨S0,?_⟩
 refine oz ?_
 try clear S0
 go_wp2_with (first | ((with_reducible refine gs (t:=50) rfl (L ?_));(first | refine sb (.agg #[_,_,_]) S sz50 ?_ | refine ro (.agg #[_,_,_]) S sz50 ?_ (ho:=rfl) (hx:=rfl) (hy:=rfl));(clear S F;intro W S;have F:=S.fc)) | ((with_reducible refine gs (t:=127) rfl (L ?_));(first | refine sb (.agg #[_,_,_]) S sz127 ?_ | refine ro (.agg #[_,_,_]) S sz127 ?_ (ho:=rfl) (hx:=rfl) (hy:=rfl));(clear S F;intro W S;have F:=S.fc)))
 refine bodyPost_ret (results_cc rfl _ _ gb242 gb243 127 50 #[.int .i64 t247,.int .i64 t248,.int .i64 t249] #[.int .i64 t250,.int .i64 t251,.slice At252 t252.length ct252] (0,0) (0,0) _ _ rfl S.hb Try.underlying127 rfl (by kernel_rfl) rfl S.hb Try.underlying50 rfl (by kernel_rfl)) rfl ?_
 exact ⟨_,(by first | rfl | (simp [e0_,e1_] <;> rfl) | (simp [*,e0_,e1_] <;> rfl)),(by first | exact S.r | exact Kd.R_nil _ _ _ _ _),S.below⟩

/-! ### spec_syEnd: function 124 -/
def spec_syEnd.f (a0_0:Int) (a0_1:Int) (l0_2:List (S88)) (a1_0:Int) (a1_1:Int) (a1_2:Int):Option (Int):=if a1_0 = 1 then (some a1_2) else (if a1_0 = 2 then (some a0_1) else (some (wrap64 (a0_1 + 1))))
theorem spec_syEnd.calls (a0_0:Int) (a0_1:Int) (A0_2:Option Addr) (c0_2:Nat) (l0_2:List (S88)) (a1_0:Int) (a1_1:Int) (a1_2:Int) (r:Int) (w:World) (hr0_2:Kd.C k88 w A0_2 l0_2.length l0_2) (hc0_2:l0_2.length ≤ c0_2) (h:spec_syEnd.f a0_0 a0_1 l0_2 a1_0 a1_1 a1_2 = some r) :
    Calls Try.prog 124 #[.agg #[.int .i64 a0_0,.int .i64 a0_1,.slice A0_2 l0_2.length c0_2],.agg #[.int .i64 a1_0,.int .i64 a1_1,.int .i64 a1_2]] w fun e w'=>e = .returned (.int .i64 r)∧Below w.heap.size w w':=by
 have S:=St.init (w:=w) (dc k88_heap at88 hr0_2 hc0_2 dn)
 clear hr0_2 hc0_2
 have F:=S.fc
 have H:=h;clear h;unfold spec_syEnd.f at H
 replace H:=sp_ H;rcases H with ⟨c3,H⟩ | ⟨c3,H⟩
 · skip
   replace c3:=ceq c3
   obtain rfl:=Option.some.inj H
   go_enter Try.func124,Try.ntmps124
   go_wp2_with (first | ((with_reducible refine gd 2 rfl (L ?_));refine bo 2 (.agg #[_,_,_]) S ?_;clear S F;intro gb260 W S;have F:=S.fc) | ((with_reducible refine gd 3 rfl (L ?_));refine bo 3 (.agg #[_,_,_]) S ?_;clear S F;intro gb261 W S;have F:=S.fc))
   go_ret
   exact ⟨(by first | rfl | (simp [e0_,e1_] <;> rfl) | (simp [*,e0_,e1_] <;> rfl)),S.below⟩
 · skip
   replace c3:=cne c3
   replace H:=sp_ H;rcases H with ⟨c8,H⟩ | ⟨c8,H⟩
   · skip
     replace c8:=ceq c8
     obtain rfl:=Option.some.inj H
     go_enter Try.func124,Try.ntmps124
     go_wp2_with (first | ((with_reducible refine gd 2 rfl (L ?_));refine bo 2 (.agg #[_,_,_]) S ?_;clear S F;intro gb260 W S;have F:=S.fc) | ((with_reducible refine gd 3 rfl (L ?_));refine bo 3 (.agg #[_,_,_]) S ?_;clear S F;intro gb261 W S;have F:=S.fc))
     go_ret
     exact ⟨(by first | rfl | (simp [e0_,e1_] <;> rfl) | (simp [*,e0_,e1_] <;> rfl)),S.below⟩
   · skip
     replace c8:=cne c8
     obtain rfl:=Option.some.inj H
     go_enter Try.func124,Try.ntmps124
     go_wp2_with (first | ((with_reducible refine gd 2 rfl (L ?_));refine bo 2 (.agg #[_,_,_]) S ?_;clear S F;intro gb260 W S;have F:=S.fc) | ((with_reducible refine gd 3 rfl (L ?_));refine bo 3 (.agg #[_,_,_]) S ?_;clear S F;intro gb261 W S;have F:=S.fc))
     go_ret
     exact ⟨(by first | rfl | (simp [e0_,e1_] <;> rfl) | (simp [*,e0_,e1_] <;> rfl)),S.below⟩

/-! ### spec_syMeets: function 104 -/
def spec_syMeets.l0:Nat→List Int→Int→Int→Int→Int→List (S88)→List Int→List Int→Int→Int→List (S88)→Int→Int→List (S88)→Option (Bool)
  | 0,_,_,_,_,_,_,_,_,_,_,_,_,_,_=>none
  | k + 1,x12,x13,x14,x263000,x263001,x263002,x263003,x263004,x264000,x264001,x264002,x265000,x265001,x265002=>if x14 < x13 then (if 0 ≤ x14 then (if x14 < (x12.length:Int) then ((spec_flRun.f k x265000 x265001 x265002 (rd x12 x14)).bind fun bt266=>((spec_syEnd.f x264000 x264001 x264002 bt266.1 bt266.2.1 bt266.2.2.1).bind fun t276=>(if x14 < (x263004.length:Int) then (if t276 = (rd x263004 x14) then (spec_syMeets.l0 k x12 x13 (wrap64 (x14 + 1)) x263000 x263001 x263002 x263003 x263004 x264000 x264001 x264002 bt266.2.2.2.1 bt266.2.2.2.2.1 bt266.2.2.2.2.2) else (some false)) else (none)))) else (none)) else (none)) else (some true)
def spec_syMeets.f (k:Nat) (a0_0:Int) (a0_1:Int) (l0_2:List (S88)) (l0_3:List Int) (l0_4:List Int) (a1_0:Int) (a1_1:Int) (l1_2:List (S88)):Option (Bool):=spec_syMeets.l0 k l0_3 (l0_3.length:Int) 0 a0_0 a0_1 l0_2 l0_3 l0_4 a1_0 a1_1 l1_2 a1_0 a1_1 l1_2
theorem spec_syMeets.calls (k:Nat) (a0_0:Int) (a0_1:Int) (A0_2:Option Addr) (c0_2:Nat) (l0_2:List (S88)) (A0_3:Option Addr) (c0_3:Nat) (l0_3:List Int) (A0_4:Option Addr) (c0_4:Nat) (l0_4:List Int) (a1_0:Int) (a1_1:Int) (A1_2:Option Addr) (c1_2:Nat) (l1_2:List (S88)) (r:Bool) (w:World) (hr0_2:Kd.C k88 w A0_2 l0_2.length l0_2) (hc0_2:l0_2.length ≤ c0_2) (hr0_3:Kd.C (Kd.int .i64) w A0_3 l0_3.length l0_3) (hc0_3:l0_3.length ≤ c0_3) (hr0_4:Kd.C (Kd.int .i64) w A0_4 l0_4.length l0_4) (hc0_4:l0_4.length ≤ c0_4) (hr1_2:Kd.C k88 w A1_2 l1_2.length l1_2) (hc1_2:l1_2.length ≤ c1_2) (h:spec_syMeets.f k a0_0 a0_1 l0_2 l0_3 l0_4 a1_0 a1_1 l1_2 = some r) :
    Calls Try.prog 104 #[.agg #[.int .i64 a0_0,.int .i64 a0_1,.slice A0_2 l0_2.length c0_2,.slice A0_3 l0_3.length c0_3,.slice A0_4 l0_4.length c0_4],.agg #[.int .i64 a1_0,.int .i64 a1_1,.slice A1_2 l1_2.length c1_2]] w fun e w'=>e = .returned (.bool r)∧Below w.heap.size w w':=by
 have S:=St.init (w:=w) (dc k88_heap at88 hr0_2 hc0_2 (dc (Kd.heap_int .i64) (atI .i64) hr0_3 hc0_3 (dc (Kd.heap_int .i64) (atI .i64) hr0_4 hc0_4 (dc k88_heap at88 hr1_2 hc1_2 dn))))
 clear hr0_2 hc0_2 hr0_3 hc0_3 hr0_4 hc0_4 hr1_2 hc1_2
 have F:=S.fc
 have H:=h;clear h;unfold spec_syMeets.f at H
 go_enter Try.func104,Try.ntmps104
 go_wp2_with (first | ((with_reducible refine gd 2 rfl (L ?_));refine bo 2 (.agg #[_,_,_,_,_]) S ?_;clear S F;intro gb262 W S;have F:=S.fc) | ((with_reducible refine gd 3 rfl (L ?_));refine bo 3 (.agg #[_,_,_]) S ?_;clear S F;intro gb263 W S;have F:=S.fc) | ((with_reducible refine gd 5 rfl (L ?_));refine al 5 S zi50 ?_;clear S F;intro gb264 W S;have F:=S.fc) | ((with_reducible refine gs (t:=50) rfl (L ?_));(first | refine sb (.agg #[_,_,_]) S sz50 ?_ | refine ro (.agg #[_,_,_]) S sz50 ?_ (ho:=rfl) (hx:=rfl) (hy:=rfl));(clear S F;intro W S;have F:=S.fc)) | ((with_reducible refine gs (t:=127) rfl (L ?_));(first | refine sb (.agg #[_,_,_]) S sz127 ?_ | refine ro (.agg #[_,_,_]) S sz127 ?_ (ho:=rfl) (hx:=rfl) (hy:=rfl));(clear S F;intro W S;have F:=S.fc)))
 go_loopg [14] k (fun kq v14 w'=>∃ (x14_1:Int) (x265000_1:Int) (x265001_1:Int) (x265002_1:List (S88)) (Ax265002_1:Option Addr) (cx265002_1:Nat),v14 = .int .i64 x14_1∧spec_syMeets.l0 kq l0_3 (l0_3.length:Int) x14_1 a0_0 a0_1 l0_2 l0_3 l0_4 a1_0 a1_1 l1_2 x265000_1 x265001_1 x265002_1 = some r∧kq ≤ k∧St w w (fun _=>False) [bor at88 Ax265002_1 cx265002_1 x265002_1,bor at88 A0_2 c0_2 l0_2,bor (atI .i64) A0_3 c0_3 l0_3,bor (atI .i64) A0_4 c0_4 l0_4,bor at88 A1_2 c1_2 l1_2] w'  [box gb264 50 [.int .i64 x265000_1,.int .i64 x265001_1,.slice Ax265002_1 x265002_1.length cx265002_1],box gb263 50 [.int .i64 a1_0,.int .i64 a1_1,.slice A1_2 l1_2.length c1_2],box gb262 31 [.int .i64 a0_0,.int .i64 a0_1,.slice A0_2 l0_2.length c0_2,.slice A0_3 l0_3.length c0_3,.slice A0_4 l0_4.length c0_4]])
 case atStart=>exact ⟨0,a1_0,a1_1,l1_2,_,_,(by first | rfl | (simp;done) | (simp [*];done) | (rw [w6_ (by omega) (by omega)])),H,Nat.le_refl _,(S.dk [3,0,1,2,3])⟩
 case round =>
  clear H S F
  obtain ⟨x14_1,x265000_1,x265001_1,x265002_1,Ax265002_1,cx265002_1,rfl,HA,HK1,S⟩:=hrel
  have F:=S.fc
  cases gk with
  | zero=>exact absurd HA (by simp [spec_syMeets.l0])
  | succ k1 =>
   have H:=HA;clear HA;simp only [spec_syMeets.l0,F] at H
   replace H:=sp_ H;rcases H with ⟨c12,H⟩ | ⟨c12,H⟩
   · skip
     replace H:=np_ H;obtain ⟨c13,H⟩:=H
     replace H:=np_ H;obtain ⟨c14,H⟩:=H
     replace H:=Option.bind_eq_some_iff.mp H;obtain ⟨⟨t266,t267,t268,t269,t270,t271⟩,A15,H⟩:=H;(try dsimp only at H)
     replace H:=Option.bind_eq_some_iff.mp H;obtain ⟨t276,A16,H⟩:=H;(try dsimp only at H)
     replace H:=np_ H;obtain ⟨c17,H⟩:=H
     replace H:=sp_ H;rcases H with ⟨c18,H⟩ | ⟨c18,H⟩
     · skip
       replace c18:=ceq c18
       go_wp2_with (first | ((with_reducible refine gate_callee (f:=123) rfl (L ?_));refine cl (some 22) Try.func123 (spec_flRun.calls _ _ _ _ _ _ _ _ _ _ _ _ _ _ S.c S.n A15) (hargs:=by (simp only [ma_,mb_,mc_,F] <;> rfl)) (h:=?_);rintro e W ⟨v272,rfl,ho0,hb⟩;refine ⟨_,rfl,?_⟩;replace S:=S.got at88 hb ho0;obtain ⟨At271,ct271,rfl,S⟩:=S;clear F hb ho0;have F:=S.fc) | ((with_reducible refine gd 8 rfl (L ?_));refine al 8 S zi127 ?_;clear S F;intro gb274 W S;have F:=S.fc) | ((with_reducible refine gd 9 rfl (L ?_));refine al 9 S zi50 ?_;clear S F;intro gb275 W S;have F:=S.fc) | ((with_reducible refine gs (t:=50) rfl (L ?_));(first | refine sb (.agg #[_,_,_]) S sz50 ?_ | refine ro (.agg #[_,_,_]) S sz50 ?_ (ho:=rfl) (hx:=rfl) (hy:=rfl));(clear S F;intro W S;have F:=S.fc)) | ((with_reducible refine gs (t:=127) rfl (L ?_));(first | refine sb (.agg #[_,_,_]) S sz127 ?_ | refine ro (.agg #[_,_,_]) S sz127 ?_ (ho:=rfl) (hx:=rfl) (hy:=rfl));(clear S F;intro W S;have F:=S.fc)))
       refine rq S [(0,3),(0,5),(1,0),(1,1),(1,4),(0,6),(1,7),(2,2),(0,8)] [] (h:=?_);clear S F;intro W S;have S0:=S;have F:=S.fc
       repeat (first | (refine q0 (h:=?_)) | (refine q1 S0 (h:=?_)) | (refine q0n (h:=?_)) | (refine q1n S0 (h:=?_)))
       refine lk2 (by rfl) (by exact (Eq.refl true)) ?_;refine cl (some 27) Try.func124 (spec_syEnd.calls _ _ _ _ _ _ _ _ _ _ S.c S.n A16) (hargs:=by (simp only [ma_,mb_,mc_,F] <;> rfl)) (h:=?_);rintro e W ⟨rfl,hb⟩;refine ⟨_,rfl,?_⟩;replace S:=S.go hb;clear F hb;have F:=S.fc
       clear S0;have S0:=S;refine ⟨S0,?_⟩
       repeat (first | (refine q0 (h:=?_)) | (refine q1 S0 (h:=?_)) | (refine q0n (h:=?_)) | (refine q1n S0 (h:=?_)))
       refine oz ?_
       try clear S0
       go_wp2_with (first | ((with_reducible refine gs (t:=50) rfl (L ?_));(first | refine sb (.agg #[_,_,_]) S sz50 ?_ | refine ro (.agg #[_,_,_]) S sz50 ?_ (ho:=rfl) (hx:=rfl) (hy:=rfl));(clear S F;intro W S;have F:=S.fc)) | ((with_reducible refine gs (t:=127) rfl (L ?_));(first | refine sb (.agg #[_,_,_]) S sz127 ?_ | refine ro (.agg #[_,_,_]) S sz127 ?_ (ho:=rfl) (hx:=rfl) (hy:=rfl));(clear S F;intro W S;have F:=S.fc)))
       go_roundg k1
       case measure=>omega
       case rel=>exact ⟨(wrap64 (x14_1 + 1)),t269,t270,t271,_,_,(by first | rfl | (simp;done) | (simp [*];done) | (rw [w6_ (by omega) (by omega)])),H,(by first | omega | exact Nat.le_refl _),((S.fzr At271 rfl).dk [0,2,3,4,5]).tl.tl.tl⟩
     · skip
       replace c18:=cne c18
       obtain rfl:=Option.some.inj H
       go_wp2_with (first | ((with_reducible refine gate_callee (f:=123) rfl (L ?_));refine cl (some 22) Try.func123 (spec_flRun.calls _ _ _ _ _ _ _ _ _ _ _ _ _ _ S.c S.n A15) (hargs:=by (simp only [ma_,mb_,mc_,F] <;> rfl)) (h:=?_);rintro e W ⟨v272,rfl,ho0,hb⟩;refine ⟨_,rfl,?_⟩;replace S:=S.got at88 hb ho0;obtain ⟨At271,ct271,rfl,S⟩:=S;clear F hb ho0;have F:=S.fc) | ((with_reducible refine gd 8 rfl (L ?_));refine al 8 S zi127 ?_;clear S F;intro gb274 W S;have F:=S.fc) | ((with_reducible refine gd 9 rfl (L ?_));refine al 9 S zi50 ?_;clear S F;intro gb275 W S;have F:=S.fc) | ((with_reducible refine gs (t:=50) rfl (L ?_));(first | refine sb (.agg #[_,_,_]) S sz50 ?_ | refine ro (.agg #[_,_,_]) S sz50 ?_ (ho:=rfl) (hx:=rfl) (hy:=rfl));(clear S F;intro W S;have F:=S.fc)) | ((with_reducible refine gs (t:=127) rfl (L ?_));(first | refine sb (.agg #[_,_,_]) S sz127 ?_ | refine ro (.agg #[_,_,_]) S sz127 ?_ (ho:=rfl) (hx:=rfl) (hy:=rfl));(clear S F;intro W S;have F:=S.fc)))
       refine rq S [(0,3),(0,5),(1,0),(1,1),(1,4),(0,6),(1,7),(2,2),(0,8)] [] (h:=?_);clear S F;intro W S;have S0:=S;have F:=S.fc
       repeat (first | (refine q0 (h:=?_)) | (refine q1 S0 (h:=?_)) | (refine q0n (h:=?_)) | (refine q1n S0 (h:=?_)))
       refine lk2 (by rfl) (by exact (Eq.refl true)) ?_;refine cl (some 27) Try.func124 (spec_syEnd.calls _ _ _ _ _ _ _ _ _ _ S.c S.n A16) (hargs:=by (simp only [ma_,mb_,mc_,F] <;> rfl)) (h:=?_);rintro e W ⟨rfl,hb⟩;refine ⟨_,rfl,?_⟩;replace S:=S.go hb;clear F hb;have F:=S.fc
       clear S0;have S0:=S;refine ⟨S0,?_⟩
       repeat (first | (refine q0 (h:=?_)) | (refine q1 S0 (h:=?_)) | (refine q0n (h:=?_)) | (refine q1n S0 (h:=?_)))
       refine oz ?_
       try clear S0
       go_wp2_with (first | ((with_reducible refine gs (t:=50) rfl (L ?_));(first | refine sb (.agg #[_,_,_]) S sz50 ?_ | refine ro (.agg #[_,_,_]) S sz50 ?_ (ho:=rfl) (hx:=rfl) (hy:=rfl));(clear S F;intro W S;have F:=S.fc)) | ((with_reducible refine gs (t:=127) rfl (L ?_));(first | refine sb (.agg #[_,_,_]) S sz127 ?_ | refine ro (.agg #[_,_,_]) S sz127 ?_ (ho:=rfl) (hx:=rfl) (hy:=rfl));(clear S F;intro W S;have F:=S.fc)))
       go_ret
       exact ⟨(by first | rfl | (simp [e0_,e1_] <;> rfl) | (simp [*,e0_,e1_] <;> rfl)),S.below⟩
   · skip
     obtain rfl:=Option.some.inj H
     go_wp2_with (first | ((with_reducible refine gs (t:=50) rfl (L ?_));(first | refine sb (.agg #[_,_,_]) S sz50 ?_ | refine ro (.agg #[_,_,_]) S sz50 ?_ (ho:=rfl) (hx:=rfl) (hy:=rfl));(clear S F;intro W S;have F:=S.fc)) | ((with_reducible refine gs (t:=127) rfl (L ?_));(first | refine sb (.agg #[_,_,_]) S sz127 ?_ | refine ro (.agg #[_,_,_]) S sz127 ?_ (ho:=rfl) (hx:=rfl) (hy:=rfl));(clear S F;intro W S;have F:=S.fc)))
     go_ret
     exact ⟨(by first | rfl | (simp [e0_,e1_] <;> rfl) | (simp [*,e0_,e1_] <;> rfl)),S.below⟩

/-! ### laws_toCell: function 97 -/
def laws_toCell.f (a0_0:Int) (a0_1:Int):Option (Int × Int):=some (a0_0,a0_1)
theorem laws_toCell.calls (a0_0:Int) (a0_1:Int) (r1:Int) (r2:Int) (w:World) (h:laws_toCell.f a0_0 a0_1 = some (r1,r2)) :
    Calls Try.prog 97 #[.agg #[.int .i64 a0_0,.int .i64 a0_1]] w fun e w'=>e = .returned (.agg #[.int .i64 r1,.int .i64 r2])∧Below w.heap.size w w':=by
 have S:=St.init (w:=w) dn
 have F:=S.fc
 have H:=h;clear h;unfold laws_toCell.f at H
 simp only [Option.some.injEq,Prod.mk.injEq] at H
 obtain ⟨rfl,rfl⟩:=H
 go_enter Try.func97,Try.ntmps97
 go_wp2_with (first | ((with_reducible refine gd 1 rfl (L ?_));refine bo 1 (.agg #[_,_]) S ?_;clear S F;intro gb315 W S;have F:=S.fc) | ((with_reducible refine gd 2 rfl (L ?_));refine al 2 S zi88 ?_;clear S F;intro gb316 W S;have F:=S.fc) | ((with_reducible refine gd 3 rfl (L ?_));refine al 3 S zi88 ?_;clear S F;intro gb317 W S;have F:=S.fc) | ((with_reducible refine gs (t:=3) rfl (L ?_));(first | refine sb (.int _ _) S sz3 ?_ | refine ro (.int _ _) S sz3 ?_ (ho:=rfl) (hx:=rfl) (hy:=rfl));(clear S F;intro W S;have F:=S.fc)) | ((with_reducible refine gs (t:=88) rfl (L ?_));(first | refine sb (.agg #[_,_]) S sz88 ?_ | refine ro (.agg #[_,_]) S sz88 ?_ (ho:=rfl) (hx:=rfl) (hy:=rfl));(clear S F;intro W S;have F:=S.fc)))
 refine bodyPost_ret (results_cell_row rfl _ _ gb316 88 #[.int .i64 a0_0,.int .i64 a0_1] (0,0) _ rfl S.hb Try.underlying88 rfl (by kernel_rfl)) rfl ?_
 exact ⟨(by first | rfl | (simp [e0_,e1_] <;> rfl) | (simp [*,e0_,e1_] <;> rfl)),S.below⟩

/-! ### laws_toCellS: function 61 -/
def laws_toCellS.l0:Nat→List (S106)→List (S88)→Int→Option ((List (S88)))
  | 0,_,_,_=>none
  | k + 1,x0,x3,x4=>if x4 < (x0.length:Int) then (if 0 ≤ x4 then ((laws_toCell.f ((rd_T106 x0 x4).f0) ((rd_T106 x0 x4).f1)).bind fun bt322=>(if x4 < (x3.length:Int) then (laws_toCellS.l0 k x0 (x3.set (x4:Int).toNat (⟨bt322.1,bt322.2⟩:S88)) (wrap64 (x4 + 1))) else (none))) else (none)) else (some x3)
def laws_toCellS.f (k:Nat) (l0:List (S106)):Option ((List (S88))):=if 0 ≤ (l0.length:Int) then (if ((l0.length:Int):Int).toNat ≤ 17592186044416 then (laws_toCellS.l0 k l0 (List.replicate ((l0.length:Int):Int).toNat z88) 0) else (none)) else (none)
theorem laws_toCellS.calls (k:Nat) (A0:Option Addr) (c0:Nat) (l0:List (S106)) (r:List (S88)) (w:World) (hr0:Kd.C k106 w A0 l0.length l0) (hc0:l0.length ≤ c0) (h:laws_toCellS.f k l0 = some r) :
    Calls Try.prog 61 #[.slice A0 l0.length c0] w fun e w'=>∃ v0_:Value,e = .returned (v0_)∧Kd.R k88 88 w' w.heap.size (fun _=>True) v0_ r∧Below w.heap.size w w':=by
 have S:=St.init (w:=w) (dc k106_heap at106 hr0 hc0 dn)
 clear hr0 hc0
 have F:=S.fc
 have H:=h;clear h;unfold laws_toCellS.f at H
 replace H:=np_ H;obtain ⟨c2,H⟩:=H
 replace H:=np_ H;obtain ⟨c3,H⟩:=H
 (first | (with_reducible replace H:=ob_ H;obtain ⟨y318,hy318,H⟩:=H;(try dsimp only at H)) | (obtain ⟨y318,hy318⟩:∃ y_:List (S88),y_ = (List.replicate ((l0.length:Int):Int).toNat z88):=⟨_,rfl⟩;(try rw [← hy318] at H);(try simp only [Option.bind_some] at H)));have Ny318:=Aside0.mk hy318;clear hy318
 go_enter Try.func61,Try.ntmps61
 go_wp2_with (first | ((with_reducible refine gd 7 rfl (L ?_));refine mka 7 at88 S Try.underlying29 info88 ?_;clear S F;intro Ay318 cy318 W S;(try simp only [Int.reduceToNat] at S);(try rw [← Ny318.out] at S ⊢);have F:=S.fc) | ((with_reducible refine gs (t:=88) rfl (L ?_));(first | refine sb (.agg #[_,_]) S sz88 ?_ | refine ro (.agg #[_,_]) S sz88 ?_ (ho:=rfl) (hx:=rfl) (hy:=rfl));clear S F;intro W S;(try simp only [gd88,gd106] at S);(try rw [← Ny318.out] at S);have F:=S.fc))
 go_loopg [4] k (fun kq v4 w'=>∃ (x3_1:List (S88)) (x4_1:Int),v4 = .int .i64 x4_1∧laws_toCellS.l0 kq l0 x3_1 x4_1 = some r∧kq ≤ k∧St w w (fun _=>False) [bor at106 A0 c0 l0] w'  [row at88 88 Ay318 y318.length cy318 x3_1])
 case atStart=>exact ⟨y318,0,(by first | rfl | (simp;done) | (simp [*];done) | (rw [w6_ (by omega) (by omega)])),H,Nat.le_refl _,S⟩
 case round =>
  clear H S F
  obtain ⟨x3_1,x4_1,rfl,HA,HK1,S⟩:=hrel
  have F:=S.fc
  cases gk with
  | zero=>exact absurd HA (by simp [laws_toCellS.l0])
  | succ k1 =>
   have H:=HA;clear HA;simp only [laws_toCellS.l0,F] at H
   replace H:=sp_ H;rcases H with ⟨c6,H⟩ | ⟨c6,H⟩
   · skip
     replace H:=np_ H;obtain ⟨c7,H⟩:=H
     replace H:=Option.bind_eq_some_iff.mp H;obtain ⟨⟨t322,t323⟩,A8,H⟩:=H;(try dsimp only at H)
     replace H:=np_ H;obtain ⟨c9,H⟩:=H
     (first | (with_reducible replace H:=ob_ H;obtain ⟨y324,hy324,H⟩:=H;(try dsimp only at H)) | (obtain ⟨y324,hy324⟩:∃ y_:List (S88),y_ = (x3_1.set (x4_1:Int).toNat (⟨t322,t323⟩:S88)):=⟨_,rfl⟩;(try rw [← hy324] at H);(try simp only [Option.bind_some] at H)));have Ny324:=Aside0.mk hy324;clear hy324
     go_wp2_with (first | ((with_reducible refine gate_callee (f:=97) rfl (L ?_));refine cl (some 20) Try.func97 (laws_toCell.calls _ _ _ _ _ A8) (hargs:=by (simp only [ma_,mb_,mc_,F] <;> rfl)) (h:=?_);rintro e W ⟨rfl,hb⟩;refine ⟨_,rfl,?_⟩;replace S:=S.go hb;clear F hb;have F:=S.fc) | ((with_reducible refine gs (t:=88) rfl (L ?_));(first | refine sb (.agg #[_,_]) S sz88 ?_ | refine ro (.agg #[_,_]) S sz88 ?_ (ho:=rfl) (hx:=rfl) (hy:=rfl));clear S F;intro W S;(try simp only [gd88,gd106] at S);(try rw [← Ny318.out] at S);(try rw [← Ny324.out] at S);have F:=S.fc))
     go_roundg k1
     case measure=>omega
     case rel=>exact ⟨y324,(wrap64 (x4_1 + 1)),(by first | rfl | (simp;done) | (simp [*];done) | (rw [w6_ (by omega) (by omega)])),H,(by first | omega | exact Nat.le_refl _),S⟩
   · skip
     obtain rfl:=Option.some.inj H
     go_wp2_with (first | ((with_reducible refine gs (t:=88) rfl (L ?_));(first | refine sb (.agg #[_,_]) S sz88 ?_ | refine ro (.agg #[_,_]) S sz88 ?_ (ho:=rfl) (hx:=rfl) (hy:=rfl));clear S F;intro W S;(try simp only [gd88,gd106] at S);(try rw [← Ny318.out] at S);have F:=S.fc))
     go_ret
     exact ⟨_,(by first | rfl | (simp [e0_,e1_] <;> rfl) | (simp [*,e0_,e1_] <;> rfl)),(by first | exact S.r | exact Kd.R_nil _ _ _ _ _),S.below⟩

/-! ### laws_toIntS: function 62 -/
def laws_toIntS.l0:Nat→List Int→List Int→Int→Option (List Int)
  | 0,_,_,_=>none
  | k + 1,x0,x3,x4=>if x4 < (x0.length:Int) then (if 0 ≤ x4 then (if x4 < (x3.length:Int) then (laws_toIntS.l0 k x0 (x3.set (x4:Int).toNat (rd x0 x4)) (wrap64 (x4 + 1))) else (none)) else (none)) else (some x3)
def laws_toIntS.f (k:Nat) (l0:List Int):Option (List Int):=if 0 ≤ (l0.length:Int) then (if ((l0.length:Int):Int).toNat ≤ 35184372088832 then (laws_toIntS.l0 k l0 (List.replicate ((l0.length:Int):Int).toNat 0) 0) else (none)) else (none)
theorem laws_toIntS.calls (k:Nat) (A0:Option Addr) (c0:Nat) (l0:List Int) (r:List Int) (w:World) (hr0:Kd.C (Kd.int .i64) w A0 l0.length l0) (hc0:l0.length ≤ c0) (h:laws_toIntS.f k l0 = some r) :
    Calls Try.prog 62 #[.slice A0 l0.length c0] w fun e w'=>∃ v0_:Value,e = .returned (v0_)∧Kd.R (Kd.int .i64) 3 w' w.heap.size (fun _=>True) v0_ r∧Below w.heap.size w w':=by
 have S:=St.init (w:=w) (dc (Kd.heap_int .i64) (atI .i64) hr0 hc0 dn)
 clear hr0 hc0
 have F:=S.fc
 have H:=h;clear h;unfold laws_toIntS.f at H
 replace H:=np_ H;obtain ⟨c2,H⟩:=H
 replace H:=np_ H;obtain ⟨c3,H⟩:=H
 (first | (with_reducible replace H:=ob_ H;obtain ⟨y325,hy325,H⟩:=H;(try dsimp only at H)) | (obtain ⟨y325,hy325⟩:∃ y_:List Int,y_ = (List.replicate ((l0.length:Int):Int).toNat 0):=⟨_,rfl⟩;(try rw [← hy325] at H);(try simp only [Option.bind_some] at H)));have Ny325:=Aside0.mk hy325;clear hy325
 go_enter Try.func62,Try.ntmps62
 go_wp2_with (first | ((with_reducible refine gd 7 rfl (L ?_));refine mka 7 (atI .i64) S Try.underlying23 info3 ?_;clear S F;intro Ay325 cy325 W S;(try simp only [Int.reduceToNat] at S);(try rw [← Ny325.out] at S ⊢);have F:=S.fc) | ((with_reducible refine gs (t:=3) rfl (L ?_));(first | refine sb (.int _ _) S sz3 ?_ | refine ro (.int _ _) S sz3 ?_ (ho:=rfl) (hx:=rfl) (hy:=rfl));clear S F;intro W S;(try rw [← Ny325.out] at S);have F:=S.fc))
 go_loopg [4] k (fun kq v4 w'=>∃ (x3_1:List Int) (x4_1:Int),v4 = .int .i64 x4_1∧laws_toIntS.l0 kq l0 x3_1 x4_1 = some r∧kq ≤ k∧St w w (fun _=>False) [bor (atI .i64) A0 c0 l0] w'  [row (atI .i64) 3 Ay325 y325.length cy325 x3_1])
 case atStart=>exact ⟨y325,0,(by first | rfl | (simp;done) | (simp [*];done) | (rw [w6_ (by omega) (by omega)])),H,Nat.le_refl _,S⟩
 case round =>
  clear H S F
  obtain ⟨x3_1,x4_1,rfl,HA,HK1,S⟩:=hrel
  have F:=S.fc
  cases gk with
  | zero=>exact absurd HA (by simp [laws_toIntS.l0])
  | succ k1 =>
   have H:=HA;clear HA;simp only [laws_toIntS.l0,F] at H
   replace H:=sp_ H;rcases H with ⟨c6,H⟩ | ⟨c6,H⟩
   · skip
     replace H:=np_ H;obtain ⟨c7,H⟩:=H
     replace H:=np_ H;obtain ⟨c8,H⟩:=H
     (first | (with_reducible replace H:=ob_ H;obtain ⟨y329,hy329,H⟩:=H;(try dsimp only at H)) | (obtain ⟨y329,hy329⟩:∃ y_:List Int,y_ = (x3_1.set (x4_1:Int).toNat (rd l0 x4_1)):=⟨_,rfl⟩;(try rw [← hy329] at H);(try simp only [Option.bind_some] at H)));have Ny329:=Aside0.mk hy329;clear hy329
     go_wp2_with (first | ((with_reducible refine gs (t:=3) rfl (L ?_));(first | refine sb (.int _ _) S sz3 ?_ | refine ro (.int _ _) S sz3 ?_ (ho:=rfl) (hx:=rfl) (hy:=rfl));clear S F;intro W S;(try rw [← Ny325.out] at S);(try rw [← Ny329.out] at S);have F:=S.fc))
     go_roundg k1
     case measure=>omega
     case rel=>exact ⟨y329,(wrap64 (x4_1 + 1)),(by first | rfl | (simp;done) | (simp [*];done) | (rw [w6_ (by omega) (by omega)])),H,(by first | omega | exact Nat.le_refl _),S⟩
   · skip
     obtain rfl:=Option.some.inj H
     go_wp2_with (first | ((with_reducible refine gs (t:=3) rfl (L ?_));(first | refine sb (.int _ _) S sz3 ?_ | refine ro (.int _ _) S sz3 ?_ (ho:=rfl) (hx:=rfl) (hy:=rfl));clear S F;intro W S;(try rw [← Ny325.out] at S);have F:=S.fc))
     go_ret
     exact ⟨_,(by first | rfl | (simp [e0_,e1_] <;> rfl) | (simp [*,e0_,e1_] <;> rfl)),(by first | exact S.r | exact Kd.R_nil _ _ _ _ _),S.below⟩

/-! ### laws_toChallenge: function 16 -/
def laws_toChallenge.f (k:Nat) (a0_0:Int) (a0_1:Int) (l0_2:List (S106)) (l0_3:List Int) (l0_4:List Int):Option (Int × Int × (List (S88)) × List Int × List Int):=(laws_toCellS.f k l0_2).bind fun t333=>((laws_toIntS.f k l0_3).bind fun t336=>((laws_toIntS.f k l0_4).bind fun t339=>(some (a0_0,a0_1,t333,t336,t339))))
theorem laws_toChallenge.calls (k:Nat) (a0_0:Int) (a0_1:Int) (A0_2:Option Addr) (c0_2:Nat) (l0_2:List (S106)) (A0_3:Option Addr) (c0_3:Nat) (l0_3:List Int) (A0_4:Option Addr) (c0_4:Nat) (l0_4:List Int) (r1:Int) (r2:Int) (r3:List (S88)) (r4:List Int) (r5:List Int) (w:World) (hr0_2:Kd.C k106 w A0_2 l0_2.length l0_2) (hc0_2:l0_2.length ≤ c0_2) (hr0_3:Kd.C (Kd.int .i64) w A0_3 l0_3.length l0_3) (hc0_3:l0_3.length ≤ c0_3) (hr0_4:Kd.C (Kd.int .i64) w A0_4 l0_4.length l0_4) (hc0_4:l0_4.length ≤ c0_4) (h:laws_toChallenge.f k a0_0 a0_1 l0_2 l0_3 l0_4 = some (r1,r2,r3,r4,r5)) :
    Calls Try.prog 16 #[.agg #[.int .i64 a0_0,.int .i64 a0_1,.slice A0_2 l0_2.length c0_2,.slice A0_3 l0_3.length c0_3,.slice A0_4 l0_4.length c0_4]] w fun e w'=>∃ v2_ v3_ v4_:Value,e = .returned (.agg #[.int .i64 r1,.int .i64 r2,v2_,v3_,v4_])∧Kd.R k88 88 w' w.heap.size (fun _=>True) v2_ r3∧Kd.R (Kd.int .i64) 3 w' w.heap.size (fun k_=>some k_ ≠ (v4_:Value).ownBlock) v3_ r4∧Kd.R (Kd.int .i64) 3 w' w.heap.size (fun k_=>some k_ ≠ (v3_:Value).ownBlock) v4_ r5∧Below w.heap.size w w':=by
 have S:=St.init (w:=w) (dc k106_heap at106 hr0_2 hc0_2 (dc (Kd.heap_int .i64) (atI .i64) hr0_3 hc0_3 (dc (Kd.heap_int .i64) (atI .i64) hr0_4 hc0_4 dn)))
 clear hr0_2 hc0_2 hr0_3 hc0_3 hr0_4 hc0_4
 have F:=S.fc
 have H:=h;clear h;unfold laws_toChallenge.f at H
 replace H:=Option.bind_eq_some_iff.mp H;obtain ⟨t333,A2,H⟩:=H;(try dsimp only at H)
 replace H:=Option.bind_eq_some_iff.mp H;obtain ⟨t336,A3,H⟩:=H;(try dsimp only at H)
 replace H:=Option.bind_eq_some_iff.mp H;obtain ⟨t339,A4,H⟩:=H;(try dsimp only at H)
 simp only [Option.some.injEq,Prod.mk.injEq] at H
 obtain ⟨rfl,rfl,rfl,rfl,rfl⟩:=H
 go_enter Try.func16,Try.ntmps16
 go_wp2_with (first | ((with_reducible refine gd 1 rfl (L ?_));refine bo 1 (.agg #[_,_,_,_,_]) S ?_;clear S F;intro gb330 W S;have F:=S.fc) | ((with_reducible refine gd 2 rfl (L ?_));refine al 2 S zi31 ?_;clear S F;intro gb331 W S;have F:=S.fc) | ((with_reducible refine gd 3 rfl (L ?_));refine al 3 S zi31 ?_;clear S F;intro gb332 W S;have F:=S.fc) | ((with_reducible refine gate_callee (f:=61) rfl (L ?_));refine cl (some 12) Try.func61 (laws_toCellS.calls _ _ _ _ _ _ S.c S.n A2) (hargs:=by (simp only [ma_,mb_,mc_,F] <;> rfl)) (h:=?_);rintro e W ⟨v334,rfl,ho0,hb⟩;refine ⟨_,rfl,?_⟩;replace S:=S.got at88 hb ho0;obtain ⟨At333,ct333,rfl,S⟩:=S;clear F hb ho0;have F:=S.fc) | ((with_reducible refine gate_callee (f:=62) rfl (L ?_));refine cl (some 16) Try.func62 (laws_toIntS.calls _ _ _ _ _ _ S.c S.n A3) (hargs:=by (simp only [ma_,mb_,mc_,F] <;> rfl)) (h:=?_);rintro e W ⟨v337,rfl,ho0,hb⟩;refine ⟨_,rfl,?_⟩;replace S:=S.got (atI .i64) hb ho0;obtain ⟨At336,ct336,rfl,S⟩:=S;clear F hb ho0;have F:=S.fc) | ((with_reducible refine gate_callee (f:=62) rfl (L ?_));refine cl (some 20) Try.func62 (laws_toIntS.calls _ _ _ _ _ _ S.c S.n A4) (hargs:=by (simp only [ma_,mb_,mc_,F] <;> rfl)) (h:=?_);rintro e W ⟨v340,rfl,ho0,hb⟩;refine ⟨_,rfl,?_⟩;replace S:=S.got (atI .i64) hb ho0;obtain ⟨At339,ct339,rfl,S⟩:=S;clear F hb ho0;have F:=S.fc) | ((with_reducible refine gs (t:=3) rfl (L ?_));(first | refine sb (.int _ _) S sz3 ?_ | refine ro (.int _ _) S sz3 ?_ (ho:=rfl) (hx:=rfl) (hy:=rfl));(clear S F;intro W S;have F:=S.fc)) | ((with_reducible refine gs (t:=23) rfl (L ?_));(first | refine sb (.slice _ _ _) S sz23 ?_ | refine ro (.slice _ _ _) S sz23 ?_ (ho:=rfl) (hx:=rfl) (hy:=rfl));(clear S F;intro W S;have F:=S.fc)) | ((with_reducible refine gs (t:=29) rfl (L ?_));(first | refine sb (.slice _ _ _) S sz29 ?_ | refine ro (.slice _ _ _) S sz29 ?_ (ho:=rfl) (hx:=rfl) (hy:=rfl));(clear S F;intro W S;have F:=S.fc)) | ((with_reducible refine gs (t:=31) rfl (L ?_));(first | refine sb (.agg #[_,_,_,_,_]) S sz31 ?_ | refine ro (.agg #[_,_,_,_,_]) S sz31 ?_ (ho:=rfl) (hx:=rfl) (hy:=rfl));(clear S F;intro W S;have F:=S.fc)))
 refine bodyPost_ret (results_cell_row rfl _ _ gb331 31 #[.int .i64 a0_0,.int .i64 a0_1,.slice At333 t333.length ct333,.slice At336 t336.length ct336,.slice At339 t339.length ct339] (0,0) _ rfl S.hb Try.underlying31 rfl (by kernel_rfl)) rfl ?_
 exact ⟨_,_,_,(by first | rfl | (simp [e0_,e1_] <;> rfl) | (simp [*,e0_,e1_] <;> rfl)),(by first | exact S.r | exact Kd.R_nil _ _ _ _ _),(by first | exact S.rn | exact Kd.R_nil _ _ _ _ _),(by first | exact S.rn | exact Kd.R_nil _ _ _ _ _),S.below⟩

/-! ### impl_IsCell: function 98 -/
def impl_IsCell.f (a0_0:Int) (a0_1:Int):Option (Bool):=if a0_0 < 0 then (some false) else (if a0_0 > 7 then (some false) else (if a0_1 < 0 then (some false) else (if a0_1 > 1 then (some false) else (if a0_1 = 0 then (some true) else (if a0_0 = 3 then (some true) else (some (a0_0 == 6)))))))
theorem impl_IsCell.calls (a0_0:Int) (a0_1:Int) (r:Bool) (w:World) (h:impl_IsCell.f a0_0 a0_1 = some r) :
    Calls Try.prog 98 #[.agg #[.int .i64 a0_0,.int .i64 a0_1]] w fun e w'=>e = .returned (.bool r)∧Below w.heap.size w w':=by
 have S:=St.init (w:=w) dn
 have F:=S.fc
 have H:=h;clear h;unfold impl_IsCell.f at H
 replace H:=sp_ H;rcases H with ⟨c2,H⟩ | ⟨c2,H⟩
 · skip
   obtain rfl:=Option.some.inj H
   go_enter Try.func98,Try.ntmps98
   go_wp2_with (first | ((with_reducible refine gd 1 rfl (L ?_));refine bo 1 (.agg #[_,_]) S ?_;clear S F;intro gb342 W S;have F:=S.fc))
   go_ret
   exact ⟨(by first | rfl | (simp [e0_,e1_] <;> rfl) | (simp [*,e0_,e1_] <;> rfl)),S.below⟩
 · skip
   replace H:=sp_ H;rcases H with ⟨c5,H⟩ | ⟨c5,H⟩
   · skip
     obtain rfl:=Option.some.inj H
     go_enter Try.func98,Try.ntmps98
     go_wp2_with (first | ((with_reducible refine gd 1 rfl (L ?_));refine bo 1 (.agg #[_,_]) S ?_;clear S F;intro gb342 W S;have F:=S.fc))
     go_ret
     exact ⟨(by first | rfl | (simp [e0_,e1_] <;> rfl) | (simp [*,e0_,e1_] <;> rfl)),S.below⟩
   · skip
     replace H:=sp_ H;rcases H with ⟨c8,H⟩ | ⟨c8,H⟩
     · skip
       obtain rfl:=Option.some.inj H
       go_enter Try.func98,Try.ntmps98
       go_wp2_with (first | ((with_reducible refine gd 1 rfl (L ?_));refine bo 1 (.agg #[_,_]) S ?_;clear S F;intro gb342 W S;have F:=S.fc))
       go_ret
       exact ⟨(by first | rfl | (simp [e0_,e1_] <;> rfl) | (simp [*,e0_,e1_] <;> rfl)),S.below⟩
     · skip
       replace H:=sp_ H;rcases H with ⟨c11,H⟩ | ⟨c11,H⟩
       · skip
         obtain rfl:=Option.some.inj H
         go_enter Try.func98,Try.ntmps98
         go_wp2_with (first | ((with_reducible refine gd 1 rfl (L ?_));refine bo 1 (.agg #[_,_]) S ?_;clear S F;intro gb342 W S;have F:=S.fc))
         go_ret
         exact ⟨(by first | rfl | (simp [e0_,e1_] <;> rfl) | (simp [*,e0_,e1_] <;> rfl)),S.below⟩
       · skip
         replace H:=sp_ H;rcases H with ⟨c14,H⟩ | ⟨c14,H⟩
         · skip
           replace c14:=ceq c14
           obtain rfl:=Option.some.inj H
           go_enter Try.func98,Try.ntmps98
           go_wp2_with (first | ((with_reducible refine gd 1 rfl (L ?_));refine bo 1 (.agg #[_,_]) S ?_;clear S F;intro gb342 W S;have F:=S.fc))
           go_ret
           exact ⟨(by first | rfl | (simp [e0_,e1_] <;> rfl) | (simp [*,e0_,e1_] <;> rfl)),S.below⟩
         · skip
           replace c14:=cne c14
           replace H:=sp_ H;rcases H with ⟨c17,H⟩ | ⟨c17,H⟩
           · skip
             replace c17:=ceq c17
             obtain rfl:=Option.some.inj H
             go_enter Try.func98,Try.ntmps98
             go_wp2_with (first | ((with_reducible refine gd 1 rfl (L ?_));refine bo 1 (.agg #[_,_]) S ?_;clear S F;intro gb342 W S;have F:=S.fc))
             go_ret
             exact ⟨(by first | rfl | (simp [e0_,e1_] <;> rfl) | (simp [*,e0_,e1_] <;> rfl)),S.below⟩
           · skip
             replace c17:=cne c17
             obtain rfl:=Option.some.inj H
             go_enter Try.func98,Try.ntmps98
             go_wp2_with (first | ((with_reducible refine gd 1 rfl (L ?_));refine bo 1 (.agg #[_,_]) S ?_;clear S F;intro gb342 W S;have F:=S.fc))
             go_ret
             exact ⟨(by first | rfl | (simp [e0_,e1_] <;> rfl) | (simp [*,e0_,e1_] <;> rfl)),S.below⟩

/-! ### impl_Cell_125: function 125 -/
def impl_Cell_125.l0:Nat→List (S88)→Int→Int→Int→Int→Option (Int)
 | 0,_,_,_,_,_=>none
 | k + 1,x0,x7,x8,x344000,x344001=>if x8 < x7 then (if 0 ≤ x8 then (if x8 < (x0.length:Int) then (if (x344000 == ((rd_T88 x0 x8).f0) && (x344001 == ((rd_T88 x0 x8).f1))) = true then (some x8) else (impl_Cell_125.l0 k x0 x7 (wrap64 (x8 + 1)) x344000 x344001)) else (none)) else (none)) else (some (-1))
def impl_Cell_125.f (k:Nat) (l0:List (S88)) (a1_0:Int) (a1_1:Int):Option (Int):=impl_Cell_125.l0 k l0 (l0.length:Int) 0 a1_0 a1_1
theorem impl_Cell_125.calls (k:Nat) (A0:Option Addr) (c0:Nat) (l0:List (S88)) (a1_0:Int) (a1_1:Int) (r:Int) (w:World) (hr0:Kd.C k88 w A0 l0.length l0) (hc0:l0.length ≤ c0) (h:impl_Cell_125.f k l0 a1_0 a1_1 = some r) :
  Calls Try.prog 125 #[.slice A0 l0.length c0,.agg #[.int .i64 a1_0,.int .i64 a1_1]] w fun e w'=>e = .returned (.int .i64 r)∧Below w.heap.size w w':=by
 have HR0:=Aside0.mk hr0;have HC0:=Aside0.mk hc0;clear hr0 hc0;have HB:=Aside0.mk (Below.refl w.heap.size w);have H:(impl_Cell_125.l0 k l0 (l0.length:Int) 0 a1_0 a1_1) = some r:=h;clear h;have H':=Aside0.mk H;clear H;go_enter Try.func125,Try.ntmps125;go_wp2_with (first | ((with_reducible refine gate_dst (N:=3) rfl ?_);refine box_event ?hg (N:=3) ?hd (cs:=#[.int .i64 a1_0,.int .i64 a1_1]) (t:=88) ?hr ?_;(case hd=>rfl);(case hg=>rfl);(case hr=>first | (go_simp;done) | (go_simp;rfl));intro gb343 hg w3 hbox hb;refine ev4 (bs HB hb) (hbox) (gle hg HB) (gle hg HB) ?_;clear HB;intro HB BK343 GW343 GE343;clear hb hbox hg))
 repeat (go_quiet (first | ((with_reducible refine gate_dst (N:=3) rfl ?_);refine box_event ?hg (N:=3) ?hd (cs:=#[.int .i64 a1_0,.int .i64 a1_1]) (t:=88) ?hr ?_;(case hd=>rfl);(case hg=>rfl);(case hr=>first | (go_simp;done) | (go_simp;rfl));intro gb343 hg w3 hbox hb;refine ev4 (bs HB hb) (hbox) (gle hg HB) (gle hg HB) ?_;clear HB;intro HB BK343 GW343 GE343;clear hb hbox hg));try go_wp2_with (first | ((with_reducible refine gate_dst (N:=3) rfl ?_);refine box_event ?hg (N:=3) ?hd (cs:=#[.int .i64 a1_0,.int .i64 a1_1]) (t:=88) ?hr ?_;(case hd=>rfl);(case hg=>rfl);(case hr=>first | (go_simp;done) | (go_simp;rfl));intro gb343 hg w3 hbox hb;refine ev4 (bs HB hb) (hbox) (gle hg HB) (gle hg HB) ?_;clear HB;intro HB BK343 GW343 GE343;clear hb hbox hg)))
 go_loopg [8] k (fun kq v8 w'=>∃ (x8_1:Int),v8 = .int .i64 x8_1∧Aside0 (impl_Cell_125.l0 kq l0 (l0.length:Int) x8_1 a1_0 a1_1 = some r)∧Aside0 (kq ≤ k)∧Aside0 (w'.heap[gb343]? = some (.cells #[.int .i64 a1_0,.int .i64 a1_1] 88 (0,0)))∧Aside0 (Below w.heap.size w w'))
 case atStart=>exact ⟨(0),(by first | rfl | (simp;done) | (simp [*];done)),H',⟨Nat.le_refl _⟩,⟨km_ BK343⟩,⟨bm HB⟩⟩
 case round =>
  clear H';(try clear c1);(try clear p2);obtain ⟨x8_1,rfl,HA,HK1,BK343,HB⟩:=hrel;cases gk with
  | zero=>exact absurd HA.out (by simp [impl_Cell_125.l0])
  | succ k1 =>
   have H:=HA.out;clear HA;simp only [impl_Cell_125.l0] at H;by_cases c4:x8_1 < (l0.length:Int)
   ·rw [if_pos c4] at H;have c4b0:decide (x8_1 < (l0.length:Int)) = true:=decide_eq_true c4;clear c4;replace H:=np_ H;obtain ⟨c5,H⟩:=H;have c5b0:decide (0 ≤ x8_1) = true:=decide_eq_true c5;clear c5;replace H:=np_ H;obtain ⟨c6,H⟩:=H;have c6b0:decide (x8_1 < (l0.length:Int)) = true:=decide_eq_true c6;clear c6;by_cases c7:(a1_0 == ((rd_T88 l0 x8_1).f0) && (a1_1 == ((rd_T88 l0 x8_1).f1))) = true
    ·rw [if_pos c7] at H;have c7b0:(a1_0 == ((rd_T88 l0 x8_1).f0) && (a1_1 == ((rd_T88 l0 x8_1).f1))) = true:=c7;(try (have c7b1:decide (a1_0 = ((rd_T88 l0 x8_1).f0) && (a1_1 == ((rd_T88 l0 x8_1).f1))) = true:=by simpa using c7))
     (try (have c7b2:(a1_0 == ((rd_T88 l0 x8_1).f0) && (a1_1 == ((rd_T88 l0 x8_1).f1))) = true:=by simpa using c7))
     clear c7;obtain rfl:=Option.some.inj H;obtain ⟨hcz8_0,hcz8_1,hfz8_0,hfz8_1⟩:=bt2 BK343;have p344:0 ≤ (x8_1:Int):=of_decide_eq_true (by first | (with_reducible assumption) | assumption);have q344:x8_1 < (l0.length:Int):=of_decide_eq_true (by first | (with_reducible assumption) | assumption);obtain ⟨ad344,e344,hx344_0,hx344_1⟩:=at_T88 HR0.out x8_1 p344 q344;cases e344;replace hx344_0:=(HB.out.cell (World.block_lt_of_cell? w _ hx344_0)).trans hx344_0;replace hx344_1:=(HB.out.cell (World.block_lt_of_cell? w _ hx344_1)).trans hx344_1;replace p344:=eq_true p344;replace q344:=eq_true q344;go_wp2;repeat (go_quiet (fail);try go_wp2)
     go_ret;exact ⟨by first | rfl | (simp [e0_,e1_] <;> rfl) | (simp [*,e0_,e1_] <;> rfl),bm HB⟩
    ·rw [if_neg c7] at H;have c7b0:(a1_0 == ((rd_T88 l0 x8_1).f0) && (a1_1 == ((rd_T88 l0 x8_1).f1))) = false:=by simpa using c7
     (try (have c7b1:decide (a1_0 = ((rd_T88 l0 x8_1).f0) && (a1_1 == ((rd_T88 l0 x8_1).f1))) = false:=by simpa using c7))
     (try (have c7b2:(a1_0 == ((rd_T88 l0 x8_1).f0) && (a1_1 == ((rd_T88 l0 x8_1).f1))) = false:=by simpa using c7))
     (try (have c7b3:¬ (a1_0 = ((rd_T88 l0 x8_1).f0) && (a1_1 == ((rd_T88 l0 x8_1).f1))):=by simpa using c7))
     clear c7;have H':=Aside0.mk H;clear H;obtain ⟨hcz9_0,hcz9_1,hfz9_0,hfz9_1⟩:=bt2 BK343;have p344:0 ≤ (x8_1:Int):=of_decide_eq_true (by first | (with_reducible assumption) | assumption);have q344:x8_1 < (l0.length:Int):=of_decide_eq_true (by first | (with_reducible assumption) | assumption);obtain ⟨ad344,e344,hx344_0,hx344_1⟩:=at_T88 HR0.out x8_1 p344 q344;cases e344;replace hx344_0:=(HB.out.cell (World.block_lt_of_cell? w _ hx344_0)).trans hx344_0;replace hx344_1:=(HB.out.cell (World.block_lt_of_cell? w _ hx344_1)).trans hx344_1;replace p344:=eq_true p344;replace q344:=eq_true q344;go_wp2;repeat (go_quiet (fail);try go_wp2)
     go_roundg k1
     case measure=>have:=HK1.out;omega
     case rel=>exact ⟨(wrap64 (x8_1 + 1)),(by first | rfl | (simp;done) | (simp [*];done)),H',⟨by have:=HK1.out;omega⟩,⟨km_ BK343⟩,⟨bm HB⟩⟩
   ·rw [if_neg c4] at H;have c4b0:decide (x8_1 < (l0.length:Int)) = false:=decide_eq_false c4;clear c4;obtain rfl:=Option.some.inj H;go_wp2;repeat (go_quiet (fail);try go_wp2)
    go_ret;exact ⟨by first | rfl | (simp [e0_,e1_] <;> rfl) | (simp [*,e0_,e1_] <;> rfl),bm HB⟩

/-! ### impl_Cell_99: function 99 -/
def impl_Cell_99.f (k:Nat) (l0:List (S88)) (a1_0:Int) (a1_1:Int):Option (Bool):=(impl_Cell_125.f k l0 a1_0 a1_1).bind fun t346=>(some (decide (t346 ≥ 0)))
theorem impl_Cell_99.calls (k:Nat) (A0:Option Addr) (c0:Nat) (l0:List (S88)) (a1_0:Int) (a1_1:Int) (r:Bool) (w:World) (hr0:Kd.C k88 w A0 l0.length l0) (hc0:l0.length ≤ c0) (h:impl_Cell_99.f k l0 a1_0 a1_1 = some r) :
    Calls Try.prog 99 #[.slice A0 l0.length c0,.agg #[.int .i64 a1_0,.int .i64 a1_1]] w fun e w'=>e = .returned (.bool r)∧Below w.heap.size w w':=by
 have S:=St.init (w:=w) (dc k88_heap at88 hr0 hc0 dn)
 clear hr0 hc0
 have F:=S.fc
 have H:=h;clear h;unfold impl_Cell_99.f at H
 replace H:=Option.bind_eq_some_iff.mp H;obtain ⟨t346,A3,H⟩:=H;(try dsimp only at H)
 obtain rfl:=Option.some.inj H
 go_enter Try.func99,Try.ntmps99
 go_wp2_with (first | ((with_reducible refine gd 3 rfl (L ?_));refine bo 3 (.agg #[_,_]) S ?_;clear S F;intro gb345 W S;have F:=S.fc) | ((with_reducible refine gate_callee (f:=125) rfl (L ?_));refine cl (some 7) Try.func125 (impl_Cell_125.calls _ _ _ _ _ _ _ _ S.c S.n A3) (hargs:=by (simp only [ma_,mb_,mc_,F] <;> rfl)) (h:=?_);rintro e W ⟨rfl,hb⟩;refine ⟨_,rfl,?_⟩;replace S:=S.go hb;clear F hb;have F:=S.fc))
 go_ret
 exact ⟨(by first | rfl | (simp [e0_,e1_] <;> rfl) | (simp [*,e0_,e1_] <;> rfl)),S.below⟩

/-! ### impl_IsChallenge: function 63 -/
mutual
def impl_IsChallenge.j0:Nat→Bool→Int→Int→List (S88)→List Int→List Int→Option (Bool)
  | 0,_,_,_,_,_,_=>none
  | k + 1,x59,x348000,x348001,x348002,x348003,x348004=>if x59 = true then (some false) else (impl_IsChallenge.l0 k x348002 (x348002.length:Int) 0 x348000 x348001 x348002 x348003 x348004)
def impl_IsChallenge.l0:Nat→List (S88)→Int→Int→Int→Int→List (S88)→List Int→List Int→Option (Bool)
  | 0,_,_,_,_,_,_,_,_=>none
  | k + 1,x61,x62,x63,x348000,x348001,x348002,x348003,x348004=>if x63 < x62 then (if 0 ≤ x63 then (if x63 < (x61.length:Int) then ((impl_IsCell.f ((rd_T88 x61 x63).f0) ((rd_T88 x61 x63).f1)).bind fun t350=>(if t350 = true then (if ((rd_T88 x61 x63).f0) = 0 then (some false) else (if x63 ≤ (x348002.length:Int) then ((impl_Cell_99.f k (x348002.take (x63:Int).toNat) ((rd_T88 x61 x63).f0) ((rd_T88 x61 x63).f1)).bind fun t355=>(if t355 = true then (some false) else (impl_IsChallenge.l0 k x61 x62 (wrap64 (x63 + 1)) x348000 x348001 x348002 x348003 x348004))) else (none))) else (some false))) else (none)) else (none)) else (impl_IsChallenge.l1 k x348003 (x348003.length:Int) 0 x348000 x348001 x348002 x348003 x348004)
def impl_IsChallenge.l1:Nat→List Int→Int→Int→Int→Int→List (S88)→List Int→List Int→Option (Bool)
  | 0,_,_,_,_,_,_,_,_=>none
  | k + 1,x86,x87,x88,x348000,x348001,x348002,x348003,x348004=>if x88 < x87 then (if 0 ≤ x88 then (if x88 < (x86.length:Int) then (if (rd x86 x88) < 0 then (some false) else (if (rd x86 x88) ≥ x348001 then (some false) else (if x88 < (x348004.length:Int) then (if (rd x348004 x88) < 0 then (some false) else (if (rd x348004 x88) > (wrap64 (x348001 + 1)) then (some false) else (impl_IsChallenge.l1 k x86 x87 (wrap64 (x88 + 1)) x348000 x348001 x348002 x348003 x348004))) else (none)))) else (none)) else (none)) else (impl_IsChallenge.l2 k 1 0 x348000 x348001 x348002 x348003 x348004)
def impl_IsChallenge.l2:Nat→Int→Int→Int→Int→List (S88)→List Int→List Int→Option (Bool)
  | 0,_,_,_,_,_,_,_=>none
  | k + 1,x7,x8,x348000,x348001,x348002,x348003,x348004=>if x8 < (wrap64 (x348000 * x348001)) then (if (wrap64 (x7 * (wrap64 ((x348002.length:Int) + 1)))) > 7000 then (some false) else (impl_IsChallenge.l2 k (wrap64 (x7 * (wrap64 ((x348002.length:Int) + 1)))) (wrap64 (x8 + 1)) x348000 x348001 x348002 x348003 x348004)) else (some true)
end
def impl_IsChallenge.f (k:Nat) (a0_0:Int) (a0_1:Int) (l0_2:List (S88)) (l0_3:List Int) (l0_4:List Int):Option (Bool):=if a0_0 < 1 then (impl_IsChallenge.j0 k true a0_0 a0_1 l0_2 l0_3 l0_4) else (if a0_0 > 4 then (impl_IsChallenge.j0 k true a0_0 a0_1 l0_2 l0_3 l0_4) else (if a0_1 < 1 then (impl_IsChallenge.j0 k true a0_0 a0_1 l0_2 l0_3 l0_4) else (if a0_1 > 4 then (impl_IsChallenge.j0 k true a0_0 a0_1 l0_2 l0_3 l0_4) else (if (l0_2.length:Int) < 1 then (impl_IsChallenge.j0 k true a0_0 a0_1 l0_2 l0_3 l0_4) else (if (l0_2.length:Int) > 6 then (impl_IsChallenge.j0 k true a0_0 a0_1 l0_2 l0_3 l0_4) else (if (l0_3.length:Int) < 1 then (impl_IsChallenge.j0 k true a0_0 a0_1 l0_2 l0_3 l0_4) else (if (l0_3.length:Int) > 8 then (impl_IsChallenge.j0 k true a0_0 a0_1 l0_2 l0_3 l0_4) else (impl_IsChallenge.j0 k ((l0_4.length:Int) != (l0_3.length:Int)) a0_0 a0_1 l0_2 l0_3 l0_4))))))))
theorem impl_IsChallenge.calls (k:Nat) (a0_0:Int) (a0_1:Int) (A0_2:Option Addr) (c0_2:Nat) (l0_2:List (S88)) (A0_3:Option Addr) (c0_3:Nat) (l0_3:List Int) (A0_4:Option Addr) (c0_4:Nat) (l0_4:List Int) (r:Bool) (w:World) (hr0_2:Kd.C k88 w A0_2 l0_2.length l0_2) (hc0_2:l0_2.length ≤ c0_2) (hr0_3:Kd.C (Kd.int .i64) w A0_3 l0_3.length l0_3) (hc0_3:l0_3.length ≤ c0_3) (hr0_4:Kd.C (Kd.int .i64) w A0_4 l0_4.length l0_4) (hc0_4:l0_4.length ≤ c0_4) (h:impl_IsChallenge.f k a0_0 a0_1 l0_2 l0_3 l0_4 = some r) :
    Calls Try.prog 63 #[.agg #[.int .i64 a0_0,.int .i64 a0_1,.slice A0_2 l0_2.length c0_2,.slice A0_3 l0_3.length c0_3,.slice A0_4 l0_4.length c0_4]] w fun e w'=>e = .returned (.bool r)∧Below w.heap.size w w':=by
 have S:=St.init (w:=w) (dc k88_heap at88 hr0_2 hc0_2 (dc (Kd.heap_int .i64) (atI .i64) hr0_3 hc0_3 (dc (Kd.heap_int .i64) (atI .i64) hr0_4 hc0_4 dn)))
 clear hr0_2 hc0_2 hr0_3 hc0_3 hr0_4 hc0_4
 have F:=S.fc
 have H:=h;clear h;unfold impl_IsChallenge.f at H
 go_enter Try.func63,Try.ntmps63
 go_upto_region 1 with (first | ((with_reducible refine gd 1 rfl (L ?_));refine bo 1 (.agg #[_,_,_,_,_]) S ?_;clear S F;intro gb347 W S;have F:=S.fc) | ((with_reducible refine gs (t:=88) rfl (L ?_));(first | refine sb (.agg #[_,_]) S sz88 ?_ | refine ro (.agg #[_,_]) S sz88 ?_ (ho:=rfl) (hx:=rfl) (hy:=rfl));(clear S F;intro W S;have F:=S.fc)))
 go_cut [59] (fun v59 wc=>∃ (kq:Nat) (x59_1:Bool),v59 = .bool x59_1∧impl_IsChallenge.j0 kq x59_1 a0_0 a0_1 l0_2 l0_3 l0_4 = some r∧kq ≤ k∧St w w (fun _=>False) [bor at88 A0_2 c0_2 l0_2,bor (atI .i64) A0_3 c0_3 l0_3,bor (atI .i64) A0_4 c0_4 l0_4] wc  [box gb347 31 [.int .i64 a0_0,.int .i64 a0_1,.slice A0_2 l0_2.length c0_2,.slice A0_3 l0_3.length c0_3,.slice A0_4 l0_4.length c0_4]])
 case first =>
  replace H:=sp_ H;rcases H with ⟨c4,H⟩ | ⟨c4,H⟩
  · skip
    go_wp2_with (first | ((with_reducible refine gs (t:=88) rfl (L ?_));(first | refine sb (.agg #[_,_]) S sz88 ?_ | refine ro (.agg #[_,_]) S sz88 ?_ (ho:=rfl) (hx:=rfl) (hy:=rfl));(clear S F;intro W S;have F:=S.fc)))
    go_meet
    case rel=>exact ⟨_,true,(by first | rfl | (simp;done) | (simp [*];done) | (rw [w6_ (by omega) (by omega)])),H,(by first | omega | exact Nat.le_refl _),S⟩
  · skip
    replace H:=sp_ H;rcases H with ⟨c6,H⟩ | ⟨c6,H⟩
    · skip
      go_wp2_with (first | ((with_reducible refine gs (t:=88) rfl (L ?_));(first | refine sb (.agg #[_,_]) S sz88 ?_ | refine ro (.agg #[_,_]) S sz88 ?_ (ho:=rfl) (hx:=rfl) (hy:=rfl));(clear S F;intro W S;have F:=S.fc)))
      go_meet
      case rel=>exact ⟨_,true,(by first | rfl | (simp;done) | (simp [*];done) | (rw [w6_ (by omega) (by omega)])),H,(by first | omega | exact Nat.le_refl _),S⟩
    · skip
      replace H:=sp_ H;rcases H with ⟨c8,H⟩ | ⟨c8,H⟩
      · skip
        go_wp2_with (first | ((with_reducible refine gs (t:=88) rfl (L ?_));(first | refine sb (.agg #[_,_]) S sz88 ?_ | refine ro (.agg #[_,_]) S sz88 ?_ (ho:=rfl) (hx:=rfl) (hy:=rfl));(clear S F;intro W S;have F:=S.fc)))
        go_meet
        case rel=>exact ⟨_,true,(by first | rfl | (simp;done) | (simp [*];done) | (rw [w6_ (by omega) (by omega)])),H,(by first | omega | exact Nat.le_refl _),S⟩
      · skip
        replace H:=sp_ H;rcases H with ⟨c10,H⟩ | ⟨c10,H⟩
        · skip
          go_wp2_with (first | ((with_reducible refine gs (t:=88) rfl (L ?_));(first | refine sb (.agg #[_,_]) S sz88 ?_ | refine ro (.agg #[_,_]) S sz88 ?_ (ho:=rfl) (hx:=rfl) (hy:=rfl));(clear S F;intro W S;have F:=S.fc)))
          go_meet
          case rel=>exact ⟨_,true,(by first | rfl | (simp;done) | (simp [*];done) | (rw [w6_ (by omega) (by omega)])),H,(by first | omega | exact Nat.le_refl _),S⟩
        · skip
          replace H:=sp_ H;rcases H with ⟨c12,H⟩ | ⟨c12,H⟩
          · skip
            go_wp2_with (first | ((with_reducible refine gs (t:=88) rfl (L ?_));(first | refine sb (.agg #[_,_]) S sz88 ?_ | refine ro (.agg #[_,_]) S sz88 ?_ (ho:=rfl) (hx:=rfl) (hy:=rfl));(clear S F;intro W S;have F:=S.fc)))
            go_meet
            case rel=>exact ⟨_,true,(by first | rfl | (simp;done) | (simp [*];done) | (rw [w6_ (by omega) (by omega)])),H,(by first | omega | exact Nat.le_refl _),S⟩
          · skip
            replace H:=sp_ H;rcases H with ⟨c14,H⟩ | ⟨c14,H⟩
            · skip
              go_wp2_with (first | ((with_reducible refine gs (t:=88) rfl (L ?_));(first | refine sb (.agg #[_,_]) S sz88 ?_ | refine ro (.agg #[_,_]) S sz88 ?_ (ho:=rfl) (hx:=rfl) (hy:=rfl));(clear S F;intro W S;have F:=S.fc)))
              go_meet
              case rel=>exact ⟨_,true,(by first | rfl | (simp;done) | (simp [*];done) | (rw [w6_ (by omega) (by omega)])),H,(by first | omega | exact Nat.le_refl _),S⟩
            · skip
              replace H:=sp_ H;rcases H with ⟨c16,H⟩ | ⟨c16,H⟩
              · skip
                go_wp2_with (first | ((with_reducible refine gs (t:=88) rfl (L ?_));(first | refine sb (.agg #[_,_]) S sz88 ?_ | refine ro (.agg #[_,_]) S sz88 ?_ (ho:=rfl) (hx:=rfl) (hy:=rfl));(clear S F;intro W S;have F:=S.fc)))
                go_meet
                case rel=>exact ⟨_,true,(by first | rfl | (simp;done) | (simp [*];done) | (rw [w6_ (by omega) (by omega)])),H,(by first | omega | exact Nat.le_refl _),S⟩
              · skip
                replace H:=sp_ H;rcases H with ⟨c18,H⟩ | ⟨c18,H⟩
                · skip
                  go_wp2_with (first | ((with_reducible refine gs (t:=88) rfl (L ?_));(first | refine sb (.agg #[_,_]) S sz88 ?_ | refine ro (.agg #[_,_]) S sz88 ?_ (ho:=rfl) (hx:=rfl) (hy:=rfl));(clear S F;intro W S;have F:=S.fc)))
                  go_meet
                  case rel=>exact ⟨_,true,(by first | rfl | (simp;done) | (simp [*];done) | (rw [w6_ (by omega) (by omega)])),H,(by first | omega | exact Nat.le_refl _),S⟩
                · skip
                  go_wp2_with (first | ((with_reducible refine gs (t:=88) rfl (L ?_));(first | refine sb (.agg #[_,_]) S sz88 ?_ | refine ro (.agg #[_,_]) S sz88 ?_ (ho:=rfl) (hx:=rfl) (hy:=rfl));(clear S F;intro W S;have F:=S.fc)))
                  go_meet
                  case rel=>exact ⟨_,((l0_4.length:Int) != (l0_3.length:Int)),(by first | rfl | (simp;done) | (simp [*];done) | (rw [w6_ (by omega) (by omega)])),H,(by first | omega | exact Nat.le_refl _),S⟩
 case rest =>
  clear H S F
  obtain ⟨kq,x59_1,rfl,HA,HJ1,S⟩:=hcut
  have F:=S.fc
  cases kq with
  | zero=>exact absurd HA (by simp [impl_IsChallenge.j0])
  | succ kj1 =>
   have H:=HA;clear HA;simp only [impl_IsChallenge.j0,F] at H
   replace H:=sp_ H;rcases H with ⟨c21,H⟩ | ⟨c21,H⟩
   · skip
     subst c21
     obtain rfl:=Option.some.inj H
     go_wp2_with (first | ((with_reducible refine gs (t:=88) rfl (L ?_));(first | refine sb (.agg #[_,_]) S sz88 ?_ | refine ro (.agg #[_,_]) S sz88 ?_ (ho:=rfl) (hx:=rfl) (hy:=rfl));(clear S F;intro W S;have F:=S.fc)))
     go_ret
     exact ⟨(by first | rfl | (simp [e0_,e1_] <;> rfl) | (simp [*,e0_,e1_] <;> rfl)),S.below⟩
   · skip
     replace c21:=cbf c21;subst c21
     go_wp2_with (first | ((with_reducible refine gs (t:=88) rfl (L ?_));(first | refine sb (.agg #[_,_]) S sz88 ?_ | refine ro (.agg #[_,_]) S sz88 ?_ (ho:=rfl) (hx:=rfl) (hy:=rfl));(clear S F;intro W S;have F:=S.fc)))
     go_loopg [63] kj1 (fun kq v63 w'=>∃ (x63_2:Int),v63 = .int .i64 x63_2∧impl_IsChallenge.l0 kq l0_2 (l0_2.length:Int) x63_2 a0_0 a0_1 l0_2 l0_3 l0_4 = some r∧kq ≤ kj1∧St w w (fun _=>False) [bor at88 A0_2 c0_2 l0_2,bor (atI .i64) A0_3 c0_3 l0_3,bor (atI .i64) A0_4 c0_4 l0_4] w'  [box gb347 31 [.int .i64 a0_0,.int .i64 a0_1,.slice A0_2 l0_2.length c0_2,.slice A0_3 l0_3.length c0_3,.slice A0_4 l0_4.length c0_4]])
     case atStart=>exact ⟨0,(by first | rfl | (simp;done) | (simp [*];done) | (rw [w6_ (by omega) (by omega)])),H,Nat.le_refl _,S⟩
     case round =>
      clear H S F
      obtain ⟨x63_2,rfl,HA,HK2,S⟩:=hrel
      have F:=S.fc
      cases gk with
      | zero=>exact absurd HA (by simp [impl_IsChallenge.l0])
      | succ k2 =>
       have H:=HA;clear HA;simp only [impl_IsChallenge.l0,F] at H
       replace H:=sp_ H;rcases H with ⟨c23,H⟩ | ⟨c23,H⟩
       · skip
         replace H:=np_ H;obtain ⟨c24,H⟩:=H
         replace H:=np_ H;obtain ⟨c25,H⟩:=H
         replace H:=Option.bind_eq_some_iff.mp H;obtain ⟨t350,A26,H⟩:=H;(try dsimp only at H)
         replace H:=sp_ H;rcases H with ⟨c27,H⟩ | ⟨c27,H⟩
         · skip
           subst c27
           replace H:=sp_ H;rcases H with ⟨c28,H⟩ | ⟨c28,H⟩
           · skip
             replace c28:=ceq c28
             obtain rfl:=Option.some.inj H
             go_wp2_with (first | ((with_reducible refine gd 4 rfl (L ?_));refine al 4 S zi88 ?_;clear S F;intro gb349 W S;have F:=S.fc) | ((with_reducible refine gs (t:=88) rfl (L ?_));(first | refine sb (.agg #[_,_]) S sz88 ?_ | refine ro (.agg #[_,_]) S sz88 ?_ (ho:=rfl) (hx:=rfl) (hy:=rfl));(clear S F;intro W S;have F:=S.fc)))
             refine rq S [(1,0),(2,1),(0,2),(0,3),(0,4),(2,5),(0,6),(0,7),(0,8),(0,9),(0,10),(0,11),(0,12),(0,13),(0,14),(0,15)] [] (h:=?_);clear S F;intro W S;have S0:=S;have F:=S.fc
             repeat (first | (refine q0 (h:=?_)) | (refine q1 S0 (h:=?_)) | (refine q0n (h:=?_)) | (refine q1n S0 (h:=?_)) | (refine q2 S0 (h:=?_)))
             (try rw [Ny351.out] at A26);refine lk2 (by rfl) (by exact (Eq.refl true)) ?_;refine cl (some 69) Try.func98 (impl_IsCell.calls _ _ _ _ A26) (hargs:=by first | (simp only [ma_,mb_,mc_,F] <;> rfl) | (simp only [ma_,mb_,mc_,F,List.length_take,List.length_drop];rw [Nat.min_eq_left] <;> first | rfl | omega)) (h:=?_);rintro e W ⟨rfl,hb⟩;refine ⟨_,rfl,?_⟩;replace S:=S.go hb;clear F hb;have F:=S.fc
             clear S0;have S0:=S;refine ⟨S0,?_⟩
             repeat (first | (refine q0 (h:=?_)) | (refine q1 S0 (h:=?_)) | (refine q0n (h:=?_)) | (refine q1n S0 (h:=?_)) | (refine q2 S0 (h:=?_)))
             refine oz ?_
             try clear S0
             go_wp2_with (first | ((with_reducible refine gs (t:=88) rfl (L ?_));(first | refine sb (.agg #[_,_]) S sz88 ?_ | refine ro (.agg #[_,_]) S sz88 ?_ (ho:=rfl) (hx:=rfl) (hy:=rfl));(clear S F;intro W S;have F:=S.fc)))
             go_ret
             exact ⟨(by first | rfl | (simp [e0_,e1_] <;> rfl) | (simp [*,e0_,e1_] <;> rfl)),S.below⟩
           · skip
             replace c28:=cne c28
             replace H:=np_ H;obtain ⟨c36,H⟩:=H
             (first | (with_reducible replace H:=ob_ H;obtain ⟨y351,hy351,H⟩:=H;(try dsimp only at H)) | (obtain ⟨y351,hy351⟩:∃ y_:List (S88),y_ = (l0_2.take (x63_2:Int).toNat):=⟨_,rfl⟩;(try rw [← hy351] at H);(try simp only [Option.bind_some] at H)));have Ny351:=Aside0.mk hy351;clear hy351
             replace H:=Option.bind_eq_some_iff.mp H;obtain ⟨t355,A37,H⟩:=H;(try dsimp only at H)
             replace H:=sp_ H;rcases H with ⟨c38,H⟩ | ⟨c38,H⟩
             · skip
               subst c38
               obtain rfl:=Option.some.inj H
               go_wp2_with (first | ((with_reducible refine gd 4 rfl (L ?_));refine al 4 S zi88 ?_;clear S F;intro gb349 W S;have F:=S.fc) | ((with_reducible refine gs (t:=88) rfl (L ?_));(first | refine sb (.agg #[_,_]) S sz88 ?_ | refine ro (.agg #[_,_]) S sz88 ?_ (ho:=rfl) (hx:=rfl) (hy:=rfl));clear S F;intro W S;(try rw [← Ny351.out] at S);have F:=S.fc))
               refine rq S [(1,0),(2,1),(0,2),(0,3),(0,4),(2,5),(0,6),(0,7),(0,8),(0,9),(0,11),(1,10),(0,12),(2,13),(2,14),(0,15)] [] (h:=?_);clear S F;intro W S;have S0:=S;have F:=S.fc
               repeat (first | (refine q0 (h:=?_)) | (refine q1 S0 (h:=?_)) | (refine q0n (h:=?_)) | (refine q1n S0 (h:=?_)) | (refine q2 S0 (h:=?_)))
               (try rw [Ny351.out] at A26);refine lk2 (by rfl) (by exact (Eq.refl true)) ?_;refine cl (some 69) Try.func98 (impl_IsCell.calls _ _ _ _ A26) (hargs:=by first | (simp only [ma_,mb_,mc_,F] <;> rfl) | (simp only [ma_,mb_,mc_,F,List.length_take,List.length_drop];rw [Nat.min_eq_left] <;> first | rfl | omega)) (h:=?_);rintro e W ⟨rfl,hb⟩;refine ⟨_,rfl,?_⟩;replace S:=S.go hb;clear F hb;have F:=S.fc
               clear S0;have S0:=S;refine ⟨S0,?_⟩
               repeat (first | (refine q0 (h:=?_)) | (refine q1 S0 (h:=?_)) | (refine q0n (h:=?_)) | (refine q1n S0 (h:=?_)) | (refine q2 S0 (h:=?_)))
               (try rw [Ny351.out] at A37);refine lk2 (by rfl) (by exact (Eq.refl true)) ?_;refine cl (some 82) Try.func99 (impl_Cell_99.calls _ _ _ _ _ _ _ _ S.c S.n A37) (hargs:=by first | (simp only [ma_,mb_,mc_,F] <;> rfl) | (simp only [ma_,mb_,mc_,F,List.length_take,List.length_drop];rw [Nat.min_eq_left] <;> first | rfl | omega)) (h:=?_);rintro e W ⟨rfl,hb⟩;refine ⟨_,rfl,?_⟩;replace S:=S.go hb;clear F hb;have F:=S.fc
               clear S0;have S0:=S;refine ⟨S0,?_⟩
               repeat (first | (refine q0 (h:=?_)) | (refine q1 S0 (h:=?_)) | (refine q0n (h:=?_)) | (refine q1n S0 (h:=?_)) | (refine q2 S0 (h:=?_)))
               refine oz ?_
               try clear S0
               go_wp2_with (first | ((with_reducible refine gs (t:=88) rfl (L ?_));(first | refine sb (.agg #[_,_]) S sz88 ?_ | refine ro (.agg #[_,_]) S sz88 ?_ (ho:=rfl) (hx:=rfl) (hy:=rfl));clear S F;intro W S;(try rw [← Ny351.out] at S);have F:=S.fc))
               go_ret
               exact ⟨(by first | rfl | (simp [e0_,e1_] <;> rfl) | (simp [*,e0_,e1_] <;> rfl)),S.below⟩
             · skip
               replace c38:=cbf c38;subst c38
               go_wp2_with (first | ((with_reducible refine gd 4 rfl (L ?_));refine al 4 S zi88 ?_;clear S F;intro gb349 W S;have F:=S.fc) | ((with_reducible refine gs (t:=88) rfl (L ?_));(first | refine sb (.agg #[_,_]) S sz88 ?_ | refine ro (.agg #[_,_]) S sz88 ?_ (ho:=rfl) (hx:=rfl) (hy:=rfl));clear S F;intro W S;(try rw [← Ny351.out] at S);have F:=S.fc))
               refine rq S [(1,0),(2,1),(0,2),(0,3),(0,4),(2,5),(0,6),(0,7),(0,8),(0,9),(0,11),(1,10),(0,12),(2,13),(2,14),(0,15)] [] (h:=?_);clear S F;intro W S;have S0:=S;have F:=S.fc
               repeat (first | (refine q0 (h:=?_)) | (refine q1 S0 (h:=?_)) | (refine q0n (h:=?_)) | (refine q1n S0 (h:=?_)) | (refine q2 S0 (h:=?_)))
               (try rw [Ny351.out] at A26);refine lk2 (by rfl) (by exact (Eq.refl true)) ?_;refine cl (some 69) Try.func98 (impl_IsCell.calls _ _ _ _ A26) (hargs:=by first | (simp only [ma_,mb_,mc_,F] <;> rfl) | (simp only [ma_,mb_,mc_,F,List.length_take,List.length_drop];rw [Nat.min_eq_left] <;> first | rfl | omega)) (h:=?_);rintro e W ⟨rfl,hb⟩;refine ⟨_,rfl,?_⟩;replace S:=S.go hb;clear F hb;have F:=S.fc
               clear S0;have S0:=S;refine ⟨S0,?_⟩
               repeat (first | (refine q0 (h:=?_)) | (refine q1 S0 (h:=?_)) | (refine q0n (h:=?_)) | (refine q1n S0 (h:=?_)) | (refine q2 S0 (h:=?_)))
               (try rw [Ny351.out] at A37);refine lk2 (by rfl) (by exact (Eq.refl true)) ?_;refine cl (some 82) Try.func99 (impl_Cell_99.calls _ _ _ _ _ _ _ _ S.c S.n A37) (hargs:=by first | (simp only [ma_,mb_,mc_,F] <;> rfl) | (simp only [ma_,mb_,mc_,F,List.length_take,List.length_drop];rw [Nat.min_eq_left] <;> first | rfl | omega)) (h:=?_);rintro e W ⟨rfl,hb⟩;refine ⟨_,rfl,?_⟩;replace S:=S.go hb;clear F hb;have F:=S.fc
               clear S0;have S0:=S;refine ⟨S0,?_⟩
               repeat (first | (refine q0 (h:=?_)) | (refine q1 S0 (h:=?_)) | (refine q0n (h:=?_)) | (refine q1n S0 (h:=?_)) | (refine q2 S0 (h:=?_)))
               refine oz ?_
               try clear S0
               go_wp2_with (first | ((with_reducible refine gs (t:=88) rfl (L ?_));(first | refine sb (.agg #[_,_]) S sz88 ?_ | refine ro (.agg #[_,_]) S sz88 ?_ (ho:=rfl) (hx:=rfl) (hy:=rfl));clear S F;intro W S;(try rw [← Ny351.out] at S);have F:=S.fc))
               go_roundg k2
               case measure=>omega
               case rel=>exact ⟨(wrap64 (x63_2 + 1)),(by first | rfl | (simp;done) | (simp [*];done) | (rw [w6_ (by omega) (by omega)])),H,(by first | omega | exact Nat.le_refl _),S.tl⟩
         · skip
           replace c27:=cbf c27;subst c27
           obtain rfl:=Option.some.inj H
           go_wp2_with (first | ((with_reducible refine gd 4 rfl (L ?_));refine al 4 S zi88 ?_;clear S F;intro gb349 W S;have F:=S.fc) | ((with_reducible refine gs (t:=88) rfl (L ?_));(first | refine sb (.agg #[_,_]) S sz88 ?_ | refine ro (.agg #[_,_]) S sz88 ?_ (ho:=rfl) (hx:=rfl) (hy:=rfl));(clear S F;intro W S;have F:=S.fc)))
           refine rq S [(1,0),(2,1),(0,2),(0,3),(0,4),(0,5),(0,6),(0,7),(0,8),(0,9),(0,10),(0,11),(0,12),(0,13),(0,14),(0,15)] [] (h:=?_);clear S F;intro W S;have S0:=S;have F:=S.fc
           repeat (first | (refine q0 (h:=?_)) | (refine q1 S0 (h:=?_)) | (refine q0n (h:=?_)) | (refine q1n S0 (h:=?_)))
           (try rw [Ny351.out] at A26);refine lk2 (by rfl) (by exact (Eq.refl true)) ?_;refine cl (some 69) Try.func98 (impl_IsCell.calls _ _ _ _ A26) (hargs:=by first | (simp only [ma_,mb_,mc_,F] <;> rfl) | (simp only [ma_,mb_,mc_,F,List.length_take,List.length_drop];rw [Nat.min_eq_left] <;> first | rfl | omega)) (h:=?_);rintro e W ⟨rfl,hb⟩;refine ⟨_,rfl,?_⟩;replace S:=S.go hb;clear F hb;have F:=S.fc
           clear S0;have S0:=S;refine ⟨S0,?_⟩
           repeat (first | (refine q0 (h:=?_)) | (refine q1 S0 (h:=?_)) | (refine q0n (h:=?_)) | (refine q1n S0 (h:=?_)))
           refine oz ?_
           try clear S0
           go_wp2_with (first | ((with_reducible refine gs (t:=88) rfl (L ?_));(first | refine sb (.agg #[_,_]) S sz88 ?_ | refine ro (.agg #[_,_]) S sz88 ?_ (ho:=rfl) (hx:=rfl) (hy:=rfl));(clear S F;intro W S;have F:=S.fc)))
           go_ret
           exact ⟨(by first | rfl | (simp [e0_,e1_] <;> rfl) | (simp [*,e0_,e1_] <;> rfl)),S.below⟩
       · skip
         go_wp2_with (first | ((with_reducible refine gs (t:=88) rfl (L ?_));(first | refine sb (.agg #[_,_]) S sz88 ?_ | refine ro (.agg #[_,_]) S sz88 ?_ (ho:=rfl) (hx:=rfl) (hy:=rfl));(clear S F;intro W S;have F:=S.fc)))
         go_loopg [88] k2 (fun kq v88 w'=>∃ (x88_3:Int),v88 = .int .i64 x88_3∧impl_IsChallenge.l1 kq l0_3 (l0_3.length:Int) x88_3 a0_0 a0_1 l0_2 l0_3 l0_4 = some r∧kq ≤ k2∧St w w (fun _=>False) [bor at88 A0_2 c0_2 l0_2,bor (atI .i64) A0_3 c0_3 l0_3,bor (atI .i64) A0_4 c0_4 l0_4] w'  [box gb347 31 [.int .i64 a0_0,.int .i64 a0_1,.slice A0_2 l0_2.length c0_2,.slice A0_3 l0_3.length c0_3,.slice A0_4 l0_4.length c0_4]])
         case atStart=>exact ⟨0,(by first | rfl | (simp;done) | (simp [*];done) | (rw [w6_ (by omega) (by omega)])),H,Nat.le_refl _,S⟩
         case round =>
          clear H S F
          obtain ⟨x88_3,rfl,HA,HK3,S⟩:=hrel
          have F:=S.fc
          cases gk with
          | zero=>exact absurd HA (by simp [impl_IsChallenge.l1])
          | succ k3 =>
           have H:=HA;clear HA;simp only [impl_IsChallenge.l1,F] at H
           replace H:=sp_ H;rcases H with ⟨c62,H⟩ | ⟨c62,H⟩
           · skip
             replace H:=np_ H;obtain ⟨c63,H⟩:=H
             replace H:=np_ H;obtain ⟨c64,H⟩:=H
             replace H:=sp_ H;rcases H with ⟨c65,H⟩ | ⟨c65,H⟩
             · skip
               obtain rfl:=Option.some.inj H
               go_wp2_with (first | ((with_reducible refine gs (t:=88) rfl (L ?_));(first | refine sb (.agg #[_,_]) S sz88 ?_ | refine ro (.agg #[_,_]) S sz88 ?_ (ho:=rfl) (hx:=rfl) (hy:=rfl));(clear S F;intro W S;have F:=S.fc)))
               (try have q65_:=Int.not_lt.mpr c65);(try have r65_:=Int.not_le.mpr c65);(try have q62_:=Int.not_lt.mpr c62);(try have r62_:=Int.not_le.mpr c62)
               refine rq S [(0,0),(0,1),(0,2),(0,3),(0,4),(0,5),(0,6),(0,7),(0,8),(0,9),(0,10),(0,11),(0,12),(0,13),(0,14),(0,15),(0,16),(0,17),(0,18),(0,19),(0,20),(0,21),(0,22),(0,23),(0,24),(0,25),(0,26)] [] (h:=?_);clear S F;intro W S;have S0:=S;have F:=S.fc
               repeat (first | (refine q0 (h:=?_)) | (refine q1 S0 (h:=?_)) | (refine q0n (h:=?_)) | (refine q1n S0 (h:=?_)))
               refine oz ?_
               try clear S0
               go_wp2_with (first | ((with_reducible refine gs (t:=88) rfl (L ?_));(first | refine sb (.agg #[_,_]) S sz88 ?_ | refine ro (.agg #[_,_]) S sz88 ?_ (ho:=rfl) (hx:=rfl) (hy:=rfl));(clear S F;intro W S;have F:=S.fc)))
               go_ret
               exact ⟨(by first | rfl | (simp [e0_,e1_] <;> rfl) | (simp [*,e0_,e1_] <;> rfl)),S.below⟩
             · skip
               replace H:=sp_ H;rcases H with ⟨c67,H⟩ | ⟨c67,H⟩
               · skip
                 obtain rfl:=Option.some.inj H
                 go_wp2_with (first | ((with_reducible refine gs (t:=88) rfl (L ?_));(first | refine sb (.agg #[_,_]) S sz88 ?_ | refine ro (.agg #[_,_]) S sz88 ?_ (ho:=rfl) (hx:=rfl) (hy:=rfl));(clear S F;intro W S;have F:=S.fc)))
                 (try have q67_:=Int.not_lt.mpr c67);(try have r67_:=Int.not_le.mpr c67);(try have q65_:=Int.not_lt.mpr c65);(try have r65_:=Int.not_le.mpr c65);(try have q62_:=Int.not_lt.mpr c62);(try have r62_:=Int.not_le.mpr c62)
                 refine rq S [(0,0),(0,1),(0,2),(0,3),(0,4),(1,5),(0,6),(0,7),(0,8),(0,9),(0,10),(0,11),(0,12),(0,13),(0,14),(0,15),(0,16),(0,17),(0,18),(0,19),(0,20),(0,21),(0,22),(0,23),(0,24),(0,25),(0,26)] [] (h:=?_);clear S F;intro W S;have S0:=S;have F:=S.fc
                 repeat (first | (refine q0 (h:=?_)) | (refine q1 S0 (h:=?_)) | (refine q0n (h:=?_)) | (refine q1n S0 (h:=?_)))
                 refine oz ?_
                 try clear S0
                 go_wp2_with (first | ((with_reducible refine gs (t:=88) rfl (L ?_));(first | refine sb (.agg #[_,_]) S sz88 ?_ | refine ro (.agg #[_,_]) S sz88 ?_ (ho:=rfl) (hx:=rfl) (hy:=rfl));(clear S F;intro W S;have F:=S.fc)))
                 go_ret
                 exact ⟨(by first | rfl | (simp [e0_,e1_] <;> rfl) | (simp [*,e0_,e1_] <;> rfl)),S.below⟩
               · skip
                 replace H:=np_ H;obtain ⟨c69,H⟩:=H
                 replace H:=sp_ H;rcases H with ⟨c70,H⟩ | ⟨c70,H⟩
                 · skip
                   obtain rfl:=Option.some.inj H
                   go_wp2_with (first | ((with_reducible refine gs (t:=88) rfl (L ?_));(first | refine sb (.agg #[_,_]) S sz88 ?_ | refine ro (.agg #[_,_]) S sz88 ?_ (ho:=rfl) (hx:=rfl) (hy:=rfl));(clear S F;intro W S;have F:=S.fc)))
                   (try have q70_:=Int.not_lt.mpr c70);(try have r70_:=Int.not_le.mpr c70);(try have q67_:=Int.not_lt.mpr c67);(try have r67_:=Int.not_le.mpr c67);(try have q65_:=Int.not_lt.mpr c65);(try have r65_:=Int.not_le.mpr c65);(try have q62_:=Int.not_lt.mpr c62);(try have r62_:=Int.not_le.mpr c62)
                   refine rq S [(0,0),(0,1),(0,2),(0,3),(0,4),(1,5),(0,6),(0,7),(0,8),(0,9),(0,11),(1,10),(0,12),(1,13),(0,14),(0,15),(0,16),(0,17),(0,18),(0,19),(0,20),(0,21),(0,22),(0,23),(0,24),(0,25),(0,26)] [] (h:=?_);clear S F;intro W S;have S0:=S;have F:=S.fc
                   repeat (first | (refine q0 (h:=?_)) | (refine q1 S0 (h:=?_)) | (refine q0n (h:=?_)) | (refine q1n S0 (h:=?_)))
                   refine oz ?_
                   try clear S0
                   go_wp2_with (first | ((with_reducible refine gs (t:=88) rfl (L ?_));(first | refine sb (.agg #[_,_]) S sz88 ?_ | refine ro (.agg #[_,_]) S sz88 ?_ (ho:=rfl) (hx:=rfl) (hy:=rfl));(clear S F;intro W S;have F:=S.fc)))
                   go_ret
                   exact ⟨(by first | rfl | (simp [e0_,e1_] <;> rfl) | (simp [*,e0_,e1_] <;> rfl)),S.below⟩
                 · skip
                   replace H:=sp_ H;rcases H with ⟨c72,H⟩ | ⟨c72,H⟩
                   · skip
                     obtain rfl:=Option.some.inj H
                     go_wp2_with (first | ((with_reducible refine gs (t:=88) rfl (L ?_));(first | refine sb (.agg #[_,_]) S sz88 ?_ | refine ro (.agg #[_,_]) S sz88 ?_ (ho:=rfl) (hx:=rfl) (hy:=rfl));(clear S F;intro W S;have F:=S.fc)))
                     (try have q72_:=Int.not_lt.mpr c72);(try have r72_:=Int.not_le.mpr c72);(try have q70_:=Int.not_lt.mpr c70);(try have r70_:=Int.not_le.mpr c70);(try have q67_:=Int.not_lt.mpr c67);(try have r67_:=Int.not_le.mpr c67);(try have q65_:=Int.not_lt.mpr c65);(try have r65_:=Int.not_le.mpr c65);(try have q62_:=Int.not_lt.mpr c62);(try have r62_:=Int.not_le.mpr c62)
                     refine rq S [(0,0),(0,1),(0,2),(0,3),(0,4),(1,5),(0,6),(0,7),(0,8),(0,9),(0,11),(1,10),(0,12),(1,13),(0,14),(0,15),(0,16),(0,17),(0,19),(0,22),(1,18),(0,20),(1,21),(1,23),(0,24),(0,25),(0,26)] [] (h:=?_);clear S F;intro W S;have S0:=S;have F:=S.fc
                     repeat (first | (refine q0 (h:=?_)) | (refine q1 S0 (h:=?_)) | (refine q0n (h:=?_)) | (refine q1n S0 (h:=?_)))
                     refine oz ?_
                     try clear S0
                     go_wp2_with (first | ((with_reducible refine gs (t:=88) rfl (L ?_));(first | refine sb (.agg #[_,_]) S sz88 ?_ | refine ro (.agg #[_,_]) S sz88 ?_ (ho:=rfl) (hx:=rfl) (hy:=rfl));(clear S F;intro W S;have F:=S.fc)))
                     go_ret
                     exact ⟨(by first | rfl | (simp [e0_,e1_] <;> rfl) | (simp [*,e0_,e1_] <;> rfl)),S.below⟩
                   · skip
                     go_wp2_with (first | ((with_reducible refine gs (t:=88) rfl (L ?_));(first | refine sb (.agg #[_,_]) S sz88 ?_ | refine ro (.agg #[_,_]) S sz88 ?_ (ho:=rfl) (hx:=rfl) (hy:=rfl));(clear S F;intro W S;have F:=S.fc)))
                     (try have q72_:=Int.not_lt.mpr c72);(try have r72_:=Int.not_le.mpr c72);(try have q70_:=Int.not_lt.mpr c70);(try have r70_:=Int.not_le.mpr c70);(try have q67_:=Int.not_lt.mpr c67);(try have r67_:=Int.not_le.mpr c67);(try have q65_:=Int.not_lt.mpr c65);(try have r65_:=Int.not_le.mpr c65);(try have q62_:=Int.not_lt.mpr c62);(try have r62_:=Int.not_le.mpr c62)
                     refine rq S [(0,0),(0,1),(0,2),(0,3),(0,4),(1,5),(0,6),(0,7),(0,8),(0,9),(0,11),(1,10),(0,12),(1,13),(0,14),(0,15),(0,16),(0,17),(0,19),(0,22),(1,18),(0,20),(1,21),(1,23),(0,24),(0,25),(0,26)] [] (h:=?_);clear S F;intro W S;have S0:=S;have F:=S.fc
                     repeat (first | (refine q0 (h:=?_)) | (refine q1 S0 (h:=?_)) | (refine q0n (h:=?_)) | (refine q1n S0 (h:=?_)))
                     refine oz ?_
                     try clear S0
                     go_wp2_with (first | ((with_reducible refine gs (t:=88) rfl (L ?_));(first | refine sb (.agg #[_,_]) S sz88 ?_ | refine ro (.agg #[_,_]) S sz88 ?_ (ho:=rfl) (hx:=rfl) (hy:=rfl));(clear S F;intro W S;have F:=S.fc)))
                     go_roundg k3
                     case measure=>omega
                     case rel=>exact ⟨(wrap64 (x88_3 + 1)),(by first | rfl | (simp;done) | (simp [*];done) | (rw [w6_ (by omega) (by omega)])),H,(by first | omega | exact Nat.le_refl _),S⟩
           · skip
             go_wp2_with (first | ((with_reducible refine gs (t:=88) rfl (L ?_));(first | refine sb (.agg #[_,_]) S sz88 ?_ | refine ro (.agg #[_,_]) S sz88 ?_ (ho:=rfl) (hx:=rfl) (hy:=rfl));(clear S F;intro W S;have F:=S.fc)))
             go_loopg [7,8] k3 (fun kq v7 v8 w'=>∃ (x7_4:Int) (x8_4:Int),v7 = .int .i64 x7_4∧v8 = .int .i64 x8_4∧impl_IsChallenge.l2 kq x7_4 x8_4 a0_0 a0_1 l0_2 l0_3 l0_4 = some r∧kq ≤ k3∧St w w (fun _=>False) [bor at88 A0_2 c0_2 l0_2,bor (atI .i64) A0_3 c0_3 l0_3,bor (atI .i64) A0_4 c0_4 l0_4] w'  [box gb347 31 [.int .i64 a0_0,.int .i64 a0_1,.slice A0_2 l0_2.length c0_2,.slice A0_3 l0_3.length c0_3,.slice A0_4 l0_4.length c0_4]])
             case atStart=>exact ⟨1,0,(by first | rfl | (simp;done) | (simp [*];done) | (rw [w6_ (by omega) (by omega)])),(by first | rfl | (simp;done) | (simp [*];done) | (rw [w6_ (by omega) (by omega)])),H,Nat.le_refl _,S⟩
             case round =>
              clear H S F
              obtain ⟨x7_4,x8_4,rfl,rfl,HA,HK4,S⟩:=hrel
              have F:=S.fc
              cases gk with
              | zero=>exact absurd HA (by simp [impl_IsChallenge.l2])
              | succ k4 =>
               have H:=HA;clear HA;simp only [impl_IsChallenge.l2,F] at H
               replace H:=sp_ H;rcases H with ⟨c75,H⟩ | ⟨c75,H⟩
               · skip
                 replace H:=sp_ H;rcases H with ⟨c76,H⟩ | ⟨c76,H⟩
                 · skip
                   obtain rfl:=Option.some.inj H
                   go_wp2_with (first | ((with_reducible refine gs (t:=88) rfl (L ?_));(first | refine sb (.agg #[_,_]) S sz88 ?_ | refine ro (.agg #[_,_]) S sz88 ?_ (ho:=rfl) (hx:=rfl) (hy:=rfl));(clear S F;intro W S;have F:=S.fc)))
                   go_ret
                   exact ⟨(by first | rfl | (simp [e0_,e1_] <;> rfl) | (simp [*,e0_,e1_] <;> rfl)),S.below⟩
                 · skip
                   go_wp2_with (first | ((with_reducible refine gs (t:=88) rfl (L ?_));(first | refine sb (.agg #[_,_]) S sz88 ?_ | refine ro (.agg #[_,_]) S sz88 ?_ (ho:=rfl) (hx:=rfl) (hy:=rfl));(clear S F;intro W S;have F:=S.fc)))
                   go_roundg k4
                   case measure=>omega
                   case rel=>exact ⟨(wrap64 (x7_4 * (wrap64 ((l0_2.length:Int) + 1)))),(wrap64 (x8_4 + 1)),(by first | rfl | (simp;done) | (simp [*];done) | (rw [w6_ (by omega) (by omega)])),(by first | rfl | (simp;done) | (simp [*];done) | (rw [w6_ (by omega) (by omega)])),H,(by first | omega | exact Nat.le_refl _),S⟩
               · skip
                 obtain rfl:=Option.some.inj H
                 go_wp2_with (first | ((with_reducible refine gs (t:=88) rfl (L ?_));(first | refine sb (.agg #[_,_]) S sz88 ?_ | refine ro (.agg #[_,_]) S sz88 ?_ (ho:=rfl) (hx:=rfl) (hy:=rfl));(clear S F;intro W S;have F:=S.fc)))
                 go_ret
                 exact ⟨(by first | rfl | (simp [e0_,e1_] <;> rfl) | (simp [*,e0_,e1_] <;> rfl)),S.below⟩

/-! ### impl_partsOf: function 65 -/
def impl_partsOf.l0:Nat→Int→List (S88)→Int→Int→Option (Int)
  | 0,_,_,_,_=>none
  | k + 1,x3,x7,x8,x9=>if x9 < x8 then (if 0 ≤ x9 then (if x9 < (x7.length:Int) then (if ((rd_T88 x7 x9).f0) = 0 then (impl_partsOf.l0 k x3 x7 x8 (wrap64 (x9 + 1))) else (impl_partsOf.l0 k (wrap64 (x3 + 1)) x7 x8 (wrap64 (x9 + 1)))) else (none)) else (none)) else (some x3)
def impl_partsOf.f (k:Nat) (a0_0:Int) (a0_1:Int) (l0_2:List (S88)):Option (Int):=impl_partsOf.l0 k 0 l0_2 (l0_2.length:Int) 0
theorem impl_partsOf.calls (k:Nat) (a0_0:Int) (a0_1:Int) (A0_2:Option Addr) (c0_2:Nat) (l0_2:List (S88)) (r:Int) (w:World) (hr0_2:Kd.C k88 w A0_2 l0_2.length l0_2) (hc0_2:l0_2.length ≤ c0_2) (h:impl_partsOf.f k a0_0 a0_1 l0_2 = some r) :
    Calls Try.prog 65 #[.agg #[.int .i64 a0_0,.int .i64 a0_1,.slice A0_2 l0_2.length c0_2]] w fun e w'=>e = .returned (.int .i64 r)∧Below w.heap.size w w':=by
 have S:=St.init (w:=w) (dc k88_heap at88 hr0_2 hc0_2 dn)
 clear hr0_2 hc0_2
 have F:=S.fc
 have H:=h;clear h;unfold impl_partsOf.f at H
 go_enter Try.func65,Try.ntmps65
 go_wp2_with (first | ((with_reducible refine gd 1 rfl (L ?_));refine bo 1 (.agg #[_,_,_]) S ?_;clear S F;intro gb359 W S;have F:=S.fc) | ((with_reducible refine gs (t:=88) rfl (L ?_));(first | refine sb (.agg #[_,_]) S sz88 ?_ | refine ro (.agg #[_,_]) S sz88 ?_ (ho:=rfl) (hx:=rfl) (hy:=rfl));(clear S F;intro W S;have F:=S.fc)))
 go_loopg [3,9] k (fun kq v3 v9 w'=>∃ (x3_1:Int) (x9_1:Int),v3 = .int .i64 x3_1∧v9 = .int .i64 x9_1∧impl_partsOf.l0 kq x3_1 l0_2 (l0_2.length:Int) x9_1 = some r∧kq ≤ k∧St w w (fun _=>False) [bor at88 A0_2 c0_2 l0_2] w'  [box gb359 50 [.int .i64 a0_0,.int .i64 a0_1,.slice A0_2 l0_2.length c0_2]])
 case atStart=>exact ⟨0,0,(by first | rfl | (simp;done) | (simp [*];done) | (rw [w6_ (by omega) (by omega)])),(by first | rfl | (simp;done) | (simp [*];done) | (rw [w6_ (by omega) (by omega)])),H,Nat.le_refl _,S⟩
 case round =>
  clear H S F
  obtain ⟨x3_1,x9_1,rfl,rfl,HA,HK1,S⟩:=hrel
  have F:=S.fc
  cases gk with
  | zero=>exact absurd HA (by simp [impl_partsOf.l0])
  | succ k1 =>
   have H:=HA;clear HA;simp only [impl_partsOf.l0,F] at H
   replace H:=sp_ H;rcases H with ⟨c4,H⟩ | ⟨c4,H⟩
   · skip
     replace H:=np_ H;obtain ⟨c5,H⟩:=H
     replace H:=np_ H;obtain ⟨c6,H⟩:=H
     replace H:=sp_ H;rcases H with ⟨c7,H⟩ | ⟨c7,H⟩
     · skip
       replace c7:=ceq c7
       go_wp2_with (first | ((with_reducible refine gd 5 rfl (L ?_));refine al 5 S zi88 ?_;clear S F;intro gb361 W S;have F:=S.fc) | ((with_reducible refine gs (t:=88) rfl (L ?_));(first | refine sb (.agg #[_,_]) S sz88 ?_ | refine ro (.agg #[_,_]) S sz88 ?_ (ho:=rfl) (hx:=rfl) (hy:=rfl));(clear S F;intro W S;have F:=S.fc)))
       go_roundg k1
       case measure=>omega
       case rel=>exact ⟨x3_1,(wrap64 (x9_1 + 1)),(by first | rfl | (simp;done) | (simp [*];done) | (rw [w6_ (by omega) (by omega)])),(by first | rfl | (simp;done) | (simp [*];done) | (rw [w6_ (by omega) (by omega)])),H,(by first | omega | exact Nat.le_refl _),S.tl⟩
     · skip
       replace c7:=cne c7
       go_wp2_with (first | ((with_reducible refine gd 5 rfl (L ?_));refine al 5 S zi88 ?_;clear S F;intro gb361 W S;have F:=S.fc) | ((with_reducible refine gs (t:=88) rfl (L ?_));(first | refine sb (.agg #[_,_]) S sz88 ?_ | refine ro (.agg #[_,_]) S sz88 ?_ (ho:=rfl) (hx:=rfl) (hy:=rfl));(clear S F;intro W S;have F:=S.fc)))
       go_roundg k1
       case measure=>omega
       case rel=>exact ⟨(wrap64 (x3_1 + 1)),(wrap64 (x9_1 + 1)),(by first | rfl | (simp;done) | (simp [*];done) | (rw [w6_ (by omega) (by omega)])),(by first | rfl | (simp;done) | (simp [*];done) | (rw [w6_ (by omega) (by omega)])),H,(by first | omega | exact Nat.le_refl _),S.tl⟩
   · skip
     obtain rfl:=Option.some.inj H
     go_wp2_with (first | ((with_reducible refine gs (t:=88) rfl (L ?_));(first | refine sb (.agg #[_,_]) S sz88 ?_ | refine ro (.agg #[_,_]) S sz88 ?_ (ho:=rfl) (hx:=rfl) (hy:=rfl));(clear S F;intro W S;have F:=S.fc)))
     go_ret
     exact ⟨(by first | rfl | (simp [e0_,e1_] <;> rfl) | (simp [*,e0_,e1_] <;> rfl)),S.below⟩

/-! ### impl_boardsTried: function 106 -/
def impl_boardsTried.l0:Nat→Int→Int→Int→Int→List (S88)→List Int→List Int→Option (Int)
  | 0,_,_,_,_,_,_,_=>none
  | k + 1,x3,x4,x363000,x363001,x363002,x363003,x363004=>if x4 < (wrap64 (x363000 * x363001)) then (impl_boardsTried.l0 k (wrap64 (x3 * (wrap64 ((x363002.length:Int) + 1)))) (wrap64 (x4 + 1)) x363000 x363001 x363002 x363003 x363004) else (some x3)
def impl_boardsTried.f (k:Nat) (a0_0:Int) (a0_1:Int) (l0_2:List (S88)) (l0_3:List Int) (l0_4:List Int):Option (Int):=impl_boardsTried.l0 k 1 0 a0_0 a0_1 l0_2 l0_3 l0_4
theorem impl_boardsTried.calls (k:Nat) (a0_0:Int) (a0_1:Int) (A0_2:Option Addr) (c0_2:Nat) (l0_2:List (S88)) (A0_3:Option Addr) (c0_3:Nat) (l0_3:List Int) (A0_4:Option Addr) (c0_4:Nat) (l0_4:List Int) (r:Int) (w:World) (hr0_2:Kd.C k88 w A0_2 l0_2.length l0_2) (hc0_2:l0_2.length ≤ c0_2) (hr0_3:Kd.C (Kd.int .i64) w A0_3 l0_3.length l0_3) (hc0_3:l0_3.length ≤ c0_3) (hr0_4:Kd.C (Kd.int .i64) w A0_4 l0_4.length l0_4) (hc0_4:l0_4.length ≤ c0_4) (h:impl_boardsTried.f k a0_0 a0_1 l0_2 l0_3 l0_4 = some r) :
    Calls Try.prog 106 #[.agg #[.int .i64 a0_0,.int .i64 a0_1,.slice A0_2 l0_2.length c0_2,.slice A0_3 l0_3.length c0_3,.slice A0_4 l0_4.length c0_4]] w fun e w'=>e = .returned (.int .i64 r)∧Below w.heap.size w w':=by
 have S:=St.init (w:=w) (dc k88_heap at88 hr0_2 hc0_2 (dc (Kd.heap_int .i64) (atI .i64) hr0_3 hc0_3 (dc (Kd.heap_int .i64) (atI .i64) hr0_4 hc0_4 dn)))
 clear hr0_2 hc0_2 hr0_3 hc0_3 hr0_4 hc0_4
 have F:=S.fc
 have H:=h;clear h;unfold impl_boardsTried.f at H
 go_enter Try.func106,Try.ntmps106
 go_wp2_with (first | ((with_reducible refine gd 1 rfl (L ?_));refine bo 1 (.agg #[_,_,_,_,_]) S ?_;clear S F;intro gb362 W S;have F:=S.fc))
 go_loopg [3,4] k (fun kq v3 v4 w'=>∃ (x3_1:Int) (x4_1:Int),v3 = .int .i64 x3_1∧v4 = .int .i64 x4_1∧impl_boardsTried.l0 kq x3_1 x4_1 a0_0 a0_1 l0_2 l0_3 l0_4 = some r∧kq ≤ k∧St w w (fun _=>False) [bor at88 A0_2 c0_2 l0_2,bor (atI .i64) A0_3 c0_3 l0_3,bor (atI .i64) A0_4 c0_4 l0_4] w'  [box gb362 31 [.int .i64 a0_0,.int .i64 a0_1,.slice A0_2 l0_2.length c0_2,.slice A0_3 l0_3.length c0_3,.slice A0_4 l0_4.length c0_4]])
 case atStart=>exact ⟨1,0,(by first | rfl | (simp;done) | (simp [*];done) | (rw [w6_ (by omega) (by omega)])),(by first | rfl | (simp;done) | (simp [*];done) | (rw [w6_ (by omega) (by omega)])),H,Nat.le_refl _,S⟩
 case round =>
  clear H S F
  obtain ⟨x3_1,x4_1,rfl,rfl,HA,HK1,S⟩:=hrel
  have F:=S.fc
  cases gk with
  | zero=>exact absurd HA (by simp [impl_boardsTried.l0])
  | succ k1 =>
   have H:=HA;clear HA;simp only [impl_boardsTried.l0,F] at H
   replace H:=sp_ H;rcases H with ⟨c3,H⟩ | ⟨c3,H⟩
   · skip
     go_wp2
     go_roundg k1
     case measure=>omega
     case rel=>exact ⟨(wrap64 (x3_1 * (wrap64 ((l0_2.length:Int) + 1)))),(wrap64 (x4_1 + 1)),(by first | rfl | (simp;done) | (simp [*];done) | (rw [w6_ (by omega) (by omega)])),(by first | rfl | (simp;done) | (simp [*];done) | (rw [w6_ (by omega) (by omega)])),H,(by first | omega | exact Nat.le_refl _),S⟩
   · skip
     obtain rfl:=Option.some.inj H
     go_wp2
     go_ret
     exact ⟨(by first | rfl | (simp [e0_,e1_] <;> rfl) | (simp [*,e0_,e1_] <;> rfl)),S.below⟩

/-! ### impl_boardOf: function 107 -/
def impl_boardOf.l0:Nat→Int→Int→Int→Int→List (S88)→List Int→List Int→Int→Int→List (S88)→Option (Int × Int × (List (S88)))
  | 0,_,_,_,_,_,_,_,_,_,_=>none
  | k + 1,x1,x6,x364000,x364001,x364002,x364003,x364004,x369000,x369001,x369002=>if x6 ≥ 0 then (if (wrap64 ((x364002.length:Int) + 1)) = 0 then (none) else (if (Int.tmod x1 (wrap64 ((x364002.length:Int) + 1))) > 0 then (if 0 ≤ (wrap64 ((Int.tmod x1 (wrap64 ((x364002.length:Int) + 1))) - 1)) then (if (wrap64 ((Int.tmod x1 (wrap64 ((x364002.length:Int) + 1))) - 1)) < (x364002.length:Int) then (if 0 ≤ x6 then (if x6 < (x369002.length:Int) then (impl_boardOf.l0 k (wrap64 (Int.tdiv x1 (wrap64 ((x364002.length:Int) + 1)))) (wrap64 (x6 - 1)) x364000 x364001 x364002 x364003 x364004 x369000 x369001 (x369002.set (x6:Int).toNat (⟨(rd_T88 x364002 (wrap64 ((Int.tmod x1 (wrap64 ((x364002.length:Int) + 1))) - 1))).f0,(rd_T88 x364002 (wrap64 ((Int.tmod x1 (wrap64 ((x364002.length:Int) + 1))) - 1))).f1⟩:S88))) else (none)) else (none)) else (none)) else (none)) else (impl_boardOf.l0 k (wrap64 (Int.tdiv x1 (wrap64 ((x364002.length:Int) + 1)))) (wrap64 (x6 - 1)) x364000 x364001 x364002 x364003 x364004 x369000 x369001 x369002))) else (some (x369000,x369001,x369002))
def impl_boardOf.f (k:Nat) (a0_0:Int) (a0_1:Int) (l0_2:List (S88)) (l0_3:List Int) (l0_4:List Int) (a1:Int):Option (Int × Int × (List (S88))):=if 0 ≤ (wrap64 (a0_0 * a0_1)) then (if (wrap64 (a0_0 * a0_1):Int).toNat ≤ 17592186044416 then ((some (List.replicate (wrap64 (a0_0 * a0_1):Int).toNat z88:List (S88))).bind fun y365=>(impl_boardOf.l0 k a1 (wrap64 ((y365.length:Int) - 1)) a0_0 a0_1 l0_2 l0_3 l0_4 a0_0 a0_1 y365)) else (none)) else (none)
theorem impl_boardOf.calls (k:Nat) (a0_0:Int) (a0_1:Int) (A0_2:Option Addr) (c0_2:Nat) (l0_2:List (S88)) (A0_3:Option Addr) (c0_3:Nat) (l0_3:List Int) (A0_4:Option Addr) (c0_4:Nat) (l0_4:List Int) (a1:Int) (r1:Int) (r2:Int) (r3:List (S88)) (w:World) (hr0_2:Kd.C k88 w A0_2 l0_2.length l0_2) (hc0_2:l0_2.length ≤ c0_2) (hr0_3:Kd.C (Kd.int .i64) w A0_3 l0_3.length l0_3) (hc0_3:l0_3.length ≤ c0_3) (hr0_4:Kd.C (Kd.int .i64) w A0_4 l0_4.length l0_4) (hc0_4:l0_4.length ≤ c0_4) (h:impl_boardOf.f k a0_0 a0_1 l0_2 l0_3 l0_4 a1 = some (r1,r2,r3)) :
    Calls Try.prog 107 #[.agg #[.int .i64 a0_0,.int .i64 a0_1,.slice A0_2 l0_2.length c0_2,.slice A0_3 l0_3.length c0_3,.slice A0_4 l0_4.length c0_4],.int .i64 a1] w fun e w'=>∃ v2_:Value,e = .returned (.agg #[.int .i64 r1,.int .i64 r2,v2_])∧Kd.R k88 88 w' w.heap.size (fun _=>True) v2_ r3∧Below w.heap.size w w':=by
 have S:=St.init (w:=w) (dc k88_heap at88 hr0_2 hc0_2 (dc (Kd.heap_int .i64) (atI .i64) hr0_3 hc0_3 (dc (Kd.heap_int .i64) (atI .i64) hr0_4 hc0_4 dn)))
 clear hr0_2 hc0_2 hr0_3 hc0_3 hr0_4 hc0_4
 have F:=S.fc
 have H:=h;clear h;unfold impl_boardOf.f at H
 obtain ⟨ji3,hji3⟩:∃ j_:Int,(wrap64 (a0_0 * a0_1)) = j_:=⟨_,rfl⟩;simp only [hji3] at H
 have hji3w:(IntKind.i64.wrap (a0_0 * a0_1)) = ji3:=(i64_w _).trans hji3
 replace H:=np_ H;obtain ⟨c4,H⟩:=H
 replace H:=np_ H;obtain ⟨c5,H⟩:=H
 (first | (with_reducible replace H:=ob_ H;obtain ⟨y365,hy365,H⟩:=H;(try dsimp only at H)) | (obtain ⟨y365,hy365⟩:∃ y_:List (S88),y_ = (List.replicate (ji3:Int).toNat z88):=⟨_,rfl⟩;(try rw [← hy365] at H);(try simp only [Option.bind_some] at H)));have Ny365:=Aside0.mk hy365;clear hy365
 go_enter Try.func107,Try.ntmps107
 go_wp2_with (first | ((with_reducible refine gd 2 rfl (L ?_));refine bo 2 (.agg #[_,_,_,_,_]) S ?_;clear S F;intro gb363 W S;have F:=S.fc) | ((with_reducible refine gd 4 rfl (L ?_));refine al 4 S zi50 ?_;clear S F;intro gb364 W S;have F:=S.fc) | ((with_reducible refine gs (t:=50) rfl (L ?_));(first | refine sb (.agg #[_,_,_]) S sz50 ?_ | refine ro (.agg #[_,_,_]) S sz50 ?_ (ho:=rfl) (hx:=rfl) (hy:=rfl));clear S F;intro W S;(try simp only [gd88] at S);(try rw [← Ny365.out] at S);have F:=S.fc) | ((with_reducible refine gs (t:=88) rfl (L ?_));(first | refine sb (.agg #[_,_]) S sz88 ?_ | refine ro (.agg #[_,_]) S sz88 ?_ (ho:=rfl) (hx:=rfl) (hy:=rfl));clear S F;intro W S;(try simp only [gd88] at S);(try rw [← Ny365.out] at S);have F:=S.fc))
 refine rgF S (fun _ S=>S) (fkc 11 5 zi50 fk0) [(0,0),(0,2),(0,4),(0,6),(1,1),(1,3),(1,5),(1,7),(0,8),(2,9),(0,10)] [(3,12)] [12] (id:=1) (h:=?_);clear S F;intro W S;have S0:=S;have F:=S.fc
 repeat (first | (refine f0 (h:=?_)) | (refine f1 S0 (h:=?_)) | (refine f0n (h:=?_)) | (refine f1n S0 (h:=?_)))
 refine fe2 S (by rfl) ?_;intro x5_ X W S;simp only [List.cons_append,List.nil_append,putF,Act.put,za_,zb_,zc_] at S ⊢;clear F;have F:=S.fc;refine ⟨rfl,?_⟩;refine mka 17 at88 S Try.underlying29 info88 ?_;clear S F;intro Ay365 cy365 W S;(try simp only [Int.reduceToNat] at S);(try rw [← Ny365.out] at S ⊢);have F:=S.fc
 clear S0;have S0:=(S.nx X).tl;refine ⟨S0,?_⟩
 repeat (first | (refine f0 (h:=?_)) | (refine f1 S0 (h:=?_)) | (refine f0n (h:=?_)) | (refine f1n S0 (h:=?_)))
 refine fz S ?_;intro gb368 W S;simp only [bxs,fbox,ptr,List.map_cons,List.map_nil,List.cons_append,List.nil_append,putF,Act.put,za_,zb_,zc_] at S ⊢;clear F S0;have S0:=S.tl.tl;have F:=S.fc
 refine lk3 (by rfl) (by exact (Eq.refl true)) ?_;(first | refine sb (.agg #[_,_,_]) S sz50 ?_ | refine ro (.agg #[_,_,_]) S sz50 ?_ (ho:=rfl) (hx:=rfl) (hy:=rfl) | refine sb (.agg #[_,_]) S sz88 ?_ | refine ro (.agg #[_,_]) S sz88 ?_ (ho:=rfl) (hx:=rfl) (hy:=rfl));clear S F;intro W S;(try simp only [gd88] at S);(try rw [← Ny365.out] at S);have F:=S.fc
 refine oz ?_
 try clear S0
 go_wp2_with (first | ((with_reducible refine gs (t:=50) rfl (L ?_));(first | refine sb (.agg #[_,_,_]) S sz50 ?_ | refine ro (.agg #[_,_,_]) S sz50 ?_ (ho:=rfl) (hx:=rfl) (hy:=rfl));clear S F;intro W S;(try simp only [gd88] at S);(try rw [← Ny365.out] at S);have F:=S.fc) | ((with_reducible refine gs (t:=88) rfl (L ?_));(first | refine sb (.agg #[_,_]) S sz88 ?_ | refine ro (.agg #[_,_]) S sz88 ?_ (ho:=rfl) (hx:=rfl) (hy:=rfl));clear S F;intro W S;(try simp only [gd88] at S);(try rw [← Ny365.out] at S);have F:=S.fc))
 go_loopg [1,6] k (fun kq v1 v6 w'=>∃ (x1_1:Int) (x6_1:Int) (x369002_1:List (S88)) (Ax369002_1:Option Addr) (cx369002_1:Nat),v1 = .int .i64 x1_1∧v6 = .int .i64 x6_1∧impl_boardOf.l0 kq x1_1 x6_1 a0_0 a0_1 l0_2 l0_3 l0_4 a0_0 a0_1 x369002_1 = some (r1,r2,r3)∧kq ≤ k∧St w w (fun _=>False) [bor at88 A0_2 c0_2 l0_2,bor (atI .i64) A0_3 c0_3 l0_3,bor (atI .i64) A0_4 c0_4 l0_4] w'  [box gb368 50 [.int .i64 a0_0,.int .i64 a0_1,.slice Ax369002_1 x369002_1.length cx369002_1],row at88 88 Ax369002_1 x369002_1.length cx369002_1 x369002_1,box gb364 50 [.int .i64 0,.int .i64 0,.slice none 0 0],box gb363 31 [.int .i64 a0_0,.int .i64 a0_1,.slice A0_2 l0_2.length c0_2,.slice A0_3 l0_3.length c0_3,.slice A0_4 l0_4.length c0_4]])
 case atStart=>exact ⟨a1,(wrap64 ((y365.length:Int) - 1)),y365,_,_,(by first | rfl | (simp;done) | (simp [*];done) | (rw [w6_ (by omega) (by omega)])),(by first | rfl | (simp;done) | (simp [*];done) | (rw [w6_ (by omega) (by omega)])),H,Nat.le_refl _,S⟩
 case round =>
  clear H S F
  obtain ⟨x1_1,x6_1,x369002_1,Ax369002_1,cx369002_1,rfl,rfl,HA,HK1,S⟩:=hrel
  have F:=S.fc
  cases gk with
  | zero=>exact absurd HA (by simp [impl_boardOf.l0])
  | succ k1 =>
   have H:=HA;clear HA;simp only [impl_boardOf.l0,F] at H
   replace H:=sp_ H;rcases H with ⟨c21,H⟩ | ⟨c21,H⟩
   · skip
     replace H:=nn_ H;obtain ⟨c22,H⟩:=H
     replace c22:=cne c22
     replace H:=sp_ H;rcases H with ⟨c23,H⟩ | ⟨c23,H⟩
     · skip
       obtain ⟨ji24,hji24⟩:∃ j_:Int,(wrap64 ((Int.tmod x1_1 (wrap64 ((l0_2.length:Int) + 1))) - 1)) = j_:=⟨_,rfl⟩;simp only [hji24] at H
       have hji24w:(IntKind.i64.wrap ((Int.tmod x1_1 (wrap64 ((l0_2.length:Int) + 1))) - 1)) = ji24:=(i64_w _).trans hji24
       replace H:=np_ H;obtain ⟨c25,H⟩:=H
       replace H:=np_ H;obtain ⟨c26,H⟩:=H
       replace H:=np_ H;obtain ⟨c27,H⟩:=H
       replace H:=np_ H;obtain ⟨c28,H⟩:=H
       (first | (with_reducible replace H:=ob_ H;obtain ⟨y370,hy370,H⟩:=H;(try dsimp only at H)) | (obtain ⟨y370,hy370⟩:∃ y_:List (S88),y_ = (x369002_1.set (x6_1:Int).toNat (⟨(rd_T88 l0_2 (ji24)).f0,(rd_T88 l0_2 (ji24)).f1⟩:S88)):=⟨_,rfl⟩;(try rw [← hy370] at H);(try simp only [Option.bind_some] at H)));have Ny370:=Aside0.mk hy370;clear hy370
       go_wp2_with (first | ((with_reducible refine gs (t:=50) rfl (L ?_));(first | refine sb (.agg #[_,_,_]) S sz50 ?_ | refine ro (.agg #[_,_,_]) S sz50 ?_ (ho:=rfl) (hx:=rfl) (hy:=rfl));clear S F;intro W S;(try simp only [gd88] at S);(try rw [← Ny365.out] at S);(try rw [← Ny370.out] at S);have F:=S.fc) | ((with_reducible refine gs (t:=88) rfl (L ?_));(first | refine sb (.agg #[_,_]) S sz88 ?_ | refine ro (.agg #[_,_]) S sz88 ?_ (ho:=rfl) (hx:=rfl) (hy:=rfl));clear S F;intro W S;(try simp only [gd88] at S);(try rw [← Ny365.out] at S);(try rw [← Ny370.out] at S);have F:=S.fc))
       refine rq S [(0,0),(0,2),(0,3),(0,5),(0,6),(1,1),(1,4),(0,7),(1,8),(0,9),(3,10)] [10] (h:=?_);clear S F;intro W S;have S0:=S;have F:=S.fc
       repeat (first | (refine q0 (h:=?_)) | (refine q1 S0 (h:=?_)) | (refine q0n (h:=?_)) | (refine q1n S0 (h:=?_)))
       refine lk3 (by rfl) (by exact (Eq.refl true)) ?_;(first | refine sb (.agg #[_,_,_]) S sz50 ?_ | refine ro (.agg #[_,_,_]) S sz50 ?_ (ho:=rfl) (hx:=rfl) (hy:=rfl) | refine sb (.agg #[_,_]) S sz88 ?_ | refine ro (.agg #[_,_]) S sz88 ?_ (ho:=rfl) (hx:=rfl) (hy:=rfl));clear S F;intro W S;(try simp only [gd88] at S);(try rw [← Ny365.out] at S);(try rw [← Ny370.out] at S);have F:=S.fc
       refine oz ?_
       try clear S0
       go_wp2_with (first | ((with_reducible refine gs (t:=50) rfl (L ?_));(first | refine sb (.agg #[_,_,_]) S sz50 ?_ | refine ro (.agg #[_,_,_]) S sz50 ?_ (ho:=rfl) (hx:=rfl) (hy:=rfl));clear S F;intro W S;(try simp only [gd88] at S);(try rw [← Ny365.out] at S);(try rw [← Ny370.out] at S);have F:=S.fc) | ((with_reducible refine gs (t:=88) rfl (L ?_));(first | refine sb (.agg #[_,_]) S sz88 ?_ | refine ro (.agg #[_,_]) S sz88 ?_ (ho:=rfl) (hx:=rfl) (hy:=rfl));clear S F;intro W S;(try simp only [gd88] at S);(try rw [← Ny365.out] at S);(try rw [← Ny370.out] at S);have F:=S.fc))
       go_roundg k1
       case measure=>omega
       case rel=>(try rw [← (show y370.length = x369002_1.length by first | simp only [F] | (have F_:=F;simp only [Ny370.out,List.length_set] at F_;simp only [F_]))] at S);exact ⟨(wrap64 (Int.tdiv x1_1 (wrap64 ((l0_2.length:Int) + 1)))),(wrap64 (x6_1 - 1)),y370,_,_,(by first | rfl | (simp;done) | (simp [*];done) | (rw [w6_ (by omega) (by omega)])),(by first | rfl | (simp;done) | (simp [*];done) | (rw [w6_ (by omega) (by omega)])),H,(by first | omega | exact Nat.le_refl _),S⟩
     · skip
       go_wp2_with (first | ((with_reducible refine gs (t:=50) rfl (L ?_));(first | refine sb (.agg #[_,_,_]) S sz50 ?_ | refine ro (.agg #[_,_,_]) S sz50 ?_ (ho:=rfl) (hx:=rfl) (hy:=rfl));clear S F;intro W S;(try simp only [gd88] at S);(try rw [← Ny365.out] at S);have F:=S.fc) | ((with_reducible refine gs (t:=88) rfl (L ?_));(first | refine sb (.agg #[_,_]) S sz88 ?_ | refine ro (.agg #[_,_]) S sz88 ?_ (ho:=rfl) (hx:=rfl) (hy:=rfl));clear S F;intro W S;(try simp only [gd88] at S);(try rw [← Ny365.out] at S);have F:=S.fc))
       go_roundg k1
       case measure=>omega
       case rel=>exact ⟨(wrap64 (Int.tdiv x1_1 (wrap64 ((l0_2.length:Int) + 1)))),(wrap64 (x6_1 - 1)),x369002_1,_,_,(by first | rfl | (simp;done) | (simp [*];done) | (rw [w6_ (by omega) (by omega)])),(by first | rfl | (simp;done) | (simp [*];done) | (rw [w6_ (by omega) (by omega)])),H,(by first | omega | exact Nat.le_refl _),S⟩
   · skip
     simp only [Option.some.injEq,Prod.mk.injEq] at H
     obtain ⟨rfl,rfl,rfl⟩:=H
     go_wp2_with (first | ((with_reducible refine gs (t:=50) rfl (L ?_));(first | refine sb (.agg #[_,_,_]) S sz50 ?_ | refine ro (.agg #[_,_,_]) S sz50 ?_ (ho:=rfl) (hx:=rfl) (hy:=rfl));clear S F;intro W S;(try simp only [gd88] at S);(try rw [← Ny365.out] at S);have F:=S.fc) | ((with_reducible refine gs (t:=88) rfl (L ?_));(first | refine sb (.agg #[_,_]) S sz88 ?_ | refine ro (.agg #[_,_]) S sz88 ?_ (ho:=rfl) (hx:=rfl) (hy:=rfl));clear S F;intro W S;(try simp only [gd88] at S);(try rw [← Ny365.out] at S);have F:=S.fc))
     refine bodyPost_ret (results_cell_row rfl _ _ gb364 50 #[.int .i64 a0_0,.int .i64 a0_1,.slice Ax369002_1 x369002_1.length cx369002_1] (0,0) _ rfl S.hb Try.underlying50 rfl (by kernel_rfl)) rfl ?_
     exact ⟨_,(by first | rfl | (simp [e0_,e1_] <;> rfl) | (simp [*,e0_,e1_] <;> rfl)),(by first | exact S.r | exact Kd.R_nil _ _ _ _ _),S.below⟩
end Go.Proofs.Ytipaimgpmgbkiaa.F
