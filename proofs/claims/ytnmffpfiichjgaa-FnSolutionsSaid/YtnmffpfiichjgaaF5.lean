-- Printed by a program; checked here.
import Derived.Test.YtnmffpfiichjgaaF0
import Derived.Test.YtnmffpfiichjgaaF1
import Derived.Test.YtnmffpfiichjgaaF2
import Derived.Test.YtnmffpfiichjgaaF3
import Derived.Test.YtnmffpfiichjgaaF4
namespace Go.Proofs.Ytnmffpfiichjgaa.F
open Go.RowKit Go.Proofs.YtnmffpfiichjgaaV.PrintWords Go.Proofs.YtnmffpfiichjgaaV.PrintLast Go.Proofs.YtnmffpfiichjgaaV.PrintMore Go.Proofs.YtnmffpfiichjgaaV.Sl Go.Proofs.YtnmffpfiichjgaaV.Rf
attribute [local go_sem] max2_int min2_int max_two min_two max_three min_three max_four min_four ia_opt it_opt
attribute [local go_sem] Try.underlying4 Try.underlying23 Try.underlying24 Try.underlying25 Try.underlying27 Try.underlying30 Try.underlying42 Try.underlying68 Try.underlying80 Try.underlying111
set_option maxHeartbeats 8000000
set_option maxRecDepth 100000
set_option linter.unusedVariables false
set_option linter.unusedSimpArgs false

attribute [local go_sem high] eqA42
/-! ### impl_groupNumbers: function 164 -/
mutual
def impl_groupNumbers.l0:Nat→List Int→Int→Int→Int→Int→List (S42)→Option (List Int)
 | 0,_,_,_,_,_,_=>none
 | k + 1,x3,x17,x18,x497000,x497001,x497002=>if x18 < x17 then (if 0 ≤ x18 then (if x18 < (x3.length:Int) then (impl_groupNumbers.l0 k (x3.set (x18:Int).toNat (-1)) x17 (wrap64 (x18 + 1)) x497000 x497001 x497002) else (none)) else (none)) else (impl_groupNumbers.l1 k x3 0 x497002 (x497002.length:Int) 0 x497000 x497001 x497002)
def impl_groupNumbers.l1:Nat→List Int→Int→List (S42)→Int→Int→Int→Int→List (S42)→Option (List Int)
 | 0,_,_,_,_,_,_,_,_=>none
 | k + 1,x3,x5,x26,x27,x28,x497000,x497001,x497002=>if x28 < x27 then (if 0 ≤ x28 then (if x28 < (x26.length:Int) then ((impl_isGeared.f ((rd_T42 x26 x28).f0) ((rd_T42 x26 x28).f1)).bind fun t503=>(if t503 = true then (if x28 < (x3.length:Int) then (impl_groupNumbers.j2 k x3 x5 x28 x26 x27 x28 (decide ((rd x3 x28) ≥ 0)) x497000 x497001 x497002) else (none)) else (impl_groupNumbers.j2 k x3 x5 x28 x26 x27 x28 true x497000 x497001 x497002))) else (none)) else (none)) else (some x3)
def impl_groupNumbers.j2:Nat→List Int→Int→Int→List (S42)→Int→Int→Bool→Int→Int→List (S42)→Option (List Int)
 | 0,_,_,_,_,_,_,_,_,_,_=>none
 | k + 1,x3,x5,x6,x26,x27,x28,x42,x497000,x497001,x497002=>if x42 = true then (impl_groupNumbers.l1 k x3 x5 x26 x27 (wrap64 (x28 + 1)) x497000 x497001 x497002) else (if 0 ≤ x6 then (if x6 < (x3.length:Int) then (impl_groupNumbers.l2 k (x3.set (x6:Int).toNat x5) x5 (([x6]:List Int)) x26 x27 x28 x497000 x497001 x497002) else (none)) else (none))
def impl_groupNumbers.l2:Nat→List Int→Int→List Int→List (S42)→Int→Int→Int→Int→List (S42)→Option (List Int)
 | 0,_,_,_,_,_,_,_,_,_=>none
 | k + 1,x3,x5,x8,x26,x27,x28,x497000,x497001,x497002=>if (x8.length:Int) > 0 then (if 0 < (x8.length:Int) then (if 1 ≤ (x8.length:Int) then ((impl_besideOf.f k x497000 x497001 x497002 (rd x8 0)).bind fun t513=>(impl_groupNumbers.l3 k x3 x5 (x8.drop (1:Int).toNat) x26 x27 x28 t513 (t513.length:Int) 0 x497000 x497001 x497002)) else (none)) else (none)) else (impl_groupNumbers.l1 k x3 (wrap64 (x5 + 1)) x26 x27 (wrap64 (x28 + 1)) x497000 x497001 x497002)
def impl_groupNumbers.l3:Nat→List Int→Int→List Int→List (S42)→Int→Int→List Int→Int→Int→Int→Int→List (S42)→Option (List Int)
 | 0,_,_,_,_,_,_,_,_,_,_,_,_=>none
 | k + 1,x3,x5,x8,x26,x27,x28,x59,x60,x61,x497000,x497001,x497002=>if x61 < x60 then (if 0 ≤ x61 then (if x61 < (x59.length:Int) then (if 0 ≤ (rd x59 x61) then (if (rd x59 x61) < (x497002.length:Int) then ((impl_isGeared.f ((rd_T42 x497002 (rd x59 x61)).f0) ((rd_T42 x497002 (rd x59 x61)).f1)).bind fun t518=>(if t518 = true then (if (rd x59 x61) < (x3.length:Int) then (if (rd x3 (rd x59 x61)) < 0 then (if x8.length < 17592186044416 then (impl_groupNumbers.l3 k (x3.set ((rd x59 x61):Int).toNat x5) x5 (x8 ++ [rd x59 x61]) x26 x27 x28 x59 x60 (wrap64 (x61 + 1)) x497000 x497001 x497002) else (none)) else (impl_groupNumbers.l3 k x3 x5 x8 x26 x27 x28 x59 x60 (wrap64 (x61 + 1)) x497000 x497001 x497002)) else (none)) else (impl_groupNumbers.l3 k x3 x5 x8 x26 x27 x28 x59 x60 (wrap64 (x61 + 1)) x497000 x497001 x497002))) else (none)) else (none)) else (none)) else (none)) else (impl_groupNumbers.l2 k x3 x5 x8 x26 x27 x28 x497000 x497001 x497002)
end
def impl_groupNumbers.f (k:Nat) (a0_0:Int) (a0_1:Int) (l0_2:List (S42)):Option (List Int):=if 0 ≤ (l0_2.length:Int) then (if ((l0_2.length:Int):Int).toNat ≤ 35184372088832 then ((some (List.replicate ((l0_2.length:Int):Int).toNat 0:List Int)).bind fun y497=>(impl_groupNumbers.l0 k y497 (y497.length:Int) 0 a0_0 a0_1 l0_2)) else (none)) else (none)
theorem impl_groupNumbers.calls (k:Nat) (a0_0:Int) (a0_1:Int) (A0_2:Option Addr) (c0_2:Nat) (l0_2:List (S42)) (r:List Int) (w:World) (hr0_2:Kd.C k42 w A0_2 l0_2.length l0_2) (hc0_2:l0_2.length ≤ c0_2) (h:impl_groupNumbers.f k a0_0 a0_1 l0_2 = some r) :
  Calls Try.prog 164 #[.agg #[.int .i64 a0_0,.int .i64 a0_1,.slice A0_2 l0_2.length c0_2]] w fun e w'=>∃ v0_:Value,e = .returned (v0_)∧Kd.R (Kd.int .i64) 3 w' w.heap.size (fun _=>True) v0_ r∧Below w.heap.size w w':=by
 have HR0_2:=Aside0.mk hr0_2;have HC0_2:=Aside0.mk hc0_2;clear hr0_2 hc0_2;have HB:=Aside0.mk (Below.refl w.heap.size w);have H:(if 0 ≤ (l0_2.length:Int) then (if ((l0_2.length:Int):Int).toNat ≤ 35184372088832 then ((some (List.replicate ((l0_2.length:Int):Int).toNat 0:List Int)).bind fun y497=>(impl_groupNumbers.l0 k y497 (y497.length:Int) 0 a0_0 a0_1 l0_2)) else (none)) else (none)) = some r:=h;clear h;replace H:=np_ H;obtain ⟨c2,H⟩:=H;have c2b0:=eq_true c2;have c2b1:decide (0 ≤ (l0_2.length:Int)) = true:=decide_eq_true c2;clear c2;replace H:=np_ H;obtain ⟨c3,H⟩:=H;have c3b0:=eq_true c3;have c3b1:decide (((l0_2.length:Int):Int).toNat ≤ 35184372088832) = true:=decide_eq_true c3;clear c3;obtain ⟨y497,hy497⟩:∃ y_:List Int,y_ = (List.replicate ((l0_2.length:Int):Int).toNat 0):=⟨_,rfl⟩
 replace H:(impl_groupNumbers.l0 k y497 (y497.length:Int) 0 a0_0 a0_1 l0_2) = some r:=by first | (rw [hy497];with_reducible exact H) | (have H2_:=(Option.bind_some _ _).symm.trans H;rw [hy497];with_reducible exact H2_) | (have H2_:=(Option.bind_some _ _).symm.trans H;with_reducible exact H2_) | with_reducible exact H | (rw [hy497];exact H) | exact H
 have Ny497:=Aside0.mk hy497;clear hy497;have H':=Aside0.mk H;clear H;go_enter Try.func164,Try.ntmps164;go_wp2_with (first | ((with_reducible refine gate_dst (N:=1) rfl ?_);refine box_event ?hg (N:=1) ?hd (cs:=#[.int .i64 a0_0,.int .i64 a0_1,.slice A0_2 l0_2.length c0_2]) (t:=30) ?hr ?_;(case hd=>rfl);(case hg=>rfl);(case hr=>first | (go_simp;done) | (go_simp;rfl));intro gb496 hg w4 hbox hb;refine ev4 (bs HB hb) (hbox) (gle hg HB) (gle hg HB) ?_;clear HB;intro HB BK496 GW496 GE496;clear hb hbox hg;obtain ⟨hcz5_0,hcz5_1,hcz5_2,hfz5_0,hfz5_1,hfz5_2⟩:=bt3 BK496) | ((with_reducible refine gate_dst (N:=15) rfl ?_);refine Kd.R_make (Kd.int .i64) _ 3 rfl (N:=15) rfl 25 _ _ rfl (l0_2.length:Int) rfl rfl Try.underlying25 (.int .i64 0) 8 info3 rfl (by decide) (by omega) 0 (ok:=fun _=>True) (okp:=fun _=>True) rfl (fun _ hk=>hk) trivial (of_decide_eq_true (by first | (with_reducible assumption) | assumption)) (Nat.le_trans (Nat.mul_le_mul_right _ (of_decide_eq_true (by first | (with_reducible assumption) | assumption):(l0_2.length:Int).toNat ≤ 35184372088832)) (by omega)) (Below.refl _ _) (Nat.le_refl _) ?_;intro v498 w6 ho7 hb hg_ hnew_;clear hg_ hnew_;(first | rw [← Ny497.out] at ho7 | (simp only [Int.reduceToNat] at ho7;rw [← Ny497.out] at ho7));refine ev3 (Kd.R_lower ho7 (below_size (bm HB))) (kb BK496 hb) (bs HB hb) ?_;clear BK496 HB;intro HO499 BK496 HB;clear hb ho7;obtain ⟨Ao8,co8,eo8⟩:=Kd.R_slice HO499.out;subst eo8))
 go_loopg [18] k (fun kq v18 w'=>∃ (x3_1:List Int) (x18_1:Int),v18 = .int .i64 x18_1∧Aside0 (impl_groupNumbers.l0 kq x3_1 (y497.length:Int) x18_1 a0_0 a0_1 l0_2 = some r)∧Aside0 (kq ≤ k)∧Aside0 (Kd.R (Kd.int .i64) 3 w' w.heap.size (fun _=>True) (.slice Ao8 y497.length co8) x3_1)∧Aside0 (w'.heap[gb496]? = some (.cells #[.int .i64 a0_0,.int .i64 a0_1,(.slice A0_2 l0_2.length c0_2)] 30 (0,0)))∧Aside0 (Below w.heap.size w w'))
 case atStart=>exact ⟨(y497),(0),(by first | rfl | (simp;done) | (simp [*];done)),H',⟨Nat.le_refl _⟩,⟨Kd.R_mv HO499.out⟩,⟨km_ BK496⟩,⟨bm HB⟩⟩
 case round =>
  clear H';(try clear c1);(try clear c2);(try clear c2b0);(try clear c2b1);(try clear p2);(try clear c3);(try clear c3b0);(try clear c3b1);(try clear hcz5_0 hcz5_1 hcz5_2 hfz5_0 hfz5_1 hfz5_2);obtain ⟨x3_1,x18_1,rfl,HA,HK1,HO_3,BK496,HB⟩:=hrel;have hl3_1:=(Kd.R_reads' HO_3.out).1;rw [hl3_1] at HO_3;(try simp only [hl3_1])
  (try simp only [hl3_1] at BK496)
  cases gk with
  | zero=>exact absurd HA.out (by simp [impl_groupNumbers.l0])
  | succ k1 =>
   have H:=HA.out;clear HA;simp only [impl_groupNumbers.l0] at H;by_cases c9:x18_1 < (y497.length:Int)
   ·rw [if_pos c9] at H;have c9b0:decide (x18_1 < (y497.length:Int)) = true:=decide_eq_true c9;(try simp only [hl3_1] at c9b0)
    clear c9;replace H:=np_ H;obtain ⟨c10,H⟩:=H;have c10b0:decide (0 ≤ x18_1) = true:=decide_eq_true c10;clear c10;replace H:=np_ H;obtain ⟨c11,H⟩:=H;have c11b0:decide (x18_1 < (x3_1.length:Int)) = true:=decide_eq_true c11;(try simp only [hl3_1] at c11b0)
    clear c11;obtain ⟨y500,hy500⟩:∃ y_:List Int,y_ = (x3_1.set (x18_1:Int).toNat (-1)):=⟨_,rfl⟩
    replace H:(impl_groupNumbers.l0 k1 y500 (y497.length:Int) (wrap64 (x18_1 + 1)) a0_0 a0_1 l0_2) = some r:=by first | (rw [hy500];with_reducible exact H) | (have H2_:=(Option.bind_some _ _).symm.trans H;rw [hy500];with_reducible exact H2_) | (have H2_:=(Option.bind_some _ _).symm.trans H;with_reducible exact H2_) | with_reducible exact H | (rw [hy500];exact H) | exact H
    have Ny500:=Aside0.mk hy500;clear hy500;have H':=Aside0.mk H;clear H;have p12:0 ≤ (x18_1:Int):=of_decide_eq_true (by first | (with_reducible assumption) | assumption);have q12:(x18_1:Int) < ((x3_1.length:Int):Int):=of_decide_eq_true (by first | (with_reducible assumption) | assumption);obtain ⟨go12,co12,eo12,gb12,gl12,cl12,HG12⟩:=Kd.R_form HO_3.out (by omega);(first | cases eo12 | (injection eo12 with ea_ en_ ec_;(first | subst ea_ | (injection ea_ with ea_;subst ea_));subst ec_;clear en_))
    have GB12:=Aside0.mk gb12;have GG12:=Aside0.mk HG12;clear gb12 gl12 HG12;obtain ⟨hx12_0,hf12_0⟩:=Kd.R_celln 0 HO_3.out (x18_1:Int) p12 q12;replace p12:=eq_true p12;replace q12:=eq_true q12;have HP13:=Kd.R_putg HO_3.out (x18_1:Int) (-1);go_wp2_with (first | ((with_reducible refine gate_store (t:=3) (p:=23) rfl ?_);refine store_event (t:=3) (p:=23) (v:=?vo_w14) (w1:=(wr.setCell ⟨go12,(x18_1:Int).toNat,none⟩ (.int .i64 (-1)))) ?hg ?ho ?hn ?hr ?_;(case ho=>rfl);(case hg=>rfl);(case hn=>rfl);(case hr=>first | (go_simp;done) | (go_simp;rfl));intro w14 hw;have hg:wr.grownBy w14 (some go12):=(by rw [hw];exact HP13.2);have hp_:Kd.R (Kd.int .i64) 3 w14 w.heap.size (fun _=>True) (.slice (some ⟨go12,0,none⟩) x3_1.length co8) y500:=(by rw [hw,Ny500.out];exact HP13.1);clear HP13;refine ev3 (hp_) (blk_grown (km_ BK496) hg (Kd.R_ne HO_3.out BK496.out (by decide))) ((by rw [hw];exact below_set (HB.out) GB12.out:Below w.heap.size w w14)) ?_;clear HO_3 BK496 HB;intro HO_3 BK496 HB;clear hg hw hp_))
    (try simp only [← hl3_1])
    go_roundg k1
    case measure=>have:=HK1.out;omega
    case rel=>exact ⟨(y500),(wrap64 (x18_1 + 1)),(by first | rfl | (simp;done) | (simp [*];done)),H',⟨by have:=HK1.out;omega⟩,⟨by (try simp only [hl3_1]);exact Kd.R_mv HO_3.out⟩,⟨by (try simp only [hl3_1]);exact km_ BK496⟩,⟨bm HB⟩⟩
   ·rw [if_neg c9] at H;have c9b0:decide (x18_1 < (y497.length:Int)) = false:=decide_eq_false c9;(try simp only [hl3_1] at c9b0)
    clear c9;have H':=Aside0.mk H;clear H;obtain ⟨hcz15_0,hcz15_1,hcz15_2,hfz15_0,hfz15_1,hfz15_2⟩:=bt3 BK496;go_wp2;go_loopg [5,28] k1 (fun kq v5 v28 w'=>∃ (x3_2:List Int) (x5_2:Int) (x28_2:Int),v5 = .int .i64 x5_2∧v28 = .int .i64 x28_2∧Aside0 (impl_groupNumbers.l1 kq x3_2 x5_2 l0_2 (l0_2.length:Int) x28_2 a0_0 a0_1 l0_2 = some r)∧Aside0 (kq ≤ k1)∧Aside0 (Kd.R (Kd.int .i64) 3 w' w.heap.size (fun _=>True) (.slice Ao8 x3_1.length co8) x3_2)∧Aside0 (w'.heap[gb496]? = some (.cells #[.int .i64 a0_0,.int .i64 a0_1,(.slice A0_2 l0_2.length c0_2)] 30 (0,0)))∧Aside0 (Below w.heap.size w w'))
    case atStart=>exact ⟨(x3_1),(0),(0),(by first | rfl | (simp;done) | (simp [*];done)),(by first | rfl | (simp;done) | (simp [*];done)),H',⟨Nat.le_refl _⟩,⟨by (try simp only [hl3_1]);exact Kd.R_mv HO_3.out⟩,⟨by (try simp only [hl3_1]);exact km_ BK496⟩,⟨bm HB⟩⟩
    case round =>
     clear H';(try clear c1);(try clear c2);(try clear c2b0);(try clear c2b1);(try clear p2);(try clear c3);(try clear c3b0);(try clear c3b1);(try clear c9);(try clear c9b0);(try clear hcz15_0 hcz15_1 hcz15_2 hfz15_0 hfz15_1 hfz15_2);(try clear hcz5_0 hcz5_1 hcz5_2 hfz5_0 hfz5_1 hfz5_2);(try clear p2);obtain ⟨x3_2,x5_2,x28_2,rfl,rfl,HA,HK2,HO_3,BK496,HB⟩:=hrel;have hl3_2:=(Kd.R_reads' HO_3.out).1;rw [hl3_2] at HO_3;(try simp only [hl3_2])
     (try simp only [hl3_2] at BK496)
     cases gk with
     | zero=>exact absurd HA.out (by simp [impl_groupNumbers.l1])
     | succ k2 =>
      have H:=HA.out;clear HA;simp only [impl_groupNumbers.l1] at H;by_cases c16:x28_2 < (l0_2.length:Int)
      ·rw [if_pos c16] at H;have c16b0:decide (x28_2 < (l0_2.length:Int)) = true:=decide_eq_true c16;(try simp only [hl3_1] at c16b0)
       (try simp only [hl3_2] at c16b0)
       clear c16;replace H:=np_ H;obtain ⟨c17,H⟩:=H;have c17b0:decide (0 ≤ x28_2) = true:=decide_eq_true c17;clear c17;replace H:=np_ H;obtain ⟨c18,H⟩:=H;have c18b0:decide (x28_2 < (l0_2.length:Int)) = true:=decide_eq_true c18;(try simp only [hl3_1] at c18b0)
       (try simp only [hl3_2] at c18b0)
       clear c18;have HC19:=Aside0.mk H;clear H;have p501:0 ≤ (x28_2:Int):=of_decide_eq_true (by first | (with_reducible assumption) | assumption);have q501:x28_2 < (l0_2.length:Int):=of_decide_eq_true (by first | (with_reducible assumption) | assumption);obtain ⟨ad501,e501,hx501_0,hx501_1⟩:=at_T42 HR0_2.out x28_2 p501 q501;cases e501;replace hx501_0:=(HB.out.cell (World.block_lt_of_cell? w _ hx501_0)).trans hx501_0;replace hx501_1:=(HB.out.cell (World.block_lt_of_cell? w _ hx501_1)).trans hx501_1;replace p501:=eq_true p501;replace q501:=eq_true q501;go_upto_region 11 with (first | ((with_reducible refine gate_dst (N:=7) rfl ?_);refine box_event ?hg (N:=7) ?hd (cs:=#[.int .i64 0,.int .i64 0]) (t:=42) ?hr ?_;(case hd=>rfl);(case hg=>rfl);(case hr=>first | (go_simp;done) | (go_simp;rfl));intro gb502 hg w20 hbox hb;refine ev8 (Kd.R_below (Kd.R_mv HO_3.out) hb) (kb BK496 hb) (bs HB hb) (hbox) (gle hg HB) (gle hg HB) (gnf hg BK496) (gne hg BK496) ?_;clear HO_3 BK496 HB;intro HO_3 BK496 HB BK502 GW502 GE502 NB496_502 NB502_496;clear hb hbox hg;have hnb21:=NB502_496.out;have hnc21:=NB496_502.out;obtain ⟨hcz22_0,hcz22_1,hfz22_0,hfz22_1⟩:=bt2 BK502))
       (try simp only [Act.put,za_,zb_,zc_])
       go_cut [42] (fun v42 wc=>∃ (kq:Nat) (x42_18:Bool),v42 = .bool x42_18∧Aside0 (impl_groupNumbers.j2 kq x3_2 x5_2 x28_2 l0_2 (l0_2.length:Int) x28_2 x42_18 a0_0 a0_1 l0_2 = some r)∧Aside0 (kq ≤ k2)∧Aside0 (Kd.R (Kd.int .i64) 3 wc w.heap.size (fun _=>True) (.slice Ao8 x3_2.length co8) x3_2)∧Aside0 (wc.heap[gb496]? = some (.cells #[.int .i64 a0_0,.int .i64 a0_1,(.slice (some ad501) l0_2.length c0_2)] 30 (0,0)))∧Aside0 (wc.heap[gb502]? = some (.cells #[.int .i64 ((rd_T42 l0_2 x28_2).f0),.int .i64 ((rd_T42 l0_2 x28_2).f1)] 42 (0,0)))∧Aside0 (Below w.heap.size w wc))
       case first =>
        have H:=HC19.out;clear HC19;replace H:=Option.bind_eq_some_iff.mp H;obtain ⟨t503,A230,H⟩:=H;(try dsimp only at H)
        have A23:=Aside0.mk A230;clear A230;by_cases c24:t503 = true
        ·subst c24;have H1:(if x28_2 < (x3_2.length:Int) then (impl_groupNumbers.j2 k2 x3_2 x5_2 x28_2 l0_2 (l0_2.length:Int) x28_2 (decide ((rd x3_2 x28_2) ≥ 0)) a0_0 a0_1 l0_2) else (none)) = some r:=by rw [if_pos rfl] at H;exact H
         clear H;have H:=H1;clear H1;replace H:=np_ H;obtain ⟨c25,H⟩:=H;have c25b0:decide (x28_2 < (x3_2.length:Int)) = true:=decide_eq_true c25;(try simp only [hl3_1] at c25b0)
         (try simp only [hl3_2] at c25b0)
         clear c25;(first | rw [c25b0] | (simp only [i64_w,i32_w];rw [c25b0]) | skip)
         have H':=Aside0.mk H;clear H;have hnb26:=NB502_496.out;have hnc26:=NB496_502.out;obtain ⟨hcz27_0,hcz27_1,hfz27_0,hfz27_1⟩:=bt2 BK502;go_wp2_with (first | ((with_reducible refine gate_callee (f:=206) rfl ?_);refine gL_ (some 34) Try.func206 #[.agg #[.int .i64 ((rd_T42 l0_2 x28_2).f0),.int .i64 ((rd_T42 l0_2 x28_2).f1)]] (h:=?_);(with_reducible refine (impl_isGeared.calls ((rd_T42 l0_2 x28_2).f0) ((rd_T42 l0_2 x28_2).f1) true _ A23.out).mono ?_);rintro e w28 ⟨rfl,hb⟩;refine ⟨_,rfl,?_⟩;refine ev4 (Kd.R_below (Kd.R_ft HO_3.out BK502.out (by decide)) hb) (blk_below (g:=gb496) (o:=.cells #[.int .i64 a0_0,.int .i64 a0_1,.slice (some ad501) l0_2.length c0_2] 30 (0,0)) (fp BK496 rfl) hb) (blk_below (g:=gb502) (o:=.cells #[.int .i64 ((rd_T42 l0_2 x28_2).f0),.int .i64 ((rd_T42 l0_2 x28_2).f1)] 42 (0,0)) (fp BK502 rfl) hb) (bs HB hb) ?_;clear HO_3 BK496 BK502 HB;intro HO_3 BK496 BK502 HB;(try clear hb);have p504:0 ≤ (x28_2:Int):=of_decide_eq_true (by first | (with_reducible assumption) | assumption);have q504:x28_2 < (x3_2.length:Int):=of_decide_eq_true (by first | (with_reducible assumption) | assumption);obtain ⟨ad504,e504,hx504_0⟩:=Kd.at_int (Kd.R_reads' HO_3.out).2.2 x28_2 p504 q504;cases e504;replace p504:=eq_true p504;replace q504:=eq_true q504))
         go_meet
         case rel=>exact ⟨_,(decide ((rd x3_2 x28_2) ≥ 0)),(by first | rfl | (simp;done) | (simp [*];done)),H',⟨by have:=HK1.out;have:=HK2.out;first | omega | exact Nat.le_refl _⟩,⟨by (try simp only [hl3_1]);(try simp only [hl3_2]);exact Kd.R_mv HO_3.out⟩,⟨by (try simp only [hl3_1]);(try simp only [hl3_2]);exact km_ BK496⟩,⟨by (try simp only [hl3_1]);(try simp only [hl3_2]);exact km_ BK502⟩,⟨bm HB⟩⟩
        ·replace c24:=Bool.eq_false_iff.mpr c24;subst c24;have H1:(impl_groupNumbers.j2 k2 x3_2 x5_2 x28_2 l0_2 (l0_2.length:Int) x28_2 true a0_0 a0_1 l0_2) = some r:=by rw [if_neg (show ¬ (false = true) by decide)] at H;exact H
         clear H;have H:=H1;clear H1;have H':=Aside0.mk H;clear H;have hnb29:=NB502_496.out;have hnc29:=NB496_502.out;obtain ⟨hcz30_0,hcz30_1,hfz30_0,hfz30_1⟩:=bt2 BK502;go_wp2_with (first | ((with_reducible refine gate_callee (f:=206) rfl ?_);refine gL_ (some 34) Try.func206 #[.agg #[.int .i64 ((rd_T42 l0_2 x28_2).f0),.int .i64 ((rd_T42 l0_2 x28_2).f1)]] (h:=?_);(with_reducible refine (impl_isGeared.calls ((rd_T42 l0_2 x28_2).f0) ((rd_T42 l0_2 x28_2).f1) false _ A23.out).mono ?_);rintro e w31 ⟨rfl,hb⟩;refine ⟨_,rfl,?_⟩;refine ev4 (Kd.R_below (Kd.R_ft HO_3.out BK502.out (by decide)) hb) (blk_below (g:=gb496) (o:=.cells #[.int .i64 a0_0,.int .i64 a0_1,.slice (some ad501) l0_2.length c0_2] 30 (0,0)) (fp BK496 rfl) hb) (blk_below (g:=gb502) (o:=.cells #[.int .i64 ((rd_T42 l0_2 x28_2).f0),.int .i64 ((rd_T42 l0_2 x28_2).f1)] 42 (0,0)) (fp BK502 rfl) hb) (bs HB hb) ?_;clear HO_3 BK496 BK502 HB;intro HO_3 BK496 BK502 HB;(try clear hb)))
         go_meet
         case rel=>exact ⟨_,(true),(by first | rfl | (simp;done) | (simp [*];done)),H',⟨by have:=HK1.out;have:=HK2.out;first | omega | exact Nat.le_refl _⟩,⟨by (try simp only [hl3_1]);(try simp only [hl3_2]);exact Kd.R_mv HO_3.out⟩,⟨by (try simp only [hl3_1]);(try simp only [hl3_2]);exact km_ BK496⟩,⟨by (try simp only [hl3_1]);(try simp only [hl3_2]);exact km_ BK502⟩,⟨bm HB⟩⟩
       case rest =>
        clear HC19;(try clear c1);(try clear c2);(try clear c2b0);(try clear c2b1);(try clear p2);(try clear c3);(try clear c3b0);(try clear c3b1);(try clear p5);(try clear q5);(try clear hx5);(try clear c9);(try clear c9b0);(try clear c16);(try clear c16b0);(try clear c17);(try clear c17b0);(try clear c18);(try clear c18b0);(try clear c21);(try clear hcz15_0 hcz15_1 hcz15_2 hfz15_0 hfz15_1 hfz15_2);(try clear hcz22_0 hcz22_1 hfz22_0 hfz22_1);(try clear hcz5_0 hcz5_1 hcz5_2 hfz5_0 hfz5_1 hfz5_2);(try clear hx501_0);(try clear hx501_1);(try clear p2);(try clear p501);(try clear q501);obtain ⟨kq,x42_18,rfl,HA,HJ18,HO_3,BK496,BK502,HB⟩:=hcut;cases kq with
        | zero=>exact absurd HA.out (by simp [impl_groupNumbers.j2])
        | succ kj18 =>
         have H:=HA.out;clear HA;simp only [impl_groupNumbers.j2] at H;by_cases c32:x42_18 = true
         ·subst c32;have H1:(impl_groupNumbers.l1 kj18 x3_2 x5_2 l0_2 (l0_2.length:Int) (wrap64 (x28_2 + 1)) a0_0 a0_1 l0_2) = some r:=by rw [if_pos rfl] at H;exact H
          clear H;have H:=H1;clear H1;have H':=Aside0.mk H;clear H;go_wp2;(try simp only [← hl3_2])
          go_roundg kj18
          case measure=>have:=HK1.out;have:=HK2.out;have:=HJ18.out;omega
          case rel=>exact ⟨(x3_2),(x5_2),(wrap64 (x28_2 + 1)),(by first | rfl | (simp;done) | (simp [*];done)),(by first | rfl | (simp;done) | (simp [*];done)),H',⟨by have:=HK1.out;have:=HK2.out;have:=HJ18.out;omega⟩,⟨by (try simp only [hl3_1]);(try simp only [hl3_2]);exact Kd.R_mv HO_3.out⟩,⟨by (try simp only [hl3_1]);(try simp only [hl3_2]);exact km_ BK496⟩,⟨bm HB⟩⟩
         ·replace c32:=Bool.eq_false_iff.mpr c32;subst c32;have H1:(if 0 ≤ x28_2 then (if x28_2 < (x3_2.length:Int) then (impl_groupNumbers.l2 kj18 (x3_2.set (x28_2:Int).toNat x5_2) x5_2 (([x28_2]:List Int)) l0_2 (l0_2.length:Int) x28_2 a0_0 a0_1 l0_2) else (none)) else (none)) = some r:=by rw [if_neg (show ¬ (false = true) by decide)] at H;exact H
          clear H;have H:=H1;clear H1;replace H:=np_ H;obtain ⟨c33,H⟩:=H;have c33b0:decide (0 ≤ x28_2) = true:=decide_eq_true c33;clear c33;replace H:=np_ H;obtain ⟨c34,H⟩:=H;have c34b0:decide (x28_2 < (x3_2.length:Int)) = true:=decide_eq_true c34;(try simp only [hl3_1] at c34b0)
          (try simp only [hl3_2] at c34b0)
          clear c34;obtain ⟨y505,hy505⟩:∃ y_:List Int,y_ = (x3_2.set (x28_2:Int).toNat x5_2):=⟨_,rfl⟩
          replace H:(impl_groupNumbers.l2 kj18 y505 x5_2 (([x28_2]:List Int)) l0_2 (l0_2.length:Int) x28_2 a0_0 a0_1 l0_2) = some r:=by first | (rw [hy505];with_reducible exact H) | (have H2_:=(Option.bind_some _ _).symm.trans H;rw [hy505];with_reducible exact H2_) | (have H2_:=(Option.bind_some _ _).symm.trans H;with_reducible exact H2_) | with_reducible exact H | (rw [hy505];exact H) | exact H
          have Ny505:=Aside0.mk hy505;clear hy505;obtain ⟨y506,hy506⟩:∃ y_:List Int,y_ = (([x28_2]:List Int)):=⟨_,rfl⟩
          replace H:(impl_groupNumbers.l2 kj18 y505 x5_2 y506 l0_2 (l0_2.length:Int) x28_2 a0_0 a0_1 l0_2) = some r:=by first | (rw [hy506];with_reducible exact H) | (have H2_:=(Option.bind_some _ _).symm.trans H;rw [hy506];with_reducible exact H2_) | (have H2_:=(Option.bind_some _ _).symm.trans H;with_reducible exact H2_) | with_reducible exact H | (rw [hy506];exact H) | exact H
          have Ny506:=Aside0.mk hy506;clear hy506;have H':=Aside0.mk H;clear H;have p35:0 ≤ (x28_2:Int):=of_decide_eq_true (by first | (with_reducible assumption) | assumption);have q35:(x28_2:Int) < ((x3_2.length:Int):Int):=of_decide_eq_true (by first | (with_reducible assumption) | assumption);obtain ⟨go35,co35,eo35,gb35,gl35,cl35,HG35⟩:=Kd.R_form HO_3.out (by omega);(first | cases eo35 | (injection eo35 with ea_ en_ ec_;(first | subst ea_ | (injection ea_ with ea_;subst ea_));subst ec_;clear en_))
          have GB35:=Aside0.mk gb35;have GG35:=Aside0.mk HG35;clear gb35 gl35 HG35;obtain ⟨hx35_0,hf35_0⟩:=Kd.R_celln 0 HO_3.out (x28_2:Int) p35 q35;replace p35:=eq_true p35;replace q35:=eq_true q35;have HP36:=Kd.R_putg HO_3.out (x28_2:Int) x5_2;go_wp2_with (first | ((with_reducible refine gate_store (t:=3) (p:=46) rfl ?_);refine store_event (t:=3) (p:=46) (v:=?vo_w37) (w1:=(wc.setCell ⟨go35,(x28_2:Int).toNat,none⟩ (.int .i64 x5_2))) ?hg ?ho ?hn ?hr ?_;(case ho=>rfl);(case hg=>rfl);(case hn=>rfl);(case hr=>first | (go_simp;done) | (go_simp;rfl));intro w37 hw;have hg:wc.grownBy w37 (some go35):=(by rw [hw];exact HP36.2);have hp_:Kd.R (Kd.int .i64) 3 w37 w.heap.size (fun _=>True) (.slice (some ⟨go35,0,none⟩) x3_2.length co8) y505:=(by rw [hw,Ny505.out];exact HP36.1);clear HP36;refine ev4 (hp_) (blk_grown (km_ BK496) hg (Kd.R_ne HO_3.out BK496.out (by decide))) (blk_grown (km_ BK502) hg (Kd.R_ne HO_3.out BK502.out (by decide))) ((by rw [hw];exact below_set (HB.out) GB35.out:Below w.heap.size w w37)) ?_;clear HO_3 BK496 BK502 HB;intro HO_3 BK496 BK502 HB;clear hg hw hp_) | ((with_reducible refine gate_dst (N:=48) rfl ?_);refine Kd.R_lit (Kd.int .i64) _ 3 ?hg (N:=48) ?hd (xs:=([x28_2]:List Int)) (inner:=[.int .i64 x28_2]) (ok:=fun _=>True) (okp:=fun _=>True) ?hr ?hp (fun _ hk=>hk) trivial (Below.refl _ _) (Nat.le_refl _) (by simp) ?_;(case hd=>rfl);(case hg=>rfl);(case hr=>first | (go_simp;done) | (go_simp;rfl));(case hp=>exact (Reps.one (show Kd.M (Kd.int .i64) _ _ _ x28_2 [.int .i64 x28_2] from rfl) (Reps.none _ _)));intro v507 w38 ho39 hb hg_ hnew_;clear hg_ hnew_;(first | rw [← Ny506.out] at ho39 | (simp only [Int.reduceToNat] at ho39;rw [← Ny506.out] at ho39));refine ev5 (Kd.R_elder' (Kd.R_mv HO_3.out) (Kd.R_base ho39) hb) (Kd.R_lower (Kd.R_new' ho39 (Kd.R_lt (Kd.R_mv HO_3.out))) (below_size (bm HB))) (kb BK496 hb) (kb BK502 hb) (bs HB hb) ?_;clear HO_3 BK496 BK502 HB;intro HO_3 HO508 BK496 BK502 HB;clear hb ho39))
          go_loopg [8] kj18 (fun kq v8 w'=>∃ (x3_4:List Int) (x8_4:List Int),Aside0 (impl_groupNumbers.l2 kq x3_4 x5_2 x8_4 l0_2 (l0_2.length:Int) x28_2 a0_0 a0_1 l0_2 = some r)∧Aside0 (kq ≤ kj18)∧Aside0 (Kd.R (Kd.int .i64) 3 w' w.heap.size (fun k_=>some k_ ≠ (v8:Value).ownBlock) (.slice (some ⟨go35,0,none⟩) x3_2.length co8) x3_4)∧Aside0 (Kd.Q (Kd.int .i64) 3 w' w.heap.size (fun k_=>some k_ ≠ ((.slice (some ⟨go35,0,none⟩) x3_2.length co8):Value).ownBlock) v8 x8_4)∧Aside0 (w'.heap[gb496]? = some (.cells #[.int .i64 a0_0,.int .i64 a0_1,(.slice (some ad501) l0_2.length c0_2)] 30 (0,0)))∧Aside0 (w'.heap[gb502]? = some (.cells #[.int .i64 ((rd_T42 l0_2 x28_2).f0),.int .i64 ((rd_T42 l0_2 x28_2).f1)] 42 (0,0)))∧Aside0 (Below w.heap.size w w'))
          case atStart=>exact ⟨(y505),(y506),H',⟨Nat.le_refl _⟩,⟨by (try simp only [hl3_1]);(try simp only [hl3_2]);exact Kd.R_mv (Kd.R_mono HO_3.out (fun _ hk=>hk.2))⟩,⟨Kd.Q_of_R (by (try simp only [hl3_1]);(try simp only [hl3_2]);exact Kd.R_mv (Kd.R_mono HO508.out (fun _ hk=>hk.2)))⟩,⟨by (try simp only [hl3_1]);(try simp only [hl3_2]);exact km_ BK496⟩,⟨by (try simp only [hl3_1]);(try simp only [hl3_2]);exact km_ BK502⟩,⟨bm HB⟩⟩
          case round =>
           clear H';(try clear c1);(try clear c2);(try clear c2b0);(try clear c2b1);(try clear p2);(try clear c3);(try clear c3b0);(try clear c3b1);(try clear p3);(try clear q3);(try clear hx3);(try clear hf3);(try clear p5);(try clear q5);(try clear hx5);(try clear c9);(try clear c9b0);(try clear c16);(try clear c16b0);(try clear c17);(try clear c17b0);(try clear c18);(try clear c18b0);(try clear c21);(try clear c32);(try clear c33);(try clear c33b0);(try clear c34);(try clear c34b0);(try clear p35);(try clear q35);(try clear hx35);(try clear hf35);(try clear hcz15_0 hcz15_1 hcz15_2 hfz15_0 hfz15_1 hfz15_2);(try clear hcz22_0 hcz22_1 hfz22_0 hfz22_1);(try clear hcz5_0 hcz5_1 hcz5_2 hfz5_0 hfz5_1 hfz5_2);(try clear hx35_0);(try clear hx501_0);(try clear hx501_1);(try clear p2);(try clear p35);(try clear p5);(try clear p501);(try clear q35);(try clear q5);(try clear q501);obtain ⟨x3_4,x8_4,HA,HK4,HO_3,HO_8,BK496,BK502,HB⟩:=hrel;have hl3_4:=(Kd.R_reads' HO_3.out).1;rw [hl3_4] at HO_3;(try simp only [hl3_4])
           (try simp only [hl3_4] at BK496)
           (try simp only [hl3_4] at BK502)
           (try simp only [hl3_4] at HO_8)
           cases gk with
           | zero=>exact absurd HA.out (by simp [impl_groupNumbers.l2])
           | succ k4 =>
            have H:=HA.out;clear HA;simp only [impl_groupNumbers.l2] at H;by_cases c40:(x8_4.length:Int) > 0
            ·rw [if_pos c40] at H;have c40b0:decide (0 < (x8_4.length:Int)) = true:=decide_eq_true c40;have c40b1:decide (0 < x8_4.length) = true:=decide_eq_true (by omega);(try simp only [hl3_1] at c40b0 c40b1)
             (try simp only [hl3_2] at c40b0 c40b1)
             (try simp only [hl3_4] at c40b0 c40b1)
             clear c40;replace H:=np_ H;obtain ⟨c41,H⟩:=H;have c41b0:decide (0 < (x8_4.length:Int)) = true:=decide_eq_true c41;have c41b1:decide (0 < x8_4.length) = true:=decide_eq_true (by omega);(try simp only [hl3_1] at c41b0 c41b1)
             (try simp only [hl3_2] at c41b0 c41b1)
             (try simp only [hl3_4] at c41b0 c41b1)
             clear c41;replace H:=np_ H;obtain ⟨c42,H⟩:=H;have c42b0:=eq_true c42;have c42b1:decide (1 ≤ (x8_4.length:Int)) = true:=decide_eq_true c42;clear c42;obtain ⟨y510,hy510⟩:∃ y_:List Int,y_ = (x8_4.drop (1:Int).toNat):=⟨_,rfl⟩
             replace H:((impl_besideOf.f k4 a0_0 a0_1 l0_2 (rd x8_4 0)).bind fun t513=>(impl_groupNumbers.l3 k4 x3_4 x5_2 y510 l0_2 (l0_2.length:Int) x28_2 t513 (t513.length:Int) 0 a0_0 a0_1 l0_2)) = some r:=by first | (rw [hy510];with_reducible exact H) | (have H2_:=(Option.bind_some _ _).symm.trans H;rw [hy510];with_reducible exact H2_) | (have H2_:=(Option.bind_some _ _).symm.trans H;with_reducible exact H2_) | with_reducible exact H | (rw [hy510];exact H) | exact H
             have Ny510:=Aside0.mk hy510;clear hy510;replace H:=Option.bind_eq_some_iff.mp H;obtain ⟨t513,A430,H⟩:=H;(try dsimp only at H)
             have A43:=Aside0.mk A430;clear A430;have H':=Aside0.mk H;clear H;obtain ⟨Ao44,co44,eo44,_⟩:=Kd.Q_slice HO_8.out;subst eo44;have p509:0 ≤ (0:Int):=(by omega)
             have q509:0 < (x8_4.length:Int):=of_decide_eq_true (by first | (with_reducible assumption) | assumption);obtain ⟨ad509,e509,hx509_0⟩:=Kd.at_int (Kd.Q_reads' HO_8.out).2.2 0 p509 q509;cases e509;have qi509:(0 < x8_4.length) = True:=eq_true (by omega);(try rw [show ((0:Int)).toNat = 0 from rfl] at hx509_0)
             (try rw [Addr.add_zero'] at hx509_0)
             replace p509:=eq_true p509;replace q509:=eq_true q509;have q45:(1:Int) ≤ ((x8_4.length:Int):Int):=of_decide_eq_true (by first | (with_reducible assumption) | assumption);obtain ⟨i045,hi045,_,hsz45,_⟩:=info_parts info3;have hcut45:=cut_from (P:=Try.prog) 25 3 .i64 Try.underlying25 hi045 1 hsz45 (some ad509) x8_4.length co44 1 (by omega) q45;have hr45:=Kd.Q_drop (k:=(1:Int).toNat) HO_8.out (by omega);obtain ⟨A45,hA45⟩:∃ A1,A1 = (if co44 = (1:Int).toNat then (some ad509) else ((some ad509):Option Addr).map (·.add ((1:Int).toNat * 1))):=⟨_,rfl⟩
             obtain ⟨c45,hc45⟩:∃ c1,c1 = co44 - (1:Int).toNat:=⟨_,rfl⟩
             have hy45:y510.length = x8_4.length - (1:Int).toNat:=(by rw [Ny510.out,List.length_drop])
             rw [← Ny510.out] at hr45;rw [← hy45,← hA45,← hc45] at hcut45;replace hr45:Kd.Q (Kd.int .i64) 3 wr w.heap.size (fun k_=>some k_ ≠ (.slice (some ⟨go35,0,none⟩) x3_4.length co8:Value).ownBlock) (.slice A45 y510.length c45) y510:=(by rw [hA45,hc45,hy45];exact hr45)
             have HE45:Aside0 ((Value.slice A45 y510.length c45).ownBlock = (.slice (some ad509) x8_4.length co44:Value).ownBlock):=⟨by rw [hA45];split <;> (cases ((some ad509):Option Addr) <;> rfl)⟩
             clear hy45 hi045 hsz45 HO_8 hA45 hc45;have HO512:=Aside0.mk hr45;clear hr45;replace q45:=eq_true q45;have n_:=Aside0.mk (Kd.R_mono (ok':=fun k_=>some k_ ≠ (.slice A45 y510.length c45:Value).ownBlock) HO_3.out (fun k_ hk=>(by rw [HE45.out];exact hk)));clear HO_3;have HO_3:=n_;clear n_;have hnb46:=NB496_502.out;have hnc46:=NB502_496.out;obtain ⟨hcz47_0,hcz47_1,hcz47_2,hfz47_0,hfz47_1,hfz47_2⟩:=bt3 BK496;go_wp2_with (first | ((with_reducible refine gate_callee (f:=207) rfl ?_);refine gL_ (some 59) Try.func207 #[.agg #[.int .i64 a0_0,.int .i64 a0_1,.slice (some ad501) l0_2.length c0_2],.int .i64 (rd x8_4 0)] (h:=?_);(with_reducible refine (impl_besideOf.calls k4 a0_0 a0_1 _ _ l0_2 (rd x8_4 0) t513 _ (Kd.C_mv (Kd.C_below HR0_2.out HB.out)) HC0_2.out A43.out).mono ?_);rintro e w48 ⟨v514,rfl,ho0,hb⟩;refine ⟨_,rfl,?_⟩;refine ev6 (Kd.R_elder' (Kd.R_mv HO_3.out) (Kd.R_base ho0) hb) (Kd.Q_elder' (Kd.Q_mv HO512.out) (Kd.R_base ho0) hb) (Kd.R_lower (Kd.R_new' (Kd.R_new' ho0 (Kd.R_lt (Kd.R_mv HO_3.out))) (Kd.Q_lt (Kd.Q_mv HO512.out))) (below_size (bm HB))) (kb BK496 hb) (kb BK502 hb) (bs HB hb) ?_;clear HO_3 HO512 BK496 BK502 HB;intro HO_3 HO512 HO515 BK496 BK502 HB;(try clear hb);(try clear ho0);obtain ⟨Ao49,co49,eo49⟩:=Kd.R_slice HO515.out;subst eo49))
             go_loopg [8,61] k4 (fun kq v8 v61 w'=>∃ (x3_5:List Int) (x8_5:List Int) (x61_5:Int),v61 = .int .i64 x61_5∧Aside0 (impl_groupNumbers.l3 kq x3_5 x5_2 x8_5 l0_2 (l0_2.length:Int) x28_2 t513 (t513.length:Int) x61_5 a0_0 a0_1 l0_2 = some r)∧Aside0 (kq ≤ k4)∧Aside0 (Kd.R (Kd.int .i64) 3 w' w.heap.size (fun k_=>some k_ ≠ (v8:Value).ownBlock∧some k_ ≠ ((.slice Ao49 t513.length co49):Value).ownBlock) (.slice (some ⟨go35,0,none⟩) x3_4.length co8) x3_5)∧Aside0 (Kd.Q (Kd.int .i64) 3 w' w.heap.size (fun k_=>some k_ ≠ ((.slice (some ⟨go35,0,none⟩) x3_4.length co8):Value).ownBlock∧some k_ ≠ ((.slice Ao49 t513.length co49):Value).ownBlock) v8 x8_5)∧Aside0 (Kd.R (Kd.int .i64) 3 w' w.heap.size (fun k_=>some k_ ≠ ((.slice (some ⟨go35,0,none⟩) x3_4.length co8):Value).ownBlock∧some k_ ≠ (v8:Value).ownBlock) (.slice Ao49 t513.length co49) t513)∧Aside0 (w'.heap[gb496]? = some (.cells #[.int .i64 a0_0,.int .i64 a0_1,(.slice (some ad501) l0_2.length c0_2)] 30 (0,0)))∧Aside0 (w'.heap[gb502]? = some (.cells #[.int .i64 ((rd_T42 l0_2 x28_2).f0),.int .i64 ((rd_T42 l0_2 x28_2).f1)] 42 (0,0)))∧Aside0 (Below w.heap.size w w'))
             case atStart=>exact ⟨(x3_4),(y510),(0),(by first | rfl | (simp;done) | (simp [*];done)),H',⟨Nat.le_refl _⟩,⟨by (try simp only [hl3_1]);(try simp only [hl3_2]);(try simp only [hl3_4]);exact Kd.R_mv HO_3.out⟩,⟨by (try simp only [hl3_1]);(try simp only [hl3_2]);(try simp only [hl3_4]);exact Kd.Q_mv HO512.out⟩,⟨by (try simp only [hl3_1]);(try simp only [hl3_2]);(try simp only [hl3_4]);exact Kd.R_mv (Kd.R_mono HO515.out (fun _ hk=>⟨hk.1.2,hk.2⟩))⟩,⟨by (try simp only [hl3_1]);(try simp only [hl3_2]);(try simp only [hl3_4]);exact km_ BK496⟩,⟨by (try simp only [hl3_1]);(try simp only [hl3_2]);(try simp only [hl3_4]);exact km_ BK502⟩,⟨bm HB⟩⟩
             case round =>
              clear H';(try clear c1);(try clear c2);(try clear c2b0);(try clear c2b1);(try clear p2);(try clear c3);(try clear c3b0);(try clear c3b1);(try clear p3);(try clear q3);(try clear hx3);(try clear hf3);(try clear c4);(try clear q4);(try clear p5);(try clear q5);(try clear hx5);(try clear qi5);(try clear c9);(try clear c9b0);(try clear c16);(try clear c16b0);(try clear c17);(try clear c17b0);(try clear c18);(try clear c18b0);(try clear c20);(try clear c21);(try clear c32);(try clear c33);(try clear c33b0);(try clear c34);(try clear c34b0);(try clear p35);(try clear q35);(try clear hx35);(try clear hf35);(try clear c40);(try clear c40b0);(try clear c40b1);(try clear c41);(try clear c41b0);(try clear c41b1);(try clear c42);(try clear c42b0);(try clear c42b1);(try clear c45);(try clear q45);(try clear c46);(try clear hcz15_0 hcz15_1 hcz15_2 hfz15_0 hfz15_1 hfz15_2);(try clear hcz22_0 hcz22_1 hfz22_0 hfz22_1);(try clear hcz47_0 hcz47_1 hcz47_2 hfz47_0 hfz47_1 hfz47_2);(try clear hcz5_0 hcz5_1 hcz5_2 hfz5_0 hfz5_1 hfz5_2);(try clear hx35_0);(try clear hx501_0);(try clear hx501_1);(try clear hx509_0);(try clear p2);(try clear p3);(try clear p35);(try clear p5);(try clear p501);(try clear p509);(try clear q3);(try clear q35);(try clear q45);(try clear q5);(try clear q501);(try clear q509);obtain ⟨x3_5,x8_5,x61_5,rfl,HA,HK5,HO_3,HO_8,HO_59,BK496,BK502,HB⟩:=hrel;have hl3_5:=(Kd.R_reads' HO_3.out).1;rw [hl3_5] at HO_3;(try simp only [hl3_5])
              (try simp only [hl3_5] at BK496)
              (try simp only [hl3_5] at BK502)
              (try simp only [hl3_5] at HO_8)
              (try simp only [hl3_5] at HO_59)
              cases gk with
              | zero=>exact absurd HA.out (by simp [impl_groupNumbers.l3])
              | succ k5 =>
               have H:=HA.out;clear HA;simp only [impl_groupNumbers.l3] at H;by_cases c50:x61_5 < (t513.length:Int)
               ·rw [if_pos c50] at H;have c50b0:decide (x61_5 < (t513.length:Int)) = true:=decide_eq_true c50;(try simp only [hl3_1] at c50b0)
                (try simp only [hl3_2] at c50b0)
                (try simp only [hl3_4] at c50b0)
                (try simp only [hl3_5] at c50b0)
                clear c50;replace H:=np_ H;obtain ⟨c51,H⟩:=H;have c51b0:decide (0 ≤ x61_5) = true:=decide_eq_true c51;clear c51;replace H:=np_ H;obtain ⟨c52,H⟩:=H;have c52b0:decide (x61_5 < (t513.length:Int)) = true:=decide_eq_true c52;(try simp only [hl3_1] at c52b0)
                (try simp only [hl3_2] at c52b0)
                (try simp only [hl3_4] at c52b0)
                (try simp only [hl3_5] at c52b0)
                clear c52;replace H:=np_ H;obtain ⟨c53,H⟩:=H;have c53b0:decide (0 ≤ (rd t513 x61_5)) = true:=decide_eq_true c53;clear c53;replace H:=np_ H;obtain ⟨c54,H⟩:=H;have c54b0:decide ((rd t513 x61_5) < (l0_2.length:Int)) = true:=decide_eq_true c54;(try simp only [hl3_1] at c54b0)
                (try simp only [hl3_2] at c54b0)
                (try simp only [hl3_4] at c54b0)
                (try simp only [hl3_5] at c54b0)
                clear c54;replace H:=Option.bind_eq_some_iff.mp H;obtain ⟨t518,A550,H⟩:=H;(try dsimp only at H)
                have A55:=Aside0.mk A550;clear A550;by_cases c56:t518 = true
                ·subst c56;have H1:(if (rd t513 x61_5) < (x3_5.length:Int) then (if (rd x3_5 (rd t513 x61_5)) < 0 then (if x8_5.length < 17592186044416 then (impl_groupNumbers.l3 k5 (x3_5.set ((rd t513 x61_5):Int).toNat x5_2) x5_2 (x8_5 ++ [rd t513 x61_5]) l0_2 (l0_2.length:Int) x28_2 t513 (t513.length:Int) (wrap64 (x61_5 + 1)) a0_0 a0_1 l0_2) else (none)) else (impl_groupNumbers.l3 k5 x3_5 x5_2 x8_5 l0_2 (l0_2.length:Int) x28_2 t513 (t513.length:Int) (wrap64 (x61_5 + 1)) a0_0 a0_1 l0_2)) else (none)) = some r:=by rw [if_pos rfl] at H;exact H
                 clear H;have H:=H1;clear H1;replace H:=np_ H;obtain ⟨c57,H⟩:=H;have c57b0:decide ((rd t513 x61_5) < (x3_5.length:Int)) = true:=decide_eq_true c57;(try simp only [hl3_1] at c57b0)
                 (try simp only [hl3_2] at c57b0)
                 (try simp only [hl3_4] at c57b0)
                 (try simp only [hl3_5] at c57b0)
                 clear c57;by_cases c58:(rd x3_5 (rd t513 x61_5)) < 0
                 ·rw [if_pos c58] at H;have c58b0:decide ((rd x3_5 (rd t513 x61_5)) < 0) = true:=decide_eq_true c58;clear c58;obtain ⟨y520,hy520⟩:∃ y_:List Int,y_ = (x3_5.set ((rd t513 x61_5):Int).toNat x5_2):=⟨_,rfl⟩
                  replace H:(if x8_5.length < 17592186044416 then (impl_groupNumbers.l3 k5 y520 x5_2 (x8_5 ++ [rd t513 x61_5]) l0_2 (l0_2.length:Int) x28_2 t513 (t513.length:Int) (wrap64 (x61_5 + 1)) a0_0 a0_1 l0_2) else (none)) = some r:=by first | (rw [hy520];with_reducible exact H) | (have H2_:=(Option.bind_some _ _).symm.trans H;rw [hy520];with_reducible exact H2_) | (have H2_:=(Option.bind_some _ _).symm.trans H;with_reducible exact H2_) | with_reducible exact H | (rw [hy520];exact H) | exact H
                  have Ny520:=Aside0.mk hy520;clear hy520;replace H:=np_ H;obtain ⟨c60,H⟩:=H;have LMc60:=Aside0.mk c60;clear c60;obtain ⟨y521,hy521⟩:∃ y_:List Int,y_ = (x8_5 ++ [rd t513 x61_5]):=⟨_,rfl⟩
                  replace H:(impl_groupNumbers.l3 k5 y520 x5_2 y521 l0_2 (l0_2.length:Int) x28_2 t513 (t513.length:Int) (wrap64 (x61_5 + 1)) a0_0 a0_1 l0_2) = some r:=by first | (rw [hy521];with_reducible exact H) | (have H2_:=(Option.bind_some _ _).symm.trans H;rw [hy521];with_reducible exact H2_) | (have H2_:=(Option.bind_some _ _).symm.trans H;with_reducible exact H2_) | with_reducible exact H | (rw [hy521];exact H) | exact H
                  have Ny521:=Aside0.mk hy521;clear hy521;have H':=Aside0.mk H;clear H;have p516:0 ≤ (x61_5:Int):=of_decide_eq_true (by first | (with_reducible assumption) | assumption);have q516:x61_5 < (t513.length:Int):=of_decide_eq_true (by first | (with_reducible assumption) | assumption);obtain ⟨ad516,e516,hx516_0⟩:=Kd.at_int (Kd.R_reads' HO_59.out).2.2 x61_5 p516 q516;cases e516;replace p516:=eq_true p516;replace q516:=eq_true q516;have hnb61:=NB496_502.out;have hnc61:=NB502_496.out;obtain ⟨hcz62_0,hcz62_1,hcz62_2,hfz62_0,hfz62_1,hfz62_2⟩:=bt3 BK496;have p517:0 ≤ ((rd t513 x61_5):Int):=of_decide_eq_true (by first | (with_reducible assumption) | assumption);have q517:(rd t513 x61_5) < (l0_2.length:Int):=of_decide_eq_true (by first | (with_reducible assumption) | assumption);obtain ⟨ad517,e517,hx517_0,hx517_1⟩:=at_T42 HR0_2.out (rd t513 x61_5) p517 q517;obtain rfl:ad501 = ad517:=(by injection e517)
                  replace hx517_0:=(HB.out.cell (World.block_lt_of_cell? w _ hx517_0)).trans hx517_0;replace hx517_1:=(HB.out.cell (World.block_lt_of_cell? w _ hx517_1)).trans hx517_1;replace p517:=eq_true p517;replace q517:=eq_true q517;go_wp2_with (first | ((with_reducible refine gate_callee (f:=206) rfl ?_);refine gL_ (some 70) Try.func206 #[.agg #[.int .i64 ((rd_T42 l0_2 (rd t513 x61_5)).f0),.int .i64 ((rd_T42 l0_2 (rd t513 x61_5)).f1)]] (h:=?_);(with_reducible refine (impl_isGeared.calls ((rd_T42 l0_2 (rd t513 x61_5)).f0) ((rd_T42 l0_2 (rd t513 x61_5)).f1) true _ A55.out).mono ?_);rintro e w63 ⟨rfl,hb⟩;refine ⟨_,rfl,?_⟩;refine ev6 (Kd.R_below (Kd.R_mv HO_3.out) hb) (Kd.Q_below (Kd.Q_mv HO_8.out) hb) (Kd.R_below (Kd.R_mv HO_59.out) hb) (kb BK496 hb) (kb BK502 hb) (bs HB hb) ?_;clear HO_3 HO_8 HO_59 BK496 BK502 HB;intro HO_3 HO_8 HO_59 BK496 BK502 HB;(try clear hb);have p519:0 ≤ ((rd t513 x61_5):Int):=of_decide_eq_true (by first | (with_reducible assumption) | assumption);have q519:(rd t513 x61_5) < (x3_5.length:Int):=of_decide_eq_true (by first | (with_reducible assumption) | assumption);obtain ⟨ad519,e519,hx519_0⟩:=Kd.at_int (Kd.R_reads' HO_3.out).2.2 (rd t513 x61_5) p519 q519;obtain rfl:(⟨go35,0,none⟩:Addr) = ad519:=(by injection e519);(first | simp only [add_plain] at hx519_0 | simp only [add_at] at hx519_0 | simp only [Addr.add,Nat.zero_add] at hx519_0 | skip);replace p519:=eq_true p519;replace q519:=eq_true q519;have p59:0 ≤ ((rd t513 x61_5):Int):=of_decide_eq_true (by first | (with_reducible assumption) | assumption);have q59:((rd t513 x61_5):Int) < ((x3_5.length:Int):Int):=of_decide_eq_true (by first | (with_reducible assumption) | assumption);obtain ⟨hx59_0,hf59_0⟩:=Kd.R_celln 0 HO_3.out ((rd t513 x61_5):Int) p59 q59;replace p59:=eq_true p59;replace q59:=eq_true q59;obtain ⟨hy64_,hz64_⟩:=Kd.R_celln 0 HO_3.out ((rd t513 x61_5):Int) (of_decide_eq_true (by first | (with_reducible assumption) | assumption)) (of_decide_eq_true (by first | (with_reducible assumption) | assumption));have HP64:=Kd.R_putg HO_3.out ((rd t513 x61_5):Int) x5_2) | ((with_reducible refine gate_store (t:=3) (p:=81) rfl ?_);refine store_event (t:=3) (p:=81) (v:=?vo_w65) (w1:=(w63.setCell ⟨go35,((rd t513 x61_5):Int).toNat,none⟩ (.int .i64 x5_2))) ?hg ?ho ?hn ?hr ?_;(case ho=>rfl);(case hg=>rfl);(case hn=>rfl);(case hr=>first | (go_simp;done) | (go_simp;rfl));intro w65 hw;have hg:w63.grownBy w65 (some go35):=(by rw [hw];exact HP64.2);have hp_:Kd.R (Kd.int .i64) 3 w65 w.heap.size (fun k_=>some k_ ≠ (u8:Value).ownBlock∧some k_ ≠ (.slice (some ad516) t513.length co49:Value).ownBlock) (.slice (some ⟨go35,0,none⟩) x3_5.length co8) y520:=(by rw [hw,Ny520.out];exact HP64.1);clear HP64;refine ev6 (hp_) (Kd.Q_after (v:=(.slice (some ⟨go35,0,none⟩) x3_5.length co8)) (v1:=(.slice (some ⟨go35,0,none⟩) x3_5.length co8)) (ok:=(fun k_=>some k_ ≠ (.slice (some ad516) t513.length co49:Value).ownBlock)) (Kd.Q_mv (Kd.Q_mono HO_8.out (fun _ hk=>⟨hk.2,hk.1⟩))) hg (.inl rfl)) (Kd.R_after (v:=(.slice (some ⟨go35,0,none⟩) x3_5.length co8)) (v1:=(.slice (some ⟨go35,0,none⟩) x3_5.length co8)) (ok:=(fun k_=>some k_ ≠ (u8:Value).ownBlock)) (Kd.R_mv (Kd.R_mono HO_59.out (fun _ hk=>⟨hk.2,hk.1⟩))) hg (.inl rfl)) (blk_grown (km_ BK496) hg (Kd.R_ne HO_3.out BK496.out (by decide))) (blk_grown (km_ BK502) hg (Kd.R_ne HO_3.out BK502.out (by decide))) ((by rw [hw];exact below_set (HB.out) GB35.out:Below w.heap.size w w65)) ?_;clear HO_3 HO_8 HO_59 BK496 BK502 HB;intro HO_3 HO_8 HO_59 BK496 BK502 HB;clear hg hw hp_) | ((with_reducible refine gate_builtin (b:=.append) (xs:=#[.tmp 82,.tmp 84]) rfl ?_);at_builtin;refine Kd.Q_append (Kd.int .i64) (w0:=w) w.heap.size rfl (.tmp 82) (.tmp 84) 25 3 (.int .i64 0) 8 rfl Try.underlying25 info3 rfl (by decide) (by omega) u8 x8_5 (rd t513 x61_5) [.int .i64 (rd t513 x61_5)] (fun k_=>some k_ ≠ (.slice (some ⟨go35,0,none⟩) x3_5.length co8:Value).ownBlock∧some k_ ≠ (.slice (some ad516) t513.length co49:Value).ownBlock) (fun _=>False) rfl rfl ?aP (fun _ hk=>hk.elim) ?aF ?aO ?aB ?aS ?aL ?_;(case aP=>exact rfl);(case aB=>exact (bm HB));(case aF=>exact (fun k_ hk=>⟨Kd.fresh' (Kd.R_lt (Kd.R_mv HO_3.out)) k_ hk,Kd.fresh' (Kd.R_lt (Kd.R_mv HO_59.out)) k_ hk⟩));(case aO=>exact (Kd.Q_mv (Kd.Q_mono HO_8.out (fun _ hk=>⟨hk.2,hk.1⟩))));(case aS=>exact (below_size (bm HB)));(case aL=>have:=LMc60.out;omega);intro v522 w66 ho hb hg hat;rw [← Ny521.out] at ho;refine ev6 (Kd.R_after (ok:=(fun k_=>some k_ ≠ (.slice (some ad516) t513.length co49:Value).ownBlock)) (Kd.R_mv (Kd.R_mono HO_3.out (fun _ hk=>⟨hk.2,hk.1⟩))) hg hat) (Kd.R_after (ok:=(fun k_=>some k_ ≠ (.slice (some ⟨go35,0,none⟩) x3_5.length co8:Value).ownBlock)) (Kd.R_mv (Kd.R_mono HO_59.out (fun _ hk=>⟨hk.2,hk.1⟩))) hg hat) (blk_grown (km_ BK496) hg (Kd.Q_ne HO_8.out BK496.out (by decide))) (blk_grown (km_ BK502) hg (Kd.Q_ne HO_8.out BK502.out (by decide))) (hb) (ho) ?_;clear HO_3 HO_59 BK496 BK502 HB HO_8;intro HO_3 HO_59 BK496 BK502 HB HO523;clear ho hb hg hat))
                  (try simp only [← hl3_5])
                  go_roundg k5
                  case measure=>have:=HK1.out;have:=HK2.out;have:=HJ18.out;have:=HK4.out;have:=HK5.out;omega
                  case rel=>exact ⟨(y520),(y521),(wrap64 (x61_5 + 1)),(by first | rfl | (simp;done) | (simp [*];done)),H',⟨by have:=HK1.out;have:=HK2.out;have:=HJ18.out;have:=HK4.out;have:=HK5.out;omega⟩,⟨by (try simp only [hl3_1]);(try simp only [hl3_2]);(try simp only [hl3_4]);(try simp only [hl3_5]);exact Kd.R_mv (Kd.R_mono HO_3.out (fun _ hk=>⟨hk.2,hk.1⟩))⟩,⟨by (try simp only [hl3_1]);(try simp only [hl3_2]);(try simp only [hl3_4]);(try simp only [hl3_5]);exact Kd.Q_mv HO523.out⟩,⟨by (try simp only [hl3_1]);(try simp only [hl3_2]);(try simp only [hl3_4]);(try simp only [hl3_5]);exact Kd.R_mv HO_59.out⟩,⟨by (try simp only [hl3_1]);(try simp only [hl3_2]);(try simp only [hl3_4]);(try simp only [hl3_5]);exact km_ BK496⟩,⟨by (try simp only [hl3_1]);(try simp only [hl3_2]);(try simp only [hl3_4]);(try simp only [hl3_5]);exact km_ BK502⟩,⟨bm HB⟩⟩
                 ·rw [if_neg c58] at H;have c58b0:decide ((rd x3_5 (rd t513 x61_5)) < 0) = false:=decide_eq_false c58;clear c58;have H':=Aside0.mk H;clear H;have p516:0 ≤ (x61_5:Int):=of_decide_eq_true (by first | (with_reducible assumption) | assumption);have q516:x61_5 < (t513.length:Int):=of_decide_eq_true (by first | (with_reducible assumption) | assumption);obtain ⟨ad516,e516,hx516_0⟩:=Kd.at_int (Kd.R_reads' HO_59.out).2.2 x61_5 p516 q516;cases e516;replace p516:=eq_true p516;replace q516:=eq_true q516;have hnb67:=NB496_502.out;have hnc67:=NB502_496.out;obtain ⟨hcz68_0,hcz68_1,hcz68_2,hfz68_0,hfz68_1,hfz68_2⟩:=bt3 BK496;have p517:0 ≤ ((rd t513 x61_5):Int):=of_decide_eq_true (by first | (with_reducible assumption) | assumption);have q517:(rd t513 x61_5) < (l0_2.length:Int):=of_decide_eq_true (by first | (with_reducible assumption) | assumption);obtain ⟨ad517,e517,hx517_0,hx517_1⟩:=at_T42 HR0_2.out (rd t513 x61_5) p517 q517;obtain rfl:ad501 = ad517:=(by injection e517)
                  replace hx517_0:=(HB.out.cell (World.block_lt_of_cell? w _ hx517_0)).trans hx517_0;replace hx517_1:=(HB.out.cell (World.block_lt_of_cell? w _ hx517_1)).trans hx517_1;replace p517:=eq_true p517;replace q517:=eq_true q517;go_wp2_with (first | ((with_reducible refine gate_callee (f:=206) rfl ?_);refine gL_ (some 70) Try.func206 #[.agg #[.int .i64 ((rd_T42 l0_2 (rd t513 x61_5)).f0),.int .i64 ((rd_T42 l0_2 (rd t513 x61_5)).f1)]] (h:=?_);(with_reducible refine (impl_isGeared.calls ((rd_T42 l0_2 (rd t513 x61_5)).f0) ((rd_T42 l0_2 (rd t513 x61_5)).f1) true _ A55.out).mono ?_);rintro e w69 ⟨rfl,hb⟩;refine ⟨_,rfl,?_⟩;refine ev6 (Kd.R_below (Kd.R_mv HO_3.out) hb) (Kd.Q_below (Kd.Q_mv HO_8.out) hb) (Kd.R_below (Kd.R_mv HO_59.out) hb) (kb BK496 hb) (kb BK502 hb) (bs HB hb) ?_;clear HO_3 HO_8 HO_59 BK496 BK502 HB;intro HO_3 HO_8 HO_59 BK496 BK502 HB;(try clear hb);have p519:0 ≤ ((rd t513 x61_5):Int):=of_decide_eq_true (by first | (with_reducible assumption) | assumption);have q519:(rd t513 x61_5) < (x3_5.length:Int):=of_decide_eq_true (by first | (with_reducible assumption) | assumption);obtain ⟨ad519,e519,hx519_0⟩:=Kd.at_int (Kd.R_reads' HO_3.out).2.2 (rd t513 x61_5) p519 q519;obtain rfl:(⟨go35,0,none⟩:Addr) = ad519:=(by injection e519);(first | simp only [add_plain] at hx519_0 | simp only [add_at] at hx519_0 | simp only [Addr.add,Nat.zero_add] at hx519_0 | skip);replace p519:=eq_true p519;replace q519:=eq_true q519))
                  (try simp only [← hl3_5])
                  go_roundg k5
                  case measure=>have:=HK1.out;have:=HK2.out;have:=HJ18.out;have:=HK4.out;have:=HK5.out;omega
                  case rel=>exact ⟨(x3_5),(x8_5),(wrap64 (x61_5 + 1)),(by first | rfl | (simp;done) | (simp [*];done)),H',⟨by have:=HK1.out;have:=HK2.out;have:=HJ18.out;have:=HK4.out;have:=HK5.out;omega⟩,⟨by (try simp only [hl3_1]);(try simp only [hl3_2]);(try simp only [hl3_4]);(try simp only [hl3_5]);exact Kd.R_mv HO_3.out⟩,⟨by (try simp only [hl3_1]);(try simp only [hl3_2]);(try simp only [hl3_4]);(try simp only [hl3_5]);exact Kd.Q_mv HO_8.out⟩,⟨by (try simp only [hl3_1]);(try simp only [hl3_2]);(try simp only [hl3_4]);(try simp only [hl3_5]);exact Kd.R_mv HO_59.out⟩,⟨by (try simp only [hl3_1]);(try simp only [hl3_2]);(try simp only [hl3_4]);(try simp only [hl3_5]);exact km_ BK496⟩,⟨by (try simp only [hl3_1]);(try simp only [hl3_2]);(try simp only [hl3_4]);(try simp only [hl3_5]);exact km_ BK502⟩,⟨bm HB⟩⟩
                ·replace c56:=Bool.eq_false_iff.mpr c56;subst c56;have H1:(impl_groupNumbers.l3 k5 x3_5 x5_2 x8_5 l0_2 (l0_2.length:Int) x28_2 t513 (t513.length:Int) (wrap64 (x61_5 + 1)) a0_0 a0_1 l0_2) = some r:=by rw [if_neg (show ¬ (false = true) by decide)] at H;exact H
                 clear H;have H:=H1;clear H1;have H':=Aside0.mk H;clear H;have p516:0 ≤ (x61_5:Int):=of_decide_eq_true (by first | (with_reducible assumption) | assumption);have q516:x61_5 < (t513.length:Int):=of_decide_eq_true (by first | (with_reducible assumption) | assumption);obtain ⟨ad516,e516,hx516_0⟩:=Kd.at_int (Kd.R_reads' HO_59.out).2.2 x61_5 p516 q516;cases e516;replace p516:=eq_true p516;replace q516:=eq_true q516;have hnb70:=NB496_502.out;have hnc70:=NB502_496.out;obtain ⟨hcz71_0,hcz71_1,hcz71_2,hfz71_0,hfz71_1,hfz71_2⟩:=bt3 BK496;have p517:0 ≤ ((rd t513 x61_5):Int):=of_decide_eq_true (by first | (with_reducible assumption) | assumption);have q517:(rd t513 x61_5) < (l0_2.length:Int):=of_decide_eq_true (by first | (with_reducible assumption) | assumption);obtain ⟨ad517,e517,hx517_0,hx517_1⟩:=at_T42 HR0_2.out (rd t513 x61_5) p517 q517;obtain rfl:ad501 = ad517:=(by injection e517)
                 replace hx517_0:=(HB.out.cell (World.block_lt_of_cell? w _ hx517_0)).trans hx517_0;replace hx517_1:=(HB.out.cell (World.block_lt_of_cell? w _ hx517_1)).trans hx517_1;replace p517:=eq_true p517;replace q517:=eq_true q517;go_wp2_with (first | ((with_reducible refine gate_callee (f:=206) rfl ?_);refine gL_ (some 70) Try.func206 #[.agg #[.int .i64 ((rd_T42 l0_2 (rd t513 x61_5)).f0),.int .i64 ((rd_T42 l0_2 (rd t513 x61_5)).f1)]] (h:=?_);(with_reducible refine (impl_isGeared.calls ((rd_T42 l0_2 (rd t513 x61_5)).f0) ((rd_T42 l0_2 (rd t513 x61_5)).f1) false _ A55.out).mono ?_);rintro e w72 ⟨rfl,hb⟩;refine ⟨_,rfl,?_⟩;refine ev6 (Kd.R_below (Kd.R_mv HO_3.out) hb) (Kd.Q_below (Kd.Q_mv HO_8.out) hb) (Kd.R_below (Kd.R_mv HO_59.out) hb) (kb BK496 hb) (kb BK502 hb) (bs HB hb) ?_;clear HO_3 HO_8 HO_59 BK496 BK502 HB;intro HO_3 HO_8 HO_59 BK496 BK502 HB;(try clear hb)))
                 (try simp only [← hl3_5])
                 go_roundg k5
                 case measure=>have:=HK1.out;have:=HK2.out;have:=HJ18.out;have:=HK4.out;have:=HK5.out;omega
                 case rel=>exact ⟨(x3_5),(x8_5),(wrap64 (x61_5 + 1)),(by first | rfl | (simp;done) | (simp [*];done)),H',⟨by have:=HK1.out;have:=HK2.out;have:=HJ18.out;have:=HK4.out;have:=HK5.out;omega⟩,⟨by (try simp only [hl3_1]);(try simp only [hl3_2]);(try simp only [hl3_4]);(try simp only [hl3_5]);exact Kd.R_mv HO_3.out⟩,⟨by (try simp only [hl3_1]);(try simp only [hl3_2]);(try simp only [hl3_4]);(try simp only [hl3_5]);exact Kd.Q_mv HO_8.out⟩,⟨by (try simp only [hl3_1]);(try simp only [hl3_2]);(try simp only [hl3_4]);(try simp only [hl3_5]);exact Kd.R_mv HO_59.out⟩,⟨by (try simp only [hl3_1]);(try simp only [hl3_2]);(try simp only [hl3_4]);(try simp only [hl3_5]);exact km_ BK496⟩,⟨by (try simp only [hl3_1]);(try simp only [hl3_2]);(try simp only [hl3_4]);(try simp only [hl3_5]);exact km_ BK502⟩,⟨bm HB⟩⟩
               ·rw [if_neg c50] at H;have c50b0:decide (x61_5 < (t513.length:Int)) = false:=decide_eq_false c50;(try simp only [hl3_1] at c50b0)
                (try simp only [hl3_2] at c50b0)
                (try simp only [hl3_4] at c50b0)
                (try simp only [hl3_5] at c50b0)
                clear c50;have H':=Aside0.mk H;clear H;go_wp2;(try simp only [← hl3_4,← hl3_5])
                go_roundg k5
                case measure=>have:=HK1.out;have:=HK2.out;have:=HJ18.out;have:=HK4.out;have:=HK5.out;omega
                case rel=>exact ⟨(x3_5),(x8_5),H',⟨by have:=HK1.out;have:=HK2.out;have:=HJ18.out;have:=HK4.out;have:=HK5.out;omega⟩,⟨by (try simp only [hl3_1]);(try simp only [hl3_2]);(try simp only [hl3_4]);(try simp only [hl3_5]);exact Kd.R_mv (Kd.R_mono HO_3.out (fun _ hk=>hk.1))⟩,⟨by (try simp only [hl3_1]);(try simp only [hl3_2]);(try simp only [hl3_4]);(try simp only [hl3_5]);exact Kd.Q_mv (Kd.Q_mono HO_8.out (fun _ hk=>hk.1))⟩,⟨by (try simp only [hl3_1]);(try simp only [hl3_2]);(try simp only [hl3_4]);(try simp only [hl3_5]);exact km_ BK496⟩,⟨by (try simp only [hl3_1]);(try simp only [hl3_2]);(try simp only [hl3_4]);(try simp only [hl3_5]);exact km_ BK502⟩,⟨bm HB⟩⟩
            ·rw [if_neg c40] at H;have c40b0:decide (0 < (x8_4.length:Int)) = false:=decide_eq_false c40;have c40b1:decide (0 < x8_4.length) = false:=decide_eq_false (by omega);(try simp only [hl3_1] at c40b0 c40b1)
             (try simp only [hl3_2] at c40b0 c40b1)
             (try simp only [hl3_4] at c40b0 c40b1)
             clear c40;have H':=Aside0.mk H;clear H;obtain ⟨Ao73,co73,eo73,_⟩:=Kd.Q_slice HO_8.out;subst eo73;go_wp2;(try simp only [← hl3_2,← hl3_4])
             go_roundg k4
             case measure=>have:=HK1.out;have:=HK2.out;have:=HJ18.out;have:=HK4.out;omega
             case rel=>exact ⟨(x3_4),(wrap64 (x5_2 + 1)),(wrap64 (x28_2 + 1)),(by first | rfl | (simp;done) | (simp [*];done)),(by first | rfl | (simp;done) | (simp [*];done)),H',⟨by have:=HK1.out;have:=HK2.out;have:=HJ18.out;have:=HK4.out;omega⟩,⟨by (try simp only [hl3_1]);(try simp only [hl3_2]);(try simp only [hl3_4]);exact Kd.R_mv (Kd.R_mono (ok':=fun k_=>True) HO_3.out (fun _ hk=>trivial))⟩,⟨by (try simp only [hl3_1]);(try simp only [hl3_2]);(try simp only [hl3_4]);exact km_ BK496⟩,⟨bm HB⟩⟩
      ·rw [if_neg c16] at H;have c16b0:decide (x28_2 < (l0_2.length:Int)) = false:=decide_eq_false c16;(try simp only [hl3_1] at c16b0)
       (try simp only [hl3_2] at c16b0)
       clear c16;obtain rfl:=Option.some.inj H;go_wp2;go_ret;exact ⟨_,by first | rfl | (simp [e0_,e1_] <;> rfl) | (simp [*,e0_,e1_] <;> rfl),Kd.R_mv HO_3.out,bm HB⟩

/-! ### impl_hasEnds: function 100 -/
def impl_hasEnds.l0:Nat→List Int→List Int→Int→Int→Int→Int→List (S42)→List Int→List Int→Int→Int→List (S42)→Int→Int→List (S42)→Option (Bool)
  | 0,_,_,_,_,_,_,_,_,_,_,_,_,_,_,_=>none
  | k + 1,x6,x16,x17,x18,x525000,x525001,x525002,x525003,x525004,x526000,x526001,x526002,x532000,x532001,x532002=>if x18 < x17 then (if 0 ≤ x18 then (if x18 < (x16.length:Int) then ((impl_drop.f k x532000 x532001 x532002 x6 (rd x16 x18)).bind fun bt536=>((impl_endNumber.f x526000 x526001 x526002 bt536.1 bt536.2.1 bt536.2.2.1).bind fun t544=>(if x18 < (x525004.length:Int) then (if t544 = (rd x525004 x18) then (impl_hasEnds.l0 k x6 x16 x17 (wrap64 (x18 + 1)) x525000 x525001 x525002 x525003 x525004 x526000 x526001 x526002 x532000 x532001 bt536.2.2.2.2) else (some false)) else (none)))) else (none)) else (none)) else (some true)
def impl_hasEnds.f (k:Nat) (a0_0:Int) (a0_1:Int) (l0_2:List (S42)) (l0_3:List Int) (l0_4:List Int) (a1_0:Int) (a1_1:Int) (l1_2:List (S42)):Option (Bool):=(impl_copyBoard.f a1_0 a1_1 l1_2).bind fun bt526=>((impl_groupNumbers.f k a1_0 a1_1 l1_2).bind fun t532=>(impl_hasEnds.l0 k t532 l0_3 (l0_3.length:Int) 0 a0_0 a0_1 l0_2 l0_3 l0_4 a1_0 a1_1 l1_2 bt526.1 bt526.2.1 bt526.2.2))
theorem impl_hasEnds.calls (k:Nat) (a0_0:Int) (a0_1:Int) (A0_2:Option Addr) (c0_2:Nat) (l0_2:List (S42)) (A0_3:Option Addr) (c0_3:Nat) (l0_3:List Int) (A0_4:Option Addr) (c0_4:Nat) (l0_4:List Int) (a1_0:Int) (a1_1:Int) (A1_2:Option Addr) (c1_2:Nat) (l1_2:List (S42)) (r:Bool) (w:World) (hr0_2:Kd.C k42 w A0_2 l0_2.length l0_2) (hc0_2:l0_2.length ≤ c0_2) (hr0_3:Kd.C (Kd.int .i64) w A0_3 l0_3.length l0_3) (hc0_3:l0_3.length ≤ c0_3) (hr0_4:Kd.C (Kd.int .i64) w A0_4 l0_4.length l0_4) (hc0_4:l0_4.length ≤ c0_4) (hr1_2:Kd.C k42 w A1_2 l1_2.length l1_2) (hc1_2:l1_2.length ≤ c1_2) (h:impl_hasEnds.f k a0_0 a0_1 l0_2 l0_3 l0_4 a1_0 a1_1 l1_2 = some r) :
    Calls Try.prog 100 #[.agg #[.int .i64 a0_0,.int .i64 a0_1,.slice A0_2 l0_2.length c0_2,.slice A0_3 l0_3.length c0_3,.slice A0_4 l0_4.length c0_4],.agg #[.int .i64 a1_0,.int .i64 a1_1,.slice A1_2 l1_2.length c1_2]] w fun e w'=>e = .returned (.bool r)∧Below w.heap.size w w':=by
 have S:=St.init (w:=w) (dc k42_heap at42 hr0_2 hc0_2 (dc (Kd.heap_int .i64) (atI .i64) hr0_3 hc0_3 (dc (Kd.heap_int .i64) (atI .i64) hr0_4 hc0_4 (dc k42_heap at42 hr1_2 hc1_2 dn))))
 clear hr0_2 hc0_2 hr0_3 hc0_3 hr0_4 hc0_4 hr1_2 hc1_2
 have F:=S.fc
 have H:=h;clear h;unfold impl_hasEnds.f at H
 replace H:=Option.bind_eq_some_iff.mp H;obtain ⟨⟨t526,t527,t528⟩,A3,H⟩:=H;(try dsimp only at H)
 replace H:=Option.bind_eq_some_iff.mp H;obtain ⟨t532,A4,H⟩:=H;(try dsimp only at H)
 go_enter Try.func100,Try.ntmps100
 go_wp2_with (first | ((with_reducible refine gd 2 rfl (L ?_));refine bo 2 (.agg #[_,_,_,_,_]) S ?_;clear S F;intro gb524 W S;have F:=S.fc) | ((with_reducible refine gd 3 rfl (L ?_));refine bo 3 (.agg #[_,_,_]) S ?_;clear S F;intro gb525 W S;have F:=S.fc) | ((with_reducible refine gate_callee (f:=163) rfl (L ?_));refine cl (some 12) Try.func163 (impl_copyBoard.calls _ _ _ _ _ _ _ _ _ S.c S.n A3) (hargs:=by (simp only [ma_,mb_,mc_,F] <;> rfl)) (h:=?_);rintro e W ⟨v529,rfl,ho0,hb⟩;refine ⟨_,rfl,?_⟩;replace S:=S.got at42 hb ho0;obtain ⟨At528,ct528,rfl,S⟩:=S;clear F hb ho0;have F:=S.fc) | ((with_reducible refine gd 5 rfl (L ?_));refine al 5 S zi30 ?_;clear S F;intro gb531 W S;have F:=S.fc) | ((with_reducible refine gate_callee (f:=164) rfl (L ?_));refine cl (some 14) Try.func164 (impl_groupNumbers.calls _ _ _ _ _ _ _ _ S.c S.n A4) (hargs:=by (simp only [ma_,mb_,mc_,F] <;> rfl)) (h:=?_);rintro e W ⟨v533,rfl,ho0,hb⟩;refine ⟨_,rfl,?_⟩;replace S:=S.got (atI .i64) hb ho0;obtain ⟨At532,ct532,rfl,S⟩:=S;clear F hb ho0;have F:=S.fc) | ((with_reducible refine gs (t:=30) rfl (L ?_));(first | refine sb (.agg #[_,_,_]) S sz30 ?_ | refine ro (.agg #[_,_,_]) S sz30 ?_ (ho:=rfl) (hx:=rfl) (hy:=rfl));(clear S F;intro W S;have F:=S.fc)) | ((with_reducible refine gs (t:=80) rfl (L ?_));(first | refine sb (.agg #[_,_,_]) S sz80 ?_ | refine ro (.agg #[_,_,_]) S sz80 ?_ (ho:=rfl) (hx:=rfl) (hy:=rfl));(clear S F;intro W S;have F:=S.fc)))
 go_loopg [18] k (fun kq v18 w'=>∃ (x18_1:Int) (x532002_1:List (S42)) (Ax532002_1:Option Addr) (cx532002_1:Nat),v18 = .int .i64 x18_1∧impl_hasEnds.l0 kq t532 l0_3 (l0_3.length:Int) x18_1 a0_0 a0_1 l0_2 l0_3 l0_4 a1_0 a1_1 l1_2 t526 t527 x532002_1 = some r∧kq ≤ k∧St w w (fun _=>False) [bor at42 A0_2 c0_2 l0_2,bor (atI .i64) A0_3 c0_3 l0_3,bor (atI .i64) A0_4 c0_4 l0_4,bor at42 A1_2 c1_2 l1_2] w'  [row (atI .i64) 3 At532 t532.length ct532 t532,box gb531 30 [.int .i64 t526,.int .i64 t527,.slice Ax532002_1 x532002_1.length cx532002_1],row at42 42 Ax532002_1 x532002_1.length cx532002_1 x532002_1,box gb525 30 [.int .i64 a1_0,.int .i64 a1_1,.slice A1_2 l1_2.length c1_2],box gb524 27 [.int .i64 a0_0,.int .i64 a0_1,.slice A0_2 l0_2.length c0_2,.slice A0_3 l0_3.length c0_3,.slice A0_4 l0_4.length c0_4]])
 case atStart=>exact ⟨0,t528,_,_,(by first | rfl | (simp;done) | (simp [*];done) | (rw [w6_ (by omega) (by omega)])),H,Nat.le_refl _,S⟩
 case round =>
  clear H S F
  obtain ⟨x18_1,x532002_1,Ax532002_1,cx532002_1,rfl,HA,HK1,S⟩:=hrel
  have F:=S.fc
  cases gk with
  | zero=>exact absurd HA (by simp [impl_hasEnds.l0])
  | succ k1 =>
   have H:=HA;clear HA;simp only [impl_hasEnds.l0,F] at H
   replace H:=sp_ H;rcases H with ⟨c18,H⟩ | ⟨c18,H⟩
   · skip
     replace H:=np_ H;obtain ⟨c19,H⟩:=H
     replace H:=np_ H;obtain ⟨c20,H⟩:=H
     replace H:=Option.bind_eq_some_iff.mp H;obtain ⟨⟨t536,t537,t538,t539,t542⟩,A21,H⟩:=H;(try dsimp only at H)
     replace H:=Option.bind_eq_some_iff.mp H;obtain ⟨t544,A22,H⟩:=H;(try dsimp only at H)
     replace H:=np_ H;obtain ⟨c23,H⟩:=H
     replace H:=sp_ H;rcases H with ⟨c24,H⟩ | ⟨c24,H⟩
     · skip
       replace c24:=ceq c24
       go_wp2_with (first | ((with_reducible refine gate_callee (f:=162) rfl (L ?_));obtain ⟨ok_,k_⟩:=S.lend (A:=Ax532002_1);refine cl (some 27) Try.func162 (impl_drop.calls _ _ _ ok_ _ _ _ _ _ _ _ _ _ _ _ _ _ k_.below k_.own k_.c k_.n A21) (hargs:=by (simp only [ma_,mb_,mc_,F] <;> rfl)) (h:=?_);rintro e W ⟨v540,rfl,ho,hy,hb,hk⟩;refine ⟨_,rfl,?_⟩;clear S F;obtain ⟨At539,ct539,rfl,S⟩:=k_.back1 (atI .i64) ho hy hb hk (by decide);clear k_ ho hy hb hk;have F:=S.fc) | ((with_reducible refine gd 9 rfl (L ?_));refine al 9 S zi80 ?_;clear S F;intro gb543 W S;have F:=S.fc) | ((with_reducible refine gs (t:=30) rfl (L ?_));(first | refine sb (.agg #[_,_,_]) S sz30 ?_ | refine ro (.agg #[_,_,_]) S sz30 ?_ (ho:=rfl) (hx:=rfl) (hy:=rfl));(clear S F;intro W S;have F:=S.fc)) | ((with_reducible refine gs (t:=80) rfl (L ?_));(first | refine sb (.agg #[_,_,_]) S sz80 ?_ | refine ro (.agg #[_,_,_]) S sz80 ?_ (ho:=rfl) (hx:=rfl) (hy:=rfl));(clear S F;intro W S;have F:=S.fc)))
       refine rq S [(0,3),(0,5),(1,0),(1,1),(1,4),(0,6),(1,7),(2,2),(0,8)] [] (h:=?_);clear S F;intro W S;have S0:=S;have F:=S.fc
       repeat (first | (refine q0 (h:=?_)) | (refine q1 S0 (h:=?_)) | (refine q0n (h:=?_)) | (refine q1n S0 (h:=?_)))
       refine lk2 (by rfl) (by exact (Eq.refl true)) ?_;refine cl (some 32) Try.func121 (impl_endNumber.calls _ _ _ _ _ _ _ _ _ _ S.c S.n A22) (hargs:=by (simp only [ma_,mb_,mc_,F] <;> rfl)) (h:=?_);rintro e W ⟨rfl,hb⟩;refine ⟨_,rfl,?_⟩;replace S:=S.go hb;clear F hb;have F:=S.fc
       clear S0;have S0:=S;refine ⟨S0,?_⟩
       repeat (first | (refine q0 (h:=?_)) | (refine q1 S0 (h:=?_)) | (refine q0n (h:=?_)) | (refine q1n S0 (h:=?_)))
       refine oz ?_
       try clear S0
       go_wp2_with (first | ((with_reducible refine gs (t:=30) rfl (L ?_));(first | refine sb (.agg #[_,_,_]) S sz30 ?_ | refine ro (.agg #[_,_,_]) S sz30 ?_ (ho:=rfl) (hx:=rfl) (hy:=rfl));(clear S F;intro W S;have F:=S.fc)) | ((with_reducible refine gs (t:=80) rfl (L ?_));(first | refine sb (.agg #[_,_,_]) S sz80 ?_ | refine ro (.agg #[_,_,_]) S sz80 ?_ (ho:=rfl) (hx:=rfl) (hy:=rfl));(clear S F;intro W S;have F:=S.fc)))
       go_roundg k1
       case measure=>omega
       case rel=>(try rw [← (show t542.length = x532002_1.length by simp only [F])] at S);exact ⟨(wrap64 (x18_1 + 1)),t542,_,_,(by first | rfl | (simp;done) | (simp [*];done) | (rw [w6_ (by omega) (by omega)])),H,(by first | omega | exact Nat.le_refl _),S.tl.tl⟩
     · skip
       replace c24:=cne c24
       obtain rfl:=Option.some.inj H
       go_wp2_with (first | ((with_reducible refine gate_callee (f:=162) rfl (L ?_));obtain ⟨ok_,k_⟩:=S.lend (A:=Ax532002_1);refine cl (some 27) Try.func162 (impl_drop.calls _ _ _ ok_ _ _ _ _ _ _ _ _ _ _ _ _ _ k_.below k_.own k_.c k_.n A21) (hargs:=by (simp only [ma_,mb_,mc_,F] <;> rfl)) (h:=?_);rintro e W ⟨v540,rfl,ho,hy,hb,hk⟩;refine ⟨_,rfl,?_⟩;clear S F;obtain ⟨At539,ct539,rfl,S⟩:=k_.back1 (atI .i64) ho hy hb hk (by decide);clear k_ ho hy hb hk;have F:=S.fc) | ((with_reducible refine gd 9 rfl (L ?_));refine al 9 S zi80 ?_;clear S F;intro gb543 W S;have F:=S.fc) | ((with_reducible refine gs (t:=30) rfl (L ?_));(first | refine sb (.agg #[_,_,_]) S sz30 ?_ | refine ro (.agg #[_,_,_]) S sz30 ?_ (ho:=rfl) (hx:=rfl) (hy:=rfl));(clear S F;intro W S;have F:=S.fc)) | ((with_reducible refine gs (t:=80) rfl (L ?_));(first | refine sb (.agg #[_,_,_]) S sz80 ?_ | refine ro (.agg #[_,_,_]) S sz80 ?_ (ho:=rfl) (hx:=rfl) (hy:=rfl));(clear S F;intro W S;have F:=S.fc)))
       refine rq S [(0,3),(0,5),(1,0),(1,1),(1,4),(0,6),(1,7),(2,2),(0,8)] [] (h:=?_);clear S F;intro W S;have S0:=S;have F:=S.fc
       repeat (first | (refine q0 (h:=?_)) | (refine q1 S0 (h:=?_)) | (refine q0n (h:=?_)) | (refine q1n S0 (h:=?_)))
       refine lk2 (by rfl) (by exact (Eq.refl true)) ?_;refine cl (some 32) Try.func121 (impl_endNumber.calls _ _ _ _ _ _ _ _ _ _ S.c S.n A22) (hargs:=by (simp only [ma_,mb_,mc_,F] <;> rfl)) (h:=?_);rintro e W ⟨rfl,hb⟩;refine ⟨_,rfl,?_⟩;replace S:=S.go hb;clear F hb;have F:=S.fc
       clear S0;have S0:=S;refine ⟨S0,?_⟩
       repeat (first | (refine q0 (h:=?_)) | (refine q1 S0 (h:=?_)) | (refine q0n (h:=?_)) | (refine q1n S0 (h:=?_)))
       refine oz ?_
       try clear S0
       go_wp2_with (first | ((with_reducible refine gs (t:=30) rfl (L ?_));(first | refine sb (.agg #[_,_,_]) S sz30 ?_ | refine ro (.agg #[_,_,_]) S sz30 ?_ (ho:=rfl) (hx:=rfl) (hy:=rfl));(clear S F;intro W S;have F:=S.fc)) | ((with_reducible refine gs (t:=80) rfl (L ?_));(first | refine sb (.agg #[_,_,_]) S sz80 ?_ | refine ro (.agg #[_,_,_]) S sz80 ?_ (ho:=rfl) (hx:=rfl) (hy:=rfl));(clear S F;intro W S;have F:=S.fc)))
       go_ret
       exact ⟨(by first | rfl | (simp [e0_,e1_] <;> rfl) | (simp [*,e0_,e1_] <;> rfl)),S.below⟩
   · skip
     obtain rfl:=Option.some.inj H
     go_wp2_with (first | ((with_reducible refine gs (t:=30) rfl (L ?_));(first | refine sb (.agg #[_,_,_]) S sz30 ?_ | refine ro (.agg #[_,_,_]) S sz30 ?_ (ho:=rfl) (hx:=rfl) (hy:=rfl));(clear S F;intro W S;have F:=S.fc)) | ((with_reducible refine gs (t:=80) rfl (L ?_));(first | refine sb (.agg #[_,_,_]) S sz80 ?_ | refine ro (.agg #[_,_,_]) S sz80 ?_ (ho:=rfl) (hx:=rfl) (hy:=rfl));(clear S F;intro W S;have F:=S.fc)))
     go_ret
     exact ⟨(by first | rfl | (simp [e0_,e1_] <;> rfl) | (simp [*,e0_,e1_] <;> rfl)),S.below⟩

/-! ### impl_boardsTried: function 128 -/
def impl_boardsTried.l0:Nat→Int→Int→Int→Int→List (S42)→List Int→List Int→Option (Int)
  | 0,_,_,_,_,_,_,_=>none
  | k + 1,x3,x4,x547000,x547001,x547002,x547003,x547004=>if x4 < (wrap64 (x547000 * x547001)) then (impl_boardsTried.l0 k (wrap64 (x3 * (wrap64 ((x547002.length:Int) + 1)))) (wrap64 (x4 + 1)) x547000 x547001 x547002 x547003 x547004) else (some x3)
def impl_boardsTried.f (k:Nat) (a0_0:Int) (a0_1:Int) (l0_2:List (S42)) (l0_3:List Int) (l0_4:List Int):Option (Int):=impl_boardsTried.l0 k 1 0 a0_0 a0_1 l0_2 l0_3 l0_4
theorem impl_boardsTried.calls (k:Nat) (a0_0:Int) (a0_1:Int) (A0_2:Option Addr) (c0_2:Nat) (l0_2:List (S42)) (A0_3:Option Addr) (c0_3:Nat) (l0_3:List Int) (A0_4:Option Addr) (c0_4:Nat) (l0_4:List Int) (r:Int) (w:World) (hr0_2:Kd.C k42 w A0_2 l0_2.length l0_2) (hc0_2:l0_2.length ≤ c0_2) (hr0_3:Kd.C (Kd.int .i64) w A0_3 l0_3.length l0_3) (hc0_3:l0_3.length ≤ c0_3) (hr0_4:Kd.C (Kd.int .i64) w A0_4 l0_4.length l0_4) (hc0_4:l0_4.length ≤ c0_4) (h:impl_boardsTried.f k a0_0 a0_1 l0_2 l0_3 l0_4 = some r) :
    Calls Try.prog 128 #[.agg #[.int .i64 a0_0,.int .i64 a0_1,.slice A0_2 l0_2.length c0_2,.slice A0_3 l0_3.length c0_3,.slice A0_4 l0_4.length c0_4]] w fun e w'=>e = .returned (.int .i64 r)∧Below w.heap.size w w':=by
 have S:=St.init (w:=w) (dc k42_heap at42 hr0_2 hc0_2 (dc (Kd.heap_int .i64) (atI .i64) hr0_3 hc0_3 (dc (Kd.heap_int .i64) (atI .i64) hr0_4 hc0_4 dn)))
 clear hr0_2 hc0_2 hr0_3 hc0_3 hr0_4 hc0_4
 have F:=S.fc
 have H:=h;clear h;unfold impl_boardsTried.f at H
 go_enter Try.func128,Try.ntmps128
 go_wp2_with (first | ((with_reducible refine gd 1 rfl (L ?_));refine bo 1 (.agg #[_,_,_,_,_]) S ?_;clear S F;intro gb546 W S;have F:=S.fc))
 go_loopg [3,4] k (fun kq v3 v4 w'=>∃ (x3_1:Int) (x4_1:Int),v3 = .int .i64 x3_1∧v4 = .int .i64 x4_1∧impl_boardsTried.l0 kq x3_1 x4_1 a0_0 a0_1 l0_2 l0_3 l0_4 = some r∧kq ≤ k∧St w w (fun _=>False) [bor at42 A0_2 c0_2 l0_2,bor (atI .i64) A0_3 c0_3 l0_3,bor (atI .i64) A0_4 c0_4 l0_4] w'  [box gb546 27 [.int .i64 a0_0,.int .i64 a0_1,.slice A0_2 l0_2.length c0_2,.slice A0_3 l0_3.length c0_3,.slice A0_4 l0_4.length c0_4]])
 case atStart=>exact ⟨1,0,(by first | rfl | (simp;done) | (simp [*];done) | (rw [w6_ (by omega) (by omega)])),(by first | rfl | (simp;done) | (simp [*];done) | (rw [w6_ (by omega) (by omega)])),H,Nat.le_refl _,S⟩
 case round =>
  clear H S F
  obtain ⟨x3_1,x4_1,rfl,rfl,HA,HK1,S⟩:=hrel
  have F:=S.fc
  cases gk with
  | zero=>exact absurd HA (by simp [impl_boardsTried.l0])
  | succ k1 =>
   have H:=HA;clear HA;simp only [impl_boardsTried.l0,F] at H
   replace H:=sp_ H;rcases H with ⟨c3,H⟩ | ⟨c3,H⟩
   · skip
     go_wp2
     go_roundg k1
     case measure=>omega
     case rel=>exact ⟨(wrap64 (x3_1 * (wrap64 ((l0_2.length:Int) + 1)))),(wrap64 (x4_1 + 1)),(by first | rfl | (simp;done) | (simp [*];done) | (rw [w6_ (by omega) (by omega)])),(by first | rfl | (simp;done) | (simp [*];done) | (rw [w6_ (by omega) (by omega)])),H,(by first | omega | exact Nat.le_refl _),S⟩
   · skip
     obtain rfl:=Option.some.inj H
     go_wp2
     go_ret
     exact ⟨(by first | rfl | (simp [e0_,e1_] <;> rfl) | (simp [*,e0_,e1_] <;> rfl)),S.below⟩

/-! ### impl_boardOf: function 182 -/
def impl_boardOf.l0:Nat→Int→Int→Int→Int→List (S42)→List Int→List Int→Int→Int→List (S42)→Option (Int × Int × (List (S42)))
  | 0,_,_,_,_,_,_,_,_,_,_=>none
  | k + 1,x1,x6,x548000,x548001,x548002,x548003,x548004,x553000,x553001,x553002=>if x6 ≥ 0 then (if (wrap64 ((x548002.length:Int) + 1)) = 0 then (none) else (if (Int.tmod x1 (wrap64 ((x548002.length:Int) + 1))) > 0 then (if 0 ≤ (wrap64 ((Int.tmod x1 (wrap64 ((x548002.length:Int) + 1))) - 1)) then (if (wrap64 ((Int.tmod x1 (wrap64 ((x548002.length:Int) + 1))) - 1)) < (x548002.length:Int) then (if 0 ≤ x6 then (if x6 < (x553002.length:Int) then (impl_boardOf.l0 k (wrap64 (Int.tdiv x1 (wrap64 ((x548002.length:Int) + 1)))) (wrap64 (x6 - 1)) x548000 x548001 x548002 x548003 x548004 x553000 x553001 (x553002.set (x6:Int).toNat (⟨(rd_T42 x548002 (wrap64 ((Int.tmod x1 (wrap64 ((x548002.length:Int) + 1))) - 1))).f0,(rd_T42 x548002 (wrap64 ((Int.tmod x1 (wrap64 ((x548002.length:Int) + 1))) - 1))).f1⟩:S42))) else (none)) else (none)) else (none)) else (none)) else (impl_boardOf.l0 k (wrap64 (Int.tdiv x1 (wrap64 ((x548002.length:Int) + 1)))) (wrap64 (x6 - 1)) x548000 x548001 x548002 x548003 x548004 x553000 x553001 x553002))) else (some (x553000,x553001,x553002))
def impl_boardOf.f (k:Nat) (a0_0:Int) (a0_1:Int) (l0_2:List (S42)) (l0_3:List Int) (l0_4:List Int) (a1:Int):Option (Int × Int × (List (S42))):=if 0 ≤ (wrap64 (a0_0 * a0_1)) then (if (wrap64 (a0_0 * a0_1):Int).toNat ≤ 17592186044416 then ((some (List.replicate (wrap64 (a0_0 * a0_1):Int).toNat z42:List (S42))).bind fun y549=>(impl_boardOf.l0 k a1 (wrap64 ((y549.length:Int) - 1)) a0_0 a0_1 l0_2 l0_3 l0_4 a0_0 a0_1 y549)) else (none)) else (none)
theorem impl_boardOf.calls (k:Nat) (a0_0:Int) (a0_1:Int) (A0_2:Option Addr) (c0_2:Nat) (l0_2:List (S42)) (A0_3:Option Addr) (c0_3:Nat) (l0_3:List Int) (A0_4:Option Addr) (c0_4:Nat) (l0_4:List Int) (a1:Int) (r1:Int) (r2:Int) (r3:List (S42)) (w:World) (hr0_2:Kd.C k42 w A0_2 l0_2.length l0_2) (hc0_2:l0_2.length ≤ c0_2) (hr0_3:Kd.C (Kd.int .i64) w A0_3 l0_3.length l0_3) (hc0_3:l0_3.length ≤ c0_3) (hr0_4:Kd.C (Kd.int .i64) w A0_4 l0_4.length l0_4) (hc0_4:l0_4.length ≤ c0_4) (h:impl_boardOf.f k a0_0 a0_1 l0_2 l0_3 l0_4 a1 = some (r1,r2,r3)) :
    Calls Try.prog 182 #[.agg #[.int .i64 a0_0,.int .i64 a0_1,.slice A0_2 l0_2.length c0_2,.slice A0_3 l0_3.length c0_3,.slice A0_4 l0_4.length c0_4],.int .i64 a1] w fun e w'=>∃ v2_:Value,e = .returned (.agg #[.int .i64 r1,.int .i64 r2,v2_])∧Kd.R k42 42 w' w.heap.size (fun _=>True) v2_ r3∧Below w.heap.size w w':=by
 have S:=St.init (w:=w) (dc k42_heap at42 hr0_2 hc0_2 (dc (Kd.heap_int .i64) (atI .i64) hr0_3 hc0_3 (dc (Kd.heap_int .i64) (atI .i64) hr0_4 hc0_4 dn)))
 clear hr0_2 hc0_2 hr0_3 hc0_3 hr0_4 hc0_4
 have F:=S.fc
 have H:=h;clear h;unfold impl_boardOf.f at H
 obtain ⟨ji3,hji3⟩:∃ j_:Int,(wrap64 (a0_0 * a0_1)) = j_:=⟨_,rfl⟩;simp only [hji3] at H
 have hji3w:(IntKind.i64.wrap (a0_0 * a0_1)) = ji3:=(i64_w _).trans hji3
 replace H:=np_ H;obtain ⟨c4,H⟩:=H
 replace H:=np_ H;obtain ⟨c5,H⟩:=H
 (first | (with_reducible replace H:=ob_ H;obtain ⟨y549,hy549,H⟩:=H;(try dsimp only at H)) | (obtain ⟨y549,hy549⟩:∃ y_:List (S42),y_ = (List.replicate (ji3:Int).toNat z42):=⟨_,rfl⟩;(try rw [← hy549] at H);(try simp only [Option.bind_some] at H)));have Ny549:=Aside0.mk hy549;clear hy549
 go_enter Try.func182,Try.ntmps182
 go_wp2_with (first | ((with_reducible refine gd 2 rfl (L ?_));refine bo 2 (.agg #[_,_,_,_,_]) S ?_;clear S F;intro gb547 W S;have F:=S.fc) | ((with_reducible refine gd 4 rfl (L ?_));refine al 4 S zi30 ?_;clear S F;intro gb548 W S;have F:=S.fc) | ((with_reducible refine gs (t:=30) rfl (L ?_));(first | refine sb (.agg #[_,_,_]) S sz30 ?_ | refine ro (.agg #[_,_,_]) S sz30 ?_ (ho:=rfl) (hx:=rfl) (hy:=rfl));clear S F;intro W S;(try simp only [gd42] at S);(try rw [← Ny549.out] at S);have F:=S.fc) | ((with_reducible refine gs (t:=42) rfl (L ?_));(first | refine sb (.agg #[_,_]) S sz42 ?_ | refine ro (.agg #[_,_]) S sz42 ?_ (ho:=rfl) (hx:=rfl) (hy:=rfl));clear S F;intro W S;(try simp only [gd42] at S);(try rw [← Ny549.out] at S);have F:=S.fc))
 refine rgF S (fun _ S=>S) (fkc 11 5 zi30 fk0) [(0,0),(0,2),(0,4),(0,6),(1,1),(1,3),(1,5),(1,7),(0,8),(2,9),(0,10)] [(3,12)] [12] (id:=1) (h:=?_);clear S F;intro W S;have S0:=S;have F:=S.fc
 repeat (first | (refine f0 (h:=?_)) | (refine f1 S0 (h:=?_)) | (refine f0n (h:=?_)) | (refine f1n S0 (h:=?_)))
 refine fe2 S (by rfl) ?_;intro x5_ X W S;simp only [List.cons_append,List.nil_append,putF,Act.put,za_,zb_,zc_] at S ⊢;clear F;have F:=S.fc;refine ⟨rfl,?_⟩;refine mka 17 at42 S Try.underlying24 info42 ?_;clear S F;intro Ay549 cy549 W S;(try simp only [Int.reduceToNat] at S ⊢);(try rw [← Ny549.out] at S ⊢);have F:=S.fc
 clear S0;have S0:=(S.nx X).tl;refine ⟨S0,?_⟩
 repeat (first | (refine f0 (h:=?_)) | (refine f1 S0 (h:=?_)) | (refine f0n (h:=?_)) | (refine f1n S0 (h:=?_)))
 refine fz S ?_;intro gb552 W S;simp only [bxs,fbox,ptr,List.map_cons,List.map_nil,List.cons_append,List.nil_append,putF,Act.put,za_,zb_,zc_] at S ⊢;clear F S0;have S0:=S.tl.tl;have F:=S.fc
 refine lk3 (by rfl) (by exact (Eq.refl true)) ?_;(first | refine sb (.agg #[_,_,_]) S sz30 ?_ | refine ro (.agg #[_,_,_]) S sz30 ?_ (ho:=rfl) (hx:=rfl) (hy:=rfl) | refine sb (.agg #[_,_]) S sz42 ?_ | refine ro (.agg #[_,_]) S sz42 ?_ (ho:=rfl) (hx:=rfl) (hy:=rfl));clear S F;intro W S;(try simp only [gd42] at S);(try rw [← Ny549.out] at S);have F:=S.fc
 refine oz ?_
 try clear S0
 go_wp2_with (first | ((with_reducible refine gs (t:=30) rfl (L ?_));(first | refine sb (.agg #[_,_,_]) S sz30 ?_ | refine ro (.agg #[_,_,_]) S sz30 ?_ (ho:=rfl) (hx:=rfl) (hy:=rfl));clear S F;intro W S;(try simp only [gd42] at S);(try rw [← Ny549.out] at S);have F:=S.fc) | ((with_reducible refine gs (t:=42) rfl (L ?_));(first | refine sb (.agg #[_,_]) S sz42 ?_ | refine ro (.agg #[_,_]) S sz42 ?_ (ho:=rfl) (hx:=rfl) (hy:=rfl));clear S F;intro W S;(try simp only [gd42] at S);(try rw [← Ny549.out] at S);have F:=S.fc))
 go_loopg [1,6] k (fun kq v1 v6 w'=>∃ (x1_1:Int) (x6_1:Int) (x553002_1:List (S42)) (Ax553002_1:Option Addr) (cx553002_1:Nat),v1 = .int .i64 x1_1∧v6 = .int .i64 x6_1∧impl_boardOf.l0 kq x1_1 x6_1 a0_0 a0_1 l0_2 l0_3 l0_4 a0_0 a0_1 x553002_1 = some (r1,r2,r3)∧kq ≤ k∧St w w (fun _=>False) [bor at42 A0_2 c0_2 l0_2,bor (atI .i64) A0_3 c0_3 l0_3,bor (atI .i64) A0_4 c0_4 l0_4] w'  [box gb552 30 [.int .i64 a0_0,.int .i64 a0_1,.slice Ax553002_1 x553002_1.length cx553002_1],row at42 42 Ax553002_1 x553002_1.length cx553002_1 x553002_1,box gb548 30 [.int .i64 0,.int .i64 0,.slice none 0 0],box gb547 27 [.int .i64 a0_0,.int .i64 a0_1,.slice A0_2 l0_2.length c0_2,.slice A0_3 l0_3.length c0_3,.slice A0_4 l0_4.length c0_4]])
 case atStart=>exact ⟨a1,(wrap64 ((y549.length:Int) - 1)),y549,_,_,(by first | rfl | (simp;done) | (simp [*];done) | (rw [w6_ (by omega) (by omega)])),(by first | rfl | (simp;done) | (simp [*];done) | (rw [w6_ (by omega) (by omega)])),H,Nat.le_refl _,S⟩
 case round =>
  clear H S F
  obtain ⟨x1_1,x6_1,x553002_1,Ax553002_1,cx553002_1,rfl,rfl,HA,HK1,S⟩:=hrel
  have F:=S.fc
  cases gk with
  | zero=>exact absurd HA (by simp [impl_boardOf.l0])
  | succ k1 =>
   have H:=HA;clear HA;simp only [impl_boardOf.l0,F] at H
   replace H:=sp_ H;rcases H with ⟨c21,H⟩ | ⟨c21,H⟩
   · skip
     replace H:=nn_ H;obtain ⟨c22,H⟩:=H
     replace c22:=cne c22
     replace H:=sp_ H;rcases H with ⟨c23,H⟩ | ⟨c23,H⟩
     · skip
       obtain ⟨ji24,hji24⟩:∃ j_:Int,(wrap64 ((Int.tmod x1_1 (wrap64 ((l0_2.length:Int) + 1))) - 1)) = j_:=⟨_,rfl⟩;simp only [hji24] at H
       have hji24w:(IntKind.i64.wrap ((Int.tmod x1_1 (wrap64 ((l0_2.length:Int) + 1))) - 1)) = ji24:=(i64_w _).trans hji24
       replace H:=np_ H;obtain ⟨c25,H⟩:=H
       replace H:=np_ H;obtain ⟨c26,H⟩:=H
       replace H:=np_ H;obtain ⟨c27,H⟩:=H
       replace H:=np_ H;obtain ⟨c28,H⟩:=H
       (first | (with_reducible replace H:=ob_ H;obtain ⟨y554,hy554,H⟩:=H;(try dsimp only at H)) | (obtain ⟨y554,hy554⟩:∃ y_:List (S42),y_ = (x553002_1.set (x6_1:Int).toNat (⟨(rd_T42 l0_2 (ji24)).f0,(rd_T42 l0_2 (ji24)).f1⟩:S42)):=⟨_,rfl⟩;(try rw [← hy554] at H);(try simp only [Option.bind_some] at H)));have Ny554:=Aside0.mk hy554;clear hy554
       go_wp2_with (first | ((with_reducible refine gs (t:=30) rfl (L ?_));(first | refine sb (.agg #[_,_,_]) S sz30 ?_ | refine ro (.agg #[_,_,_]) S sz30 ?_ (ho:=rfl) (hx:=rfl) (hy:=rfl));clear S F;intro W S;(try simp only [gd42] at S);(try rw [← Ny549.out] at S);(try rw [← Ny554.out] at S);have F:=S.fc) | ((with_reducible refine gs (t:=42) rfl (L ?_));(first | refine sb (.agg #[_,_]) S sz42 ?_ | refine ro (.agg #[_,_]) S sz42 ?_ (ho:=rfl) (hx:=rfl) (hy:=rfl));clear S F;intro W S;(try simp only [gd42] at S);(try rw [← Ny549.out] at S);(try rw [← Ny554.out] at S);have F:=S.fc))
       refine rq S [(0,0),(0,2),(0,3),(0,5),(0,6),(1,1),(1,4),(0,7),(1,8),(0,9),(3,10)] [10] (h:=?_);clear S F;intro W S;have S0:=S;have F:=S.fc
       repeat (first | (refine q0 (h:=?_)) | (refine q1 S0 (h:=?_)) | (refine q0n (h:=?_)) | (refine q1n S0 (h:=?_)))
       refine lk3 (by rfl) (by exact (Eq.refl true)) ?_;(first | refine sb (.agg #[_,_,_]) S sz30 ?_ | refine ro (.agg #[_,_,_]) S sz30 ?_ (ho:=rfl) (hx:=rfl) (hy:=rfl) | refine sb (.agg #[_,_]) S sz42 ?_ | refine ro (.agg #[_,_]) S sz42 ?_ (ho:=rfl) (hx:=rfl) (hy:=rfl));clear S F;intro W S;(try simp only [gd42] at S);(try rw [← Ny549.out] at S);(try rw [← Ny554.out] at S);have F:=S.fc
       refine oz ?_
       try clear S0
       go_wp2_with (first | ((with_reducible refine gs (t:=30) rfl (L ?_));(first | refine sb (.agg #[_,_,_]) S sz30 ?_ | refine ro (.agg #[_,_,_]) S sz30 ?_ (ho:=rfl) (hx:=rfl) (hy:=rfl));clear S F;intro W S;(try simp only [gd42] at S);(try rw [← Ny549.out] at S);(try rw [← Ny554.out] at S);have F:=S.fc) | ((with_reducible refine gs (t:=42) rfl (L ?_));(first | refine sb (.agg #[_,_]) S sz42 ?_ | refine ro (.agg #[_,_]) S sz42 ?_ (ho:=rfl) (hx:=rfl) (hy:=rfl));clear S F;intro W S;(try simp only [gd42] at S);(try rw [← Ny549.out] at S);(try rw [← Ny554.out] at S);have F:=S.fc))
       go_roundg k1
       case measure=>omega
       case rel=>(try rw [← (show y554.length = x553002_1.length by first | simp only [F] | (have F_:=F;simp only [Ny554.out,List.length_set] at F_;simp only [F_]))] at S);exact ⟨(wrap64 (Int.tdiv x1_1 (wrap64 ((l0_2.length:Int) + 1)))),(wrap64 (x6_1 - 1)),y554,_,_,(by first | rfl | (simp;done) | (simp [*];done) | (rw [w6_ (by omega) (by omega)])),(by first | rfl | (simp;done) | (simp [*];done) | (rw [w6_ (by omega) (by omega)])),H,(by first | omega | exact Nat.le_refl _),S⟩
     · skip
       go_wp2_with (first | ((with_reducible refine gs (t:=30) rfl (L ?_));(first | refine sb (.agg #[_,_,_]) S sz30 ?_ | refine ro (.agg #[_,_,_]) S sz30 ?_ (ho:=rfl) (hx:=rfl) (hy:=rfl));clear S F;intro W S;(try simp only [gd42] at S);(try rw [← Ny549.out] at S);have F:=S.fc) | ((with_reducible refine gs (t:=42) rfl (L ?_));(first | refine sb (.agg #[_,_]) S sz42 ?_ | refine ro (.agg #[_,_]) S sz42 ?_ (ho:=rfl) (hx:=rfl) (hy:=rfl));clear S F;intro W S;(try simp only [gd42] at S);(try rw [← Ny549.out] at S);have F:=S.fc))
       go_roundg k1
       case measure=>omega
       case rel=>exact ⟨(wrap64 (Int.tdiv x1_1 (wrap64 ((l0_2.length:Int) + 1)))),(wrap64 (x6_1 - 1)),x553002_1,_,_,(by first | rfl | (simp;done) | (simp [*];done) | (rw [w6_ (by omega) (by omega)])),(by first | rfl | (simp;done) | (simp [*];done) | (rw [w6_ (by omega) (by omega)])),H,(by first | omega | exact Nat.le_refl _),S⟩
   · skip
     simp only [Option.some.injEq,Prod.mk.injEq] at H
     obtain ⟨rfl,rfl,rfl⟩:=H
     go_wp2_with (first | ((with_reducible refine gs (t:=30) rfl (L ?_));(first | refine sb (.agg #[_,_,_]) S sz30 ?_ | refine ro (.agg #[_,_,_]) S sz30 ?_ (ho:=rfl) (hx:=rfl) (hy:=rfl));clear S F;intro W S;(try simp only [gd42] at S);(try rw [← Ny549.out] at S);have F:=S.fc) | ((with_reducible refine gs (t:=42) rfl (L ?_));(first | refine sb (.agg #[_,_]) S sz42 ?_ | refine ro (.agg #[_,_]) S sz42 ?_ (ho:=rfl) (hx:=rfl) (hy:=rfl));clear S F;intro W S;(try simp only [gd42] at S);(try rw [← Ny549.out] at S);have F:=S.fc))
     refine bodyPost_ret (results_cell_row rfl _ _ gb548 30 #[.int .i64 a0_0,.int .i64 a0_1,.slice Ax553002_1 x553002_1.length cx553002_1] (0,0) _ rfl S.hb Try.underlying30 rfl (by kernel_rfl)) rfl ?_
     exact ⟨_,(by first | rfl | (simp [e0_,e1_] <;> rfl) | (simp [*,e0_,e1_] <;> rfl)),(by first | exact S.r | exact Kd.R_nil _ _ _ _ _),S.below⟩

/-! ### impl_solutionsOf_1: function 181 -/
/-- What a range over solutionsOf does, told as a fold: step is the body. -/
def solFold {σ:Type} (step:Nat→σ→Int→Int→List S42→Option (σ × Bool)) (r c:Int) (p:List S42) (e ns:List Int):Nat→Int→σ→Option (σ × Bool)
 | 0,_,_=>none
 | k + 1,n,s=>(impl_boardsTried.f k r c p e ns).bind fun t=>if n < t then (impl_boardOf.f k r c p e ns n).bind fun b=>(impl_hasEnds.f k r c p e ns b.1 b.2.1 b.2.2).bind fun y=>if y = true then (step k s b.1 b.2.1 b.2.2).bind fun q=>if q.2 = true then solFold step r c p e ns k (wrap64 (n + 1)) q.1 else some (q.1,false) else solFold step r c p e ns k (wrap64 (n + 1)) s else some (s,true)
/-- A board that a call of yield is handed. -/
def BdArg (args:Array Value) (W:World) (base:Nat) (r c:Int) (xs:List S42):Prop:=∃ A cap,args = #[.agg #[.int .i64 r,.int .i64 c,.slice A xs.length cap]]∧Kd.R k42 42 W base (fun _=>True) (.slice A xs.length cap) xs
theorem sols_folds {σ:Type} (step:Nat→σ→Int→Int→List S42→Option (σ × Bool)) (m k:Nat) (gc:Nat) (r c:Int) (A2:Option Addr) (c2:Nat) (p:List S42) (A3:Option Addr) (c3:Nat) (es:List Int) (A4:Option Addr) (c4:Nat) (ns:List Int) (s0:σ) (q:σ × Bool) (O:Nat→Prop) (base:Nat) (W:World) (hbase:base ≤ W.heap.size)
  (hq:∀ W',Kept W W' O→bxr gc 27 [.int .i64 r,.int .i64 c,.slice A2 p.length c2,.slice A3 es.length c3,.slice A4 ns.length c4] W'∧Kd.C k42 W' A2 p.length p∧Kd.C (Kd.int .i64) W' A3 es.length es∧Kd.C (Kd.int .i64) W' A4 ns.length ns)
  (h2:p.length ≤ c2) (h3:es.length ≤ c3) (h4:ns.length ≤ c4) (h:solFold step r c p es ns k 0 s0 = some q) :
  Folds Fence.wide m Try.prog 181 #[.pointer (some ⟨gc,0,none⟩)] (fun s args W1 s' go=>∃ kk r c xs,step kk s r c xs = some (s',go)∧BdArg args W1 base r c xs) (fun W W'=>Kept W W' O) s0 (fun s' go=>q = (s',go)) W:=by
 intro l J Jx hJ hJx hY h0
 refine callsIn_of_wp Try.func181 rfl trivial ?_ rfl
 simp only [Try.ntmps181,List.size_toArray,List.length_cons,List.length_nil,Nat.reduceAdd,Nat.reduceSub,Array.replicate_succ,Array.replicate_zero,List.push_toArray,List.append_toArray,List.nil_append,List.cons_append]
 refine wpIn_wide.2 ?_
 go_wp2
 go_loopg [3] k (fun kq v3 w'=>∃ (i:Int) (s:σ),v3 = .int .i64 i∧solFold step r c p es ns kq i s = some q∧Kept W w' O∧J s w')
 case atStart=>exact ⟨0,s0,rfl,h,Kept.refl _ _,h0⟩
 case round =>
  clear h h0
  obtain ⟨i,s,rfl,H,HK,HJ⟩:=hrel
  obtain ⟨hb,hp,he,hn⟩:=hq _ HK
  have S:=St.init (w:=wr) (db hb (dc k42_heap at42 hp h2 (dc (Kd.heap_int .i64) (atI .i64) he h3 (dc (Kd.heap_int .i64) (atI .i64) hn h4 dn))))
  clear hb hp he hn
  have F:=S.fc
  cases gk with
  | zero=>exact absurd H (by simp [solFold])
  | succ k1 =>
   simp only [solFold] at H
   replace H:=Option.bind_eq_some_iff.mp H;obtain ⟨t,A3_,H⟩:=H;(try dsimp only at H)
   replace H:=sp_ H;rcases H with ⟨ct,H⟩ | ⟨ct,H⟩
   · skip
     replace H:=Option.bind_eq_some_iff.mp H;obtain ⟨⟨b1,b2,b3⟩,A5,H⟩:=H;(try dsimp only at H)
     replace H:=Option.bind_eq_some_iff.mp H;obtain ⟨y,A6,H⟩:=H;(try dsimp only at H)
     replace H:=sp_ H;rcases H with ⟨cy,H⟩ | ⟨cy,H⟩
     · subst cy
       replace H:=Option.bind_eq_some_iff.mp H;obtain ⟨⟨s2,go⟩,A7,H⟩:=H;(try dsimp only at H)
       go_upto_region 4 with (first | ((with_reducible refine gate_callee (f:=128) rfl (L ?_));refine cl (some 7) Try.func128 (impl_boardsTried.calls _ _ _ _ _ _ _ _ _ _ _ _ _ _ S.c S.n S.c S.n S.c S.n A3_) (hargs:=by (simp only [ma_,mb_,mc_,F] <;> rfl)) (h:=?_);rintro e W ⟨rfl,hb⟩;refine ⟨_,rfl,?_⟩;replace S:=S.go hb;clear F hb;have F:=S.fc) | ((with_reducible refine gate_callee (f:=182) rfl (L ?_));refine cl (some 13) Try.func182 (impl_boardOf.calls _ _ _ _ _ _ _ _ _ _ _ _ _ _ _ _ _ S.c S.n S.c S.n S.c S.n A5) (hargs:=by (simp only [ma_,mb_,mc_,F] <;> rfl)) (h:=?_);rintro e W ⟨v432,rfl,ho0,hb⟩;refine ⟨_,rfl,?_⟩;replace S:=S.got at42 hb ho0;obtain ⟨Ab,cb,rfl,S⟩:=S;clear F hb ho0;have F:=S.fc) | ((with_reducible refine gd 4 rfl (L ?_));refine al 4 S zi30 ?_;clear S F;intro gb W S;have F:=S.fc) | ((with_reducible refine gs (t:=30) rfl (L ?_));(first | refine sb (.agg #[_,_,_]) S sz30 ?_ | refine ro (.agg #[_,_,_]) S sz30 ?_ (ho:=rfl) (hx:=rfl) (hy:=rfl));(clear S F;intro W S;have F:=S.fc)))
       refine (wpIn_wide (n:=m)).1 ?_
       gi_wp2_with (refine ⟨trivial,fun h_=>(by cases h_),?_⟩;gi_at_call 100;refine (callsIn_wide.2 (impl_hasEnds.calls _ _ _ _ _ _ _ _ _ _ _ _ _ _ _ _ _ _ _ S.c S.n S.c S.n S.c S.n S.c S.n A6)).mono ?_;rintro e W2 ⟨rfl,hb⟩;replace S:=S.go hb;clear F hb;have F:=S.fc;obtain ⟨fn,tmps,assign,body,hy,hR⟩:=hY s _ W2 s2 go (hJ _ _ _ HJ S.below) ⟨k1,b1,b2,b3,A7,_,_,rfl,Kd.R_lower (Kd.R_mono (S.rk 1 rfl) (fun _ _=>trivial)) (Nat.le_trans hbase HK.1)⟩)
       refine ⟨fun h_=>(by cases h_),?_⟩
       refine hR.mono ?_
       rintro e W3 ⟨rfl,⟨rfl,HJ3,HK3⟩ | ⟨rfl,HX⟩⟩
       · gi_wp2
         go_wp2
         go_roundg k1
         case measure=>omega
         case rel=>exact ⟨_,s2,(by first | rfl | (simp;done) | (simp [*];done) | (rw [w6_ (by omega) (by omega)])),H,kept_trans (Kept.below HK S.below) HK3,HJ3⟩
       · obtain rfl:=Option.some.inj H
         gi_wp2
         go_wp2
         refine bodyPost_ret (results_none rfl _ _ _) rfl ?_
         exact ⟨⟨_,rfl⟩,by first | exact HX | exact Or.inr ⟨_,rfl,HX⟩⟩
     · replace cy:=cbf cy;subst cy
       go_upto_region 4 with (first | ((with_reducible refine gate_callee (f:=128) rfl (L ?_));refine cl (some 7) Try.func128 (impl_boardsTried.calls _ _ _ _ _ _ _ _ _ _ _ _ _ _ S.c S.n S.c S.n S.c S.n A3_) (hargs:=by (simp only [ma_,mb_,mc_,F] <;> rfl)) (h:=?_);rintro e W ⟨rfl,hb⟩;refine ⟨_,rfl,?_⟩;replace S:=S.go hb;clear F hb;have F:=S.fc) | ((with_reducible refine gate_callee (f:=182) rfl (L ?_));refine cl (some 13) Try.func182 (impl_boardOf.calls _ _ _ _ _ _ _ _ _ _ _ _ _ _ _ _ _ S.c S.n S.c S.n S.c S.n A5) (hargs:=by (simp only [ma_,mb_,mc_,F] <;> rfl)) (h:=?_);rintro e W ⟨v432,rfl,ho0,hb⟩;refine ⟨_,rfl,?_⟩;replace S:=S.got at42 hb ho0;obtain ⟨Ab,cb,rfl,S⟩:=S;clear F hb ho0;have F:=S.fc) | ((with_reducible refine gd 4 rfl (L ?_));refine al 4 S zi30 ?_;clear S F;intro gb W S;have F:=S.fc) | ((with_reducible refine gs (t:=30) rfl (L ?_));(first | refine sb (.agg #[_,_,_]) S sz30 ?_ | refine ro (.agg #[_,_,_]) S sz30 ?_ (ho:=rfl) (hx:=rfl) (hy:=rfl));(clear S F;intro W S;have F:=S.fc)))
       refine (wpIn_wide (n:=m)).1 ?_
       gi_wp2_with (refine ⟨trivial,fun h_=>(by cases h_),?_⟩;gi_at_call 100;refine (callsIn_wide.2 (impl_hasEnds.calls _ _ _ _ _ _ _ _ _ _ _ _ _ _ _ _ _ _ _ S.c S.n S.c S.n S.c S.n S.c S.n A6)).mono ?_;rintro e W2 ⟨rfl,hb⟩;replace S:=S.go hb;clear F hb;have F:=S.fc)
       refine ⟨fun _ h_=>(by cases h_),?_⟩
       gi_wp2
       go_wp2
       go_roundg k1
       case measure=>omega
       case rel=>exact ⟨_,s,(by first | rfl | (simp;done) | (simp [*];done) | (rw [w6_ (by omega) (by omega)])),H,Kept.below HK S.below,hJ _ _ _ HJ S.below⟩
   · skip
     obtain rfl:=Option.some.inj H
     go_wp2_with (first | ((with_reducible refine gate_callee (f:=128) rfl (L ?_));refine cl (some 7) Try.func128 (impl_boardsTried.calls _ _ _ _ _ _ _ _ _ _ _ _ _ _ S.c S.n S.c S.n S.c S.n A3_) (hargs:=by (simp only [ma_,mb_,mc_,F] <;> rfl)) (h:=?_);rintro e W ⟨rfl,hb⟩;refine ⟨_,rfl,?_⟩;replace S:=S.go hb;clear F hb;have F:=S.fc))
     go_end0
     exact ⟨⟨_,rfl⟩,by first | exact hJ _ _ _ HJ S.below | exact Or.inl ⟨_,rfl,hJ _ _ _ HJ S.below⟩⟩

/-! ### impl_solutionsOf: function 92 -/
theorem impl_solutionsOf.calls (a0_0:Int) (a0_1:Int) (A0_2:Option Addr) (c0_2:Nat) (l0_2:List (S42)) (A0_3:Option Addr) (c0_3:Nat) (l0_3:List Int) (A0_4:Option Addr) (c0_4:Nat) (l0_4:List Int) (w:World) :
  Calls Try.prog 92 #[.agg #[.int .i64 a0_0,.int .i64 a0_1,.slice A0_2 l0_2.length c0_2,.slice A0_3 l0_3.length c0_3,.slice A0_4 l0_4.length c0_4]] w fun e w'=>∃ g,e = .returned (.func (.func 181) #[] #[.pointer (some ⟨g,0,none⟩)])∧bxr g 27 [.int .i64 a0_0,.int .i64 a0_1,.slice A0_2 l0_2.length c0_2,.slice A0_3 l0_3.length c0_3,.slice A0_4 l0_4.length c0_4] w'∧w.heap.size ≤ g∧Below w.heap.size w w':=by
 have S:=St.init (w:=w) dn
 go_enter Try.func92,Try.ntmps92
 go_wp2_with ((with_reducible refine gd 1 rfl (L ?_));refine bo 1 (.agg #[_,_,_,_,_]) S ?_;clear S;intro g W S)
 go_ret
 exact ⟨g,rfl,(bx_of S).1,(bx_of S).2,S.below⟩

/-! ### impl_FirstSolution: function 10 -/
def impl_FirstSolution.l0:Nat→Int→Int→Int→List (S42)→List Int→List Int→Option (Int × Int × (List (S42)) × Bool)
 | 0,_,_,_,_,_,_=>none
 | k + 1,x14,x556000,x556001,x556002,x556003,x556004=>(impl_boardsTried.f k x556000 x556001 x556002 x556003 x556004).bind fun t558=>(if x14 < t558 then ((impl_boardOf.f k x556000 x556001 x556002 x556003 x556004 x14).bind fun bt559=>((impl_hasEnds.f k x556000 x556001 x556002 x556003 x556004 bt559.1 bt559.2.1 bt559.2.2).bind fun t565=>(if t565 = true then (some (bt559.1,bt559.2.1,bt559.2.2,true)) else (impl_FirstSolution.l0 k (wrap64 (x14 + 1)) x556000 x556001 x556002 x556003 x556004)))) else (some (0,0,([]:List (S42)),false)))
def impl_FirstSolution.f (k:Nat) (a0_0:Int) (a0_1:Int) (l0_2:List (S42)) (l0_3:List Int) (l0_4:List Int):Option (Int × Int × (List (S42)) × Bool):=(impl_IsChallenge.f k a0_0 a0_1 l0_2 l0_3 l0_4).bind fun t557=>(if t557 = true then (impl_FirstSolution.l0 k 0 a0_0 a0_1 l0_2 l0_3 l0_4) else (some (0,0,([]:List (S42)),false)))
theorem St_two {b0 W:World} {g t g2 t2:Nat} {cs cs2:List Value} {D:List (World→Prop)} (hB:Below b0.heap.size b0 W) (hg:b0.heap.size ≤ g) (hg2:b0.heap.size ≤ g2) (h:bxr g t cs W) (h2:bxr g2 t2 cs2 W) (hne:g2 ≠ g) (hD:Dok W (fun k=>k = g∨k = g2) D):St b0 W (fun k=>k = g∨k = g2) D W [box g t cs,box g2 t2 cs2] :=
 ⟨hB,Kept.refl _ _,fun k=>if k = g then 0 else 1,(fun i p hi=>by
  match i,hi with
  | 0,hi=>injection hi with hi;subst hi;exact ⟨⟨if_pos rfl,.inl (.inl rfl)⟩,hg,h⟩
  | 1,hi=>injection hi with hi;subst hi;exact ⟨⟨if_neg hne,.inl (.inr rfl)⟩,hg2,h2⟩),dft hD⟩
theorem keeps_two {B:Nat} {W W':World} {g t g2 t2:Nat} {cs cs2:List Value} (h:bxr g t cs W) (h2:bxr g2 t2 cs2 W) (k:Kept W W' (fun k=>k = g∨k = g2)):KeepsFrom B W W':=⟨k.1,fun i o _ ho hc=>(k.2 i (Array.getElem?_eq_some_iff.1 ho).1 (fun e=>by
  rcases e with e | e
  · subst e;rw [show W.heap[i]? = _ from h] at ho;cases ho;cases hc
  · subst e;rw [show W.heap[i]? = _ from h2] at ho;cases ho;cases hc)).trans ho⟩
def firstStep (k:Nat) (s:Int × Int × List S42) (r c:Int) (xs:List S42):Option ((Int × Int × List S42) × Bool):=some ((r,c,xs),false)
theorem first_fold (r c:Int) (p:List S42) (e ns:List Int):∀ (k:Nat) (n:Int) (q1 q2:Int) (q3:List S42) (q4:Bool),impl_FirstSolution.l0 k n r c p e ns = some (q1,q2,q3,q4)→(q4 = true∧solFold firstStep r c p e ns k n (0,0,[]) = some ((q1,q2,q3),false))∨(q1 = 0∧q2 = 0∧q3 = []∧q4 = false∧solFold firstStep r c p e ns k n (0,0,[]) = some ((0,0,[]),true))
 | 0,_,_,_,_,_,h=>by simp [impl_FirstSolution.l0] at h
 | k + 1,n,q1,q2,q3,q4,h=>by
  simp only [impl_FirstSolution.l0] at h
  simp only [solFold]
  obtain ⟨t,h1,h⟩:=Option.bind_eq_some_iff.mp h
  rw [h1]
  simp only [Option.bind_some]
  split at h
  · rename_i ct
    rw [if_pos ct]
    obtain ⟨b2,h2,h⟩:=Option.bind_eq_some_iff.mp h
    obtain ⟨y,h3,h⟩:=Option.bind_eq_some_iff.mp h
    rw [h2]
    simp only [Option.bind_some]
    rw [h3]
    simp only [Option.bind_some]
    split at h
    · rename_i cy
      rw [if_pos cy]
      simp only [Option.some.injEq,Prod.mk.injEq] at h
      obtain ⟨rfl,rfl,rfl,rfl⟩:=h
      exact .inl ⟨rfl,rfl⟩
    · rename_i cy
      rw [if_neg cy]
      exact first_fold r c p e ns k _ _ _ _ _ h
  · rename_i ct
    rw [if_neg ct]
    simp only [Option.some.injEq,Prod.mk.injEq] at h
    obtain ⟨rfl,rfl,rfl,rfl⟩:=h
    exact .inr ⟨rfl,rfl,rfl,rfl,rfl⟩
theorem results_rs {P:Program} {fn:Func} {p p':Tmp} {ty ty':TypeId} (h:fn.results = #[.cell p ty,.cell p' ty']) (tmps:Array Value) (w:World) (g g':Nat) (t:TypeId) (cs:Array Value) (fr:Nat × Nat) (d:TypeDesc) (v:Value)
  (hp:tmps.getD p undef = .pointer (some ⟨g,0,none⟩)) (hp':tmps.getD p' undef = .pointer (some ⟨g',0,none⟩)) (hg:w.heap[g]? = some (.cells cs t fr))
  (hu:P.underlying ty = some d) (hd:(match d with | .struct _ | .array _ _=>true | _=>false) = true) (hi:(P.info? ty).map (·.size) = some cs.size) (hv:(loadVar ty' ⟨g',0,none⟩).run P w = .ok v w) :
  (results fn tmps).run P w = .ok (.tuple #[.agg cs,v]) w:=by
 have h1:tmps[p]?.getD undef = .pointer (some ⟨g,0,none⟩):=by simpa using hp
 have h2:tmps[p']?.getD undef = .pointer (some ⟨g',0,none⟩):=by simpa using hp'
 simp [results,h,h1,h2,asAddr,run_loadVar_row w g t ty cs fr d hg hu hd hi,hv]
theorem impl_FirstSolution.calls (k:Nat) (a0_0:Int) (a0_1:Int) (A0_2:Option Addr) (c0_2:Nat) (l0_2:List (S42)) (A0_3:Option Addr) (c0_3:Nat) (l0_3:List Int) (A0_4:Option Addr) (c0_4:Nat) (l0_4:List Int) (r1:Int) (r2:Int) (r3:List (S42)) (r4:Bool) (w:World) (hr0_2:Kd.C k42 w A0_2 l0_2.length l0_2) (hc0_2:l0_2.length ≤ c0_2) (hr0_3:Kd.C (Kd.int .i64) w A0_3 l0_3.length l0_3) (hc0_3:l0_3.length ≤ c0_3) (hr0_4:Kd.C (Kd.int .i64) w A0_4 l0_4.length l0_4) (hc0_4:l0_4.length ≤ c0_4) (h:impl_FirstSolution.f k a0_0 a0_1 l0_2 l0_3 l0_4 = some (r1,r2,r3,r4)) :
  Calls Try.prog 10 #[.agg #[.int .i64 a0_0,.int .i64 a0_1,.slice A0_2 l0_2.length c0_2,.slice A0_3 l0_3.length c0_3,.slice A0_4 l0_4.length c0_4]] w fun e w'=>∃ v2_:Value,e = .returned (.tuple #[.agg #[.int .i64 r1,.int .i64 r2,v2_],.bool r4])∧Kd.R k42 42 w' w.heap.size (fun _=>True) v2_ r3∧Below w.heap.size w w':=by
 unfold impl_FirstSolution.f at h
 obtain ⟨t,A2,h⟩:=Option.bind_eq_some_iff.mp h
 have S:=St.init (w:=w) (dc k42_heap at42 hr0_2 hc0_2 (dc (Kd.heap_int .i64) (atI .i64) hr0_3 hc0_3 (dc (Kd.heap_int .i64) (atI .i64) hr0_4 hc0_4 dn)))
 have F:=S.fc
 refine (callsIn_wide (n:=9)).1 ?_
 refine callsIn_of_wp_marks Try.func10 rfl trivial ?_ rfl
 simp only [Try.ntmps10,List.size_toArray,List.length_cons,List.length_nil,Nat.reduceAdd,Nat.reduceSub,Array.replicate_succ,Array.replicate_zero,List.push_toArray,List.append_toArray,List.nil_append,List.cons_append]
 refine wpIn_wide.2 ?_
 have ld:∀ (W:World) (g:Nat) (b:Bool),bxr g 4 [.bool b] W→(loadVar 4 ⟨g,0,none⟩).run Try.prog W = .ok (.bool b) W:=fun W g b hb=>by
  have hc:W.cell? ⟨g,0,none⟩ = some (.bool b):=(blk_cell hb 0).trans rfl
  have hu:=Try.underlying4
  go_simp
 by_cases ct:t = true
 case neg =>
  rw [if_neg ct] at h
  replace ct:=cbf ct;subst ct
  simp only [Option.some.injEq,Prod.mk.injEq] at h
  obtain ⟨rfl,rfl,rfl,rfl⟩:=h
  go_wp2_with (first | ((with_reducible refine gd 1 rfl (L ?_));refine bo 1 (.agg #[_,_,_,_,_]) S ?_;clear S F;intro gb W S;have F:=S.fc) | ((with_reducible refine gd 2 rfl (L ?_));refine al 2 S zi30 ?_;clear S F;intro gr W S;have F:=S.fc) | ((with_reducible refine gd 3 rfl (L ?_));refine al 3 S zi4 ?_;clear S F;intro gk W S;have F:=S.fc) | ((with_reducible refine gate_callee (f:=37) rfl (L ?_));refine cl (some 6) Try.func37 (impl_IsChallenge.calls _ _ _ _ _ _ _ _ _ _ _ _ _ _ S.c S.n S.c S.n S.c S.n A2) (hargs:=by (simp only [ma_,mb_,mc_,F] <;> rfl)) (h:=?_);rintro e W ⟨rfl,hb⟩;refine ⟨_,rfl,?_⟩;replace S:=S.go hb;clear F hb;have F:=S.fc) | ((with_reducible refine gs (t:=30) rfl (L ?_));(first | refine sb (.agg #[_,_,_]) S sz30 ?_ | refine ro (.agg #[_,_,_]) S sz30 ?_ (ho:=rfl) (hx:=rfl) (hy:=rfl));(clear S F;intro W S;have F:=S.fc)) | ((with_reducible refine gs (t:=4) rfl (L ?_));(first | refine sb (.bool _) S sz4 ?_ | refine ro (.bool _) S sz4 ?_ (ho:=rfl) (hx:=rfl) (hy:=rfl));(clear S F;intro W S;have F:=S.fc)))
  have hk:=bx_all S 0 rfl
  have hr:=bx_all S 1 rfl
  exact ⟨_,results_rs rfl _ _ gr gk 30 #[.int .i64 0,.int .i64 0,.slice none 0 0] (0,0) _ (.bool false) rfl rfl hr.1 Try.underlying30 rfl (by kernel_rfl) (ld _ _ _ hk.1),_,rfl,Kd.R_nil _ _ _ _ _,S.below⟩
 subst ct
 rw [if_pos rfl] at h
 obtain ⟨q,hq,hqc⟩:∃ q,solFold firstStep a0_0 a0_1 l0_2 l0_3 l0_4 k 0 (0,0,[]) = some q∧((q = ((r1,r2,r3),false)∧r4 = true)∨(q = ((0,0,[]),true)∧r1 = 0∧r2 = 0∧r3 = []∧r4 = false)):=by
  rcases first_fold _ _ _ _ _ k _ _ _ _ _ h with ⟨h1,h2⟩ | ⟨h1,h2,h3,h4,h5⟩
  · exact ⟨_,h2,.inl ⟨rfl,h1⟩⟩
  · exact ⟨_,h5,.inr ⟨rfl,h1,h2,h3,h4⟩⟩
 clear h
 go_wp2_with (first | ((with_reducible refine gd 1 rfl (L ?_));refine bo 1 (.agg #[_,_,_,_,_]) S ?_;clear S F;intro gb W S;have F:=S.fc) | ((with_reducible refine gd 2 rfl (L ?_));refine al 2 S zi30 ?_;clear S F;intro gr W S;have F:=S.fc) | ((with_reducible refine gd 3 rfl (L ?_));refine al 3 S zi4 ?_;clear S F;intro gk W S;have F:=S.fc) | ((with_reducible refine gate_callee (f:=37) rfl (L ?_));refine cl (some 6) Try.func37 (impl_IsChallenge.calls _ _ _ _ _ _ _ _ _ _ _ _ _ _ S.c S.n S.c S.n S.c S.n A2) (hargs:=by (simp only [ma_,mb_,mc_,F] <;> rfl)) (h:=?_);rintro e W ⟨rfl,hb⟩;refine ⟨_,rfl,?_⟩;replace S:=S.go hb;clear F hb;have F:=S.fc) | ((with_reducible refine gate_callee (f:=92) rfl (L ?_));refine cl (some 10) Try.func92 (impl_solutionsOf.calls _ _ _ _ _ _ _ _ _ _ _ W) (hargs:=by (simp only [ma_,mb_,mc_,F] <;> rfl)) (h:=?_);rintro e W2 ⟨gc,rfl,hgc,hge,hb⟩;refine ⟨_,rfl,?_⟩;have hl1:=blk_lt (bx_all S 0 rfl).1;have hl2:=blk_lt (bx_all S 1 rfl).1;replace S:=S.go hb;clear F hb;have F:=S.fc))
 (try simp only [Act.put,za_,zb_,zc_])
 have hB:=S.below
 have hk:=bx_all S 0 rfl
 have hr:=bx_all S 1 rfl
 have nk:=bx_ne S 0 1 rfl rfl
 have hlk:=blk_lt hk.1
 have hlr:=blk_lt hr.1
 have hlc:=blk_lt hgc
 have hsz:=hB.size
 clear F S
 refine (wpIn_wide (n:=9)).1 ?_
 refine wpIn_folds (σ:=Int × Int × List S42) (gf:=181) (lb:=#[.pointer (some ⟨gc,0,none⟩)]) (fin:=fun s' go=>q = (s',go)) (s0:=(0,0,[])) rfl (by decide) rfl trivial (enters_ Try.func181 (by kernel_rfl) rfl)
  (fun Wl hb hz=>sols_folds firstStep _ k gc a0_0 a0_1 A0_2 c0_2 l0_2 A0_3 c0_3 l0_3 A0_4 c0_4 l0_4 (0,0,[]) q (fun j=>(j = gr∨j = gk)∨j = W2.heap.size + 1) (W2.heap.size + 2) Wl hz (fun W' hk=>?hq) hc0_2 hc0_3 hc0_4 hq)
  kept_trans (fun W o _=>kept_put _ _ (.inr rfl)) (fun s args W s' go hR=>by obtain ⟨_,_,_,_,_,_,_,rfl,_⟩:=hR;rfl)
  (fun s W=>bxr gr 30 [.int .i64 0,.int .i64 0,.slice none 0 0] W∧bxr gk 4 [.bool false] W∧Below w.heap.size w W)
  (fun c s W=>c = .ret∧(∃ A cc,bxr gr 30 [.int .i64 s.1,.int .i64 s.2.1,.slice A s.2.2.length cc] W∧Kd.R k42 42 W (W2.heap.size + 2) (fun j=>W2.heap.size + 2 ≤ j) (.slice A s.2.2.length cc) s.2.2)∧bxr gk 4 [.bool true] W∧Below w.heap.size w W)
  (fun s W W' hs hg=>⟨bxr_grown hs.1 hg (by omega),bxr_grown hs.2.1 hg (by omega),hs.2.2.grown hg hs.2.2.size (fun k e=>by cases e;omega)⟩)
  (fun c s W W' hs hg=>by
   obtain ⟨h1,⟨A,cc,h2,h3⟩,h4,h5⟩:=hs
   exact ⟨h1,⟨A,cc,bxr_grown h2 hg (by omega),Kd.R_step h3 (fun j hj hl=>hg.block j hl (by simp;omega))⟩,bxr_grown h4 hg (by omega),h5.grown hg h5.size (fun k e=>by cases e;omega)⟩)
  ⟨hr.1,hk.1,hB⟩
  (fun s args a' s' go W=>(bxr gr 30 [.int .i64 0,.int .i64 0,.slice none 0 0] W∧bxr gk 4 [.bool false] W∧Below w.heap.size w W)∧∃ gL R C xs A cap,s' = (R,C,xs)∧go = false∧gL ≠ gr∧gL ≠ gk∧gL ≠ W2.heap.size + 1∧bxr gL 30 [.int .i64 R,.int .i64 C,.slice A xs.length cap] W∧Kd.R k42 42 W (W2.heap.size + 2) (fun j=>W2.heap.size + 2 ≤ j) (.slice A xs.length cap) xs∧a' = { tmps:=#[.agg #[.int .i64 a0_0,.int .i64 a0_1,.slice A0_2 l0_2.length c0_2,.slice A0_3 l0_3.length c0_3,.slice A0_4 l0_4.length c0_4],.pointer (some ⟨gb,0,none⟩),.pointer (some ⟨gr,0,none⟩),.pointer (some ⟨gk,0,none⟩),.pointer (some ⟨gL,0,none⟩),.agg #[.int .i64 a0_0,.int .i64 a0_1,.slice A0_2 l0_2.length c0_2,.slice A0_3 l0_3.length c0_3,.slice A0_4 l0_4.length c0_4],.bool true,.bool false,undef,.agg #[.int .i64 a0_0,.int .i64 a0_1,.slice A0_2 l0_2.length c0_2,.slice A0_3 l0_3.length c0_3,.slice A0_4 l0_4.length c0_4],.func (.func 181) #[] #[.pointer (some ⟨gc,0,none⟩)],.agg #[.int .i64 R,.int .i64 C,.slice A xs.length cap],undef,undef],defers:=[] }) ?hA ?assign ?body ?done ?stop
 case hq =>
  have key:∀ j,j < w.heap.size→W'.heap[j]? = w.heap[j]?:=fun j hj=>(hk.2 j (by have:=hb.size;omega) (by have:=hr.2;omega)).trans ((hb.block j (by omega)).trans (hB.block j hj))
  exact ⟨(hk.2 gc (by have:=hb.size;omega) (by omega)).trans ((hb.block gc hlc).trans hgc),k42_heap.C key hr0_2,(Kd.heap_int .i64).C key hr0_3,(Kd.heap_int .i64).C key hr0_4⟩
 case hA =>
  rintro s args a' s' go _ W W' ⟨hs,gL,R,C,xs,A,cap,h0,h1,h2,h3,h4,h5,h6,h7⟩ hg
  exact ⟨⟨bxr_grown hs.1 hg (by omega),bxr_grown hs.2.1 hg (by omega),hs.2.2.grown hg hs.2.2.size (fun k e=>by cases e;omega)⟩,gL,R,C,xs,A,cap,h0,h1,h2,h3,h4,bxr_grown h5 hg h4,Kd.R_step h6 (fun j hj hl=>hg.block j hl (by simp;omega)),h7⟩
 case assign =>
  rintro l s args W s' go K hz ⟨h1,h2,h3⟩ ⟨kk,R,C,xs,hst,A,cap,rfl,hR⟩ hK
  cases hst
  have S:=St.init (w:=W) dn
  refine reg_in rfl (by rintro ⟨_,_,h⟩;exact h) ?_
  rw [zip1]
  simp only [za_,zb_,zc_]
  go_wp2_with (first | ((with_reducible refine gd 4 rfl (L ?_));refine al 4 S zi30 ?_;clear S;intro gL W S) | ((with_reducible refine gs (t:=30) rfl (L ?_));(first | refine sb (.agg #[_,_,_]) S sz30 ?_ | refine ro (.agg #[_,_,_]) S sz30 ?_ (ho:=rfl) (hx:=rfl) (hy:=rfl));clear S;intro W S))
  have hg:=bx_of S
  refine hK _ _ (keeps_below S.below) (Kept.of_below S.below _) ⟨⟨bxr_below h1 S.below,bxr_below h2 S.below,below_step h3 S.below⟩,gL,R,C,xs,A,cap,(by first | rfl | trivial),(by first | rfl | trivial),?_,?_,?_,hg.1,Kd.R_mono (Kd.R_bound (Kd.R_below hR S.below)) (fun j hj=>hj.2.1),rfl⟩
  · have:=blk_lt h1;omega
  · have:=blk_lt h2;omega
  · omega
 case body =>
  rintro l s args a' W s' go ⟨⟨h1,h2,hB3⟩,gL,R,C,xs,A,cap,rfl,rfl,n1,n2,n3,hb,hR,rfl⟩
  obtain ⟨W_,hW_⟩:∃ W_,W_ = W:=⟨W,rfl⟩
  rw [← hW_] at h1 h2 hB3 hb hR ⊢
  clear hW_
  have S:=St_two hB3 hr.2 hk.2 h1 h2 nk (dbx hb (fun e=>e.elim n1 n2) (dro at42 hR (fun j hj e=>by omega) dn))
  have F:=S.fc
  refine wpIn_block ?_
  apply wpIn_seq_k
  intro K hK
  refine reg_in rfl (by rintro ⟨_,_,h⟩;exact h) ?_
  go_wp2_with (first | ((with_reducible refine gs (t:=30) rfl (L ?_));(first | refine sb (.agg #[_,_,_]) S sz30 ?_ | refine ro (.agg #[_,_,_]) S sz30 ?_ (ho:=rfl) (hx:=rfl) (hy:=rfl));(clear S F;intro W S;have F:=S.fc)) | ((with_reducible refine gs (t:=4) rfl (L ?_));(first | refine sb (.bool _) S sz4 ?_ | refine ro (.bool _) S sz4 ?_ (ho:=rfl) (hx:=rfl) (hy:=rfl));(clear S F;intro W S;have F:=S.fc)))
  refine wpIn_ret ?_
  exact ⟨(by first | rfl | trivial),keeps_two h1 h2 S.kept,(by first | rfl | trivial),⟨A,cap,bx_at S 0 rfl,Kd.R_step hR (fun j hj hl=>S.kept.2 j hl (by omega))⟩,bx_at S 1 rfl,S.below⟩
 case done =>
  rintro s' W hs ⟨h1,h2,hB3⟩ hD
  have hDl:=blk_lt hD
  rcases hqc with ⟨e,_⟩ | ⟨e,rfl,rfl,rfl,rfl⟩
  · rw [e] at hs;cases hs
  have S:=St_two hB3 hr.2 hk.2 h1 h2 nk dn
  have F:=S.fc
  go_wp2_with (first | ((with_reducible refine gs (t:=30) rfl (L ?_));(first | refine sb (.agg #[_,_,_]) S sz30 ?_ | refine ro (.agg #[_,_,_]) S sz30 ?_ (ho:=rfl) (hx:=rfl) (hy:=rfl));(clear S F;intro W S;have F:=S.fc)) | ((with_reducible refine gs (t:=4) rfl (L ?_));(first | refine sb (.bool _) S sz4 ?_ | refine ro (.bool _) S sz4 ?_ (ho:=rfl) (hx:=rfl) (hy:=rfl));(clear S F;intro W S;have F:=S.fc)))
  have hD2:=(S.kept.2 _ hDl (by omega)).trans hD
  have hg9:=grownBy_putObj' W W2.heap.size (.deferred none)
  refine ⟨by simp,.inl ⟨_,_,rfl,run_takeDeferred hD2,?_⟩⟩
  exact ⟨_,results_rs rfl _ _ gr gk 30 #[.int .i64 0,.int .i64 0,.slice none 0 0] (0,0) _ (.bool false) rfl rfl (bxr_grown (bx_at S 0 rfl) hg9 (by omega)) Try.underlying30 rfl (by kernel_rfl) (ld _ _ _ (bxr_grown (bx_at S 1 rfl) hg9 (by omega))),_,rfl,Kd.R_nil _ _ _ _ _,S.below.grown hg9 S.below.size (fun k e=>by cases e;exact hsz)⟩
 case stop =>
  rintro c s' W hs ⟨rfl,⟨A,cc,h1,hR⟩,h2,hB3⟩ hD
  rcases hqc with ⟨e,rfl⟩ | ⟨e,_⟩
  case inr=>rw [e] at hs;cases hs
  rw [e] at hs
  cases hs
  have hg9:=grownBy_putObj' W W2.heap.size (.deferred none)
  refine wpIn_ret ?_
  refine ⟨by simp,.inl ⟨_,_,rfl,run_takeDeferred hD,?_⟩⟩
  exact ⟨_,results_rs rfl _ _ gr gk 30 #[.int .i64 r1,.int .i64 r2,.slice A r3.length cc] (0,0) _ (.bool true) rfl rfl (bxr_grown h1 hg9 (by omega)) Try.underlying30 rfl (by kernel_rfl) (ld _ _ _ (bxr_grown h2 hg9 (by omega))),_,rfl,Kd.R_lower (Kd.R_mono (Kd.R_step hR (fun j hj hl=>hg9.block j hl (by simp;omega))) (fun _ _=>trivial)) (by omega),hB3.grown hg9 hB3.size (fun k e=>by cases e;exact hsz)⟩

/-! ### spec_l1All: function 124 -/
def spec_l1All.l0:Nat→Int→Int→List Int→Int→Int→Option (Bool)
 | 0,_,_,_,_,_=>none
 | k + 1,x1,x2,x9,x10,x11=>if x11 < x10 then (if 0 ≤ x11 then (if x11 < (x9.length:Int) then ((spec_l1In.f (rd x9 x11) x1 x2).bind fun t567=>(if t567 = true then (spec_l1All.l0 k x1 x2 x9 x10 (wrap64 (x11 + 1))) else (some false))) else (none)) else (none)) else (some true)
def spec_l1All.f (k:Nat) (l0:List Int) (a1:Int) (a2:Int):Option (Bool):=spec_l1All.l0 k a1 a2 l0 (l0.length:Int) 0
theorem spec_l1All.calls (k:Nat) (A0:Option Addr) (c0:Nat) (l0:List Int) (a1:Int) (a2:Int) (r:Bool) (w:World) (hr0:Kd.C (Kd.int .i64) w A0 l0.length l0) (hc0:l0.length ≤ c0) (h:spec_l1All.f k l0 a1 a2 = some r) :
  Calls Try.prog 124 #[.slice A0 l0.length c0,.int .i64 a1,.int .i64 a2] w fun e w'=>e = .returned (.bool r)∧Drawn0 w w':=by
 have HR0:=Aside0.mk hr0;have HC0:=Aside0.mk hc0;clear hr0 hc0;have H:(spec_l1All.l0 k a1 a2 l0 (l0.length:Int) 0) = some r:=h;clear h;have H':=Aside0.mk H;clear H;go_enter Try.func124,Try.ntmps124;go_wp2;go_loopg [11] k (fun kq v11 w'=>∃ (x11_1:Int),v11 = .int .i64 x11_1∧Aside0 (spec_l1All.l0 kq a1 a2 l0 (l0.length:Int) x11_1 = some r)∧Aside0 (kq ≤ k)∧Drawn0 w w')
 case atStart=>exact ⟨(0),(by first | rfl | (simp;done) | (simp [*];done)),H',⟨Nat.le_refl _⟩,by repeat (first | exact Drawn0.refl _ | apply Drawn0.step)⟩
 case round =>
  clear H';(try clear c1);(try clear p2);obtain ⟨x11_1,rfl,HA,HK1,⟨m1,rfl⟩⟩:=hrel;cases gk with
  | zero=>exact absurd HA.out (by simp [spec_l1All.l0])
  | succ k1 =>
   have H:=HA.out;clear HA;simp only [spec_l1All.l0] at H;by_cases c4:x11_1 < (l0.length:Int)
   ·rw [if_pos c4] at H;have c4b0:decide (x11_1 < (l0.length:Int)) = true:=decide_eq_true c4;clear c4;replace H:=np_ H;obtain ⟨c5,H⟩:=H;have c5b0:decide (0 ≤ x11_1) = true:=decide_eq_true c5;clear c5;replace H:=np_ H;obtain ⟨c6,H⟩:=H;have c6b0:decide (x11_1 < (l0.length:Int)) = true:=decide_eq_true c6;clear c6;replace H:=Option.bind_eq_some_iff.mp H;obtain ⟨t567,A70,H⟩:=H;(try dsimp only at H)
    have A7:=Aside0.mk A70;clear A70;by_cases c8:t567 = true
    ·subst c8;have H1:(spec_l1All.l0 k1 a1 a2 l0 (l0.length:Int) (wrap64 (x11_1 + 1))) = some r:=by rw [if_pos rfl] at H;exact H
     clear H;have H:=H1;clear H1;have H':=Aside0.mk H;clear H;have p566:0 ≤ (x11_1:Int):=of_decide_eq_true (by first | (with_reducible assumption) | assumption);have q566:x11_1 < (l0.length:Int):=of_decide_eq_true (by first | (with_reducible assumption) | assumption);obtain ⟨ad566,e566,hx566_0⟩:=Kd.at_int HR0.out x11_1 p566 q566;cases e566;replace p566:=eq_true p566;replace q566:=eq_true q566;go_wp2_with (first | ((with_reducible refine gate_callee (f:=116) rfl ?_);refine gL_ (some 18) Try.func116 #[.int .i64 (rd l0 x11_1),.int .i64 a1,.int .i64 a2] (h:=?_);(with_reducible refine (spec_l1In.calls (rd l0 x11_1) a1 a2 true _ A7.out).mono ?_);rintro e w' ⟨rfl,⟨nd,rfl⟩⟩;refine ⟨_,rfl,?_⟩))
     go_roundg k1
     case measure=>have:=HK1.out;omega
     case rel=>exact ⟨(wrap64 (x11_1 + 1)),(by first | rfl | (simp;done) | (simp [*];done)),H',⟨by have:=HK1.out;omega⟩,by repeat (first | exact Drawn0.refl _ | apply Drawn0.step)⟩
    ·replace c8:=Bool.eq_false_iff.mpr c8;subst c8;have H1:(some false) = some r:=by rw [if_neg (show ¬ (false = true) by decide)] at H;exact H
     clear H;have H:=H1;clear H1;obtain rfl:=Option.some.inj H;have p566:0 ≤ (x11_1:Int):=of_decide_eq_true (by first | (with_reducible assumption) | assumption);have q566:x11_1 < (l0.length:Int):=of_decide_eq_true (by first | (with_reducible assumption) | assumption);obtain ⟨ad566,e566,hx566_0⟩:=Kd.at_int HR0.out x11_1 p566 q566;cases e566;replace p566:=eq_true p566;replace q566:=eq_true q566;go_wp2_with (first | ((with_reducible refine gate_callee (f:=116) rfl ?_);refine gL_ (some 18) Try.func116 #[.int .i64 (rd l0 x11_1),.int .i64 a1,.int .i64 a2] (h:=?_);(with_reducible refine (spec_l1In.calls (rd l0 x11_1) a1 a2 false _ A7.out).mono ?_);rintro e w' ⟨rfl,⟨nd,rfl⟩⟩;refine ⟨_,rfl,?_⟩))
     go_ret;exact ⟨by first | rfl | (simp;done) | (simp [*];done),by repeat (first | exact Drawn0.refl _ | apply Drawn0.step)⟩
   ·rw [if_neg c4] at H;have c4b0:decide (x11_1 < (l0.length:Int)) = false:=decide_eq_false c4;clear c4;obtain rfl:=Option.some.inj H;go_wp2;go_ret;exact ⟨by first | rfl | (simp;done) | (simp [*];done),by repeat (first | exact Drawn0.refl _ | apply Drawn0.step)⟩

/-! ### spec_paGood: function 180 -/
def spec_paGood.f (a0_0:Int) (a0_1:Int):Option (Bool):=(spec_l1In.f a0_0 0 7).bind fun t569=>(if t569 = true then (if a0_1 = 0 then (some true) else (if a0_1 = 1 then ((spec_paTurning.f a0_0 a0_1).bind fun t570=>(some t570)) else (some false))) else (some false))
theorem spec_paGood.calls (a0_0:Int) (a0_1:Int) (r:Bool) (w:World) (h:spec_paGood.f a0_0 a0_1 = some r) :
    Calls Try.prog 180 #[.agg #[.int .i64 a0_0,.int .i64 a0_1]] w fun e w'=>e = .returned (.bool r)∧Below w.heap.size w w':=by
 have S:=St.init (w:=w) dn
 have F:=S.fc
 have H:=h;clear h;unfold spec_paGood.f at H
 replace H:=Option.bind_eq_some_iff.mp H;obtain ⟨t569,A2,H⟩:=H;(try dsimp only at H)
 replace H:=sp_ H;rcases H with ⟨c3,H⟩ | ⟨c3,H⟩
 · skip
   subst c3
   replace H:=sp_ H;rcases H with ⟨c4,H⟩ | ⟨c4,H⟩
   · skip
     replace c4:=ceq c4
     obtain rfl:=Option.some.inj H
     go_enter Try.func180,Try.ntmps180
     go_wp2_with (first | ((with_reducible refine gd 1 rfl (L ?_));refine bo 1 (.agg #[_,_]) S ?_;clear S F;intro gb568 W S;have F:=S.fc) | ((with_reducible refine gate_callee (f:=116) rfl (L ?_));refine cl (some 5) Try.func116 (spec_l1In.calls _ _ _ _ _ A2) (hargs:=by (simp only [ma_,mb_,mc_,F] <;> rfl)) (h:=?_);rintro e W ⟨rfl,hb⟩;refine ⟨_,rfl,?_⟩;replace S:=S.gw hb;clear F hb;have F:=S.fc))
     go_ret
     exact ⟨(by first | rfl | (simp [e0_,e1_] <;> rfl) | (simp [*,e0_,e1_] <;> rfl)),S.below⟩
   · skip
     replace c4:=cne c4
     replace H:=sp_ H;rcases H with ⟨c7,H⟩ | ⟨c7,H⟩
     · skip
       replace c7:=ceq c7
       replace H:=Option.bind_eq_some_iff.mp H;obtain ⟨t570,A8,H⟩:=H;(try dsimp only at H)
       obtain rfl:=Option.some.inj H
       go_enter Try.func180,Try.ntmps180
       go_wp2_with (first | ((with_reducible refine gd 1 rfl (L ?_));refine bo 1 (.agg #[_,_]) S ?_;clear S F;intro gb568 W S;have F:=S.fc) | ((with_reducible refine gate_callee (f:=116) rfl (L ?_));refine cl (some 5) Try.func116 (spec_l1In.calls _ _ _ _ _ A2) (hargs:=by (simp only [ma_,mb_,mc_,F] <;> rfl)) (h:=?_);rintro e W ⟨rfl,hb⟩;refine ⟨_,rfl,?_⟩;replace S:=S.gw hb;clear F hb;have F:=S.fc) | (go_at_call 214;(try simp only [F]);refine (spec_paTurning.calls _ _ _ _ A8).mono ?_;rintro e W ⟨rfl,hb⟩;replace S:=S.go hb;clear F hb;have F:=S.fc))
       go_ret
       exact ⟨(by first | rfl | (simp [e0_,e1_] <;> rfl) | (simp [*,e0_,e1_] <;> rfl)),S.below⟩
     · skip
       replace c7:=cne c7
       obtain rfl:=Option.some.inj H
       go_enter Try.func180,Try.ntmps180
       go_wp2_with (first | ((with_reducible refine gd 1 rfl (L ?_));refine bo 1 (.agg #[_,_]) S ?_;clear S F;intro gb568 W S;have F:=S.fc) | ((with_reducible refine gate_callee (f:=116) rfl (L ?_));refine cl (some 5) Try.func116 (spec_l1In.calls _ _ _ _ _ A2) (hargs:=by (simp only [ma_,mb_,mc_,F] <;> rfl)) (h:=?_);rintro e W ⟨rfl,hb⟩;refine ⟨_,rfl,?_⟩;replace S:=S.gw hb;clear F hb;have F:=S.fc))
       go_ret
       exact ⟨(by first | rfl | (simp [e0_,e1_] <;> rfl) | (simp [*,e0_,e1_] <;> rfl)),S.below⟩
 · skip
   replace c3:=cbf c3;subst c3
   obtain rfl:=Option.some.inj H
   go_enter Try.func180,Try.ntmps180
   go_wp2_with (first | ((with_reducible refine gd 1 rfl (L ?_));refine bo 1 (.agg #[_,_]) S ?_;clear S F;intro gb568 W S;have F:=S.fc) | ((with_reducible refine gate_callee (f:=116) rfl (L ?_));refine cl (some 5) Try.func116 (spec_l1In.calls _ _ _ _ _ A2) (hargs:=by (simp only [ma_,mb_,mc_,F] <;> rfl)) (h:=?_);rintro e W ⟨rfl,hb⟩;refine ⟨_,rfl,?_⟩;replace S:=S.gw hb;clear F hb;have F:=S.fc))
   go_ret
   exact ⟨(by first | rfl | (simp [e0_,e1_] <;> rfl) | (simp [*,e0_,e1_] <;> rfl)),S.below⟩

/-! ### spec_syGood: function 93 -/
mutual
def spec_syGood.l0:Nat→List (S42)→Int→Int→Int→Int→List (S42)→List Int→List Int→Option (Bool)
 | 0,_,_,_,_,_,_,_,_=>none
 | k + 1,x8,x9,x10,x572000,x572001,x572002,x572003,x572004=>if x10 < x9 then (if 0 ≤ x10 then (if x10 < (x8.length:Int) then ((spec_paGood.f ((rd_T42 x8 x10).f0) ((rd_T42 x8 x10).f1)).bind fun t574=>(if t574 = true then (spec_syGood.j1 k x10 x8 x9 x10 (((rd_T42 x8 x10).f0) == 0) x572000 x572001 x572002 x572003 x572004 ((rd_T42 x8 x10).f0) ((rd_T42 x8 x10).f1)) else (spec_syGood.j1 k x10 x8 x9 x10 true x572000 x572001 x572002 x572003 x572004 ((rd_T42 x8 x10).f0) ((rd_T42 x8 x10).f1)))) else (none)) else (none)) else ((spec_l1In.f x572000 1 4).bind fun t581=>(if t581 = true then ((spec_l1In.f x572001 1 4).bind fun t582=>(if t582 = true then ((spec_l1In.f (x572002.length:Int) 1 6).bind fun t583=>(if t583 = true then ((spec_l1In.f (x572003.length:Int) 1 8).bind fun t584=>(if t584 = true then (spec_syGood.j3 k ((x572004.length:Int) != (x572003.length:Int)) x572000 x572001 x572002 x572003 x572004) else (spec_syGood.j3 k true x572000 x572001 x572002 x572003 x572004))) else (spec_syGood.j3 k true x572000 x572001 x572002 x572003 x572004))) else (spec_syGood.j3 k true x572000 x572001 x572002 x572003 x572004))) else (spec_syGood.j3 k true x572000 x572001 x572002 x572003 x572004)))
def spec_syGood.j1:Nat→Int→List (S42)→Int→Int→Bool→Int→Int→List (S42)→List Int→List Int→Int→Int→Option (Bool)
 | 0,_,_,_,_,_,_,_,_,_,_,_,_=>none
 | k + 1,x3,x8,x9,x10,x22,x572000,x572001,x572002,x572003,x572004,x574000,x574001=>if x22 = true then (some false) else (if 0 ≤ x3 then (if x3 ≤ (x572002.length:Int) then ((some (x572002.take (x3:Int).toNat:List (S42))).bind fun y575=>(spec_syGood.l1 k x8 x9 x10 y575 (y575.length:Int) 0 x572000 x572001 x572002 x572003 x572004 x574000 x574001)) else (none)) else (none))
def spec_syGood.l1:Nat→List (S42)→Int→Int→List (S42)→Int→Int→Int→Int→List (S42)→List Int→List Int→Int→Int→Option (Bool)
 | 0,_,_,_,_,_,_,_,_,_,_,_,_,_=>none
 | k + 1,x8,x9,x10,x26,x27,x28,x572000,x572001,x572002,x572003,x572004,x574000,x574001=>if x28 < x27 then (if 0 ≤ x28 then (if x28 < (x26.length:Int) then (if (x574000 == ((rd_T42 x26 x28).f0) && (x574001 == ((rd_T42 x26 x28).f1))) = true then (some false) else (spec_syGood.l1 k x8 x9 x10 x26 x27 (wrap64 (x28 + 1)) x572000 x572001 x572002 x572003 x572004 x574000 x574001)) else (none)) else (none)) else (spec_syGood.l0 k x8 x9 (wrap64 (x10 + 1)) x572000 x572001 x572002 x572003 x572004)
def spec_syGood.j3:Nat→Bool→Int→Int→List (S42)→List Int→List Int→Option (Bool)
 | 0,_,_,_,_,_,_=>none
 | k + 1,x69,x572000,x572001,x572002,x572003,x572004=>if x69 = true then (some false) else ((spec_l1All.f k x572003 0 (wrap64 (x572001 - 1))).bind fun t585=>(if t585 = true then ((spec_l1All.f k x572004 0 (wrap64 (x572001 + 1))).bind fun t586=>(if t586 = true then ((spec_syTried.f k x572000 x572001 x572002 x572003 x572004).bind fun t587=>(some (decide (t587 ≤ 7000)))) else (some false))) else (some false)))
end
def spec_syGood.f (k:Nat) (a0_0:Int) (a0_1:Int) (l0_2:List (S42)) (l0_3:List Int) (l0_4:List Int):Option (Bool):=spec_syGood.l0 k l0_2 (l0_2.length:Int) 0 a0_0 a0_1 l0_2 l0_3 l0_4
theorem spec_syGood.calls (k:Nat) (a0_0:Int) (a0_1:Int) (A0_2:Option Addr) (c0_2:Nat) (l0_2:List (S42)) (A0_3:Option Addr) (c0_3:Nat) (l0_3:List Int) (A0_4:Option Addr) (c0_4:Nat) (l0_4:List Int) (r:Bool) (w:World) (hr0_2:Kd.C k42 w A0_2 l0_2.length l0_2) (hc0_2:l0_2.length ≤ c0_2) (hr0_3:Kd.C (Kd.int .i64) w A0_3 l0_3.length l0_3) (hc0_3:l0_3.length ≤ c0_3) (hr0_4:Kd.C (Kd.int .i64) w A0_4 l0_4.length l0_4) (hc0_4:l0_4.length ≤ c0_4) (h:spec_syGood.f k a0_0 a0_1 l0_2 l0_3 l0_4 = some r) :
  Calls Try.prog 93 #[.agg #[.int .i64 a0_0,.int .i64 a0_1,.slice A0_2 l0_2.length c0_2,.slice A0_3 l0_3.length c0_3,.slice A0_4 l0_4.length c0_4]] w fun e w'=>e = .returned (.bool r)∧Below w.heap.size w w':=by
 have HR0_2:=Aside0.mk hr0_2;have HC0_2:=Aside0.mk hc0_2;clear hr0_2 hc0_2;have HR0_3:=Aside0.mk hr0_3;have HC0_3:=Aside0.mk hc0_3;clear hr0_3 hc0_3;have HR0_4:=Aside0.mk hr0_4;have HC0_4:=Aside0.mk hc0_4;clear hr0_4 hc0_4;have HB:=Aside0.mk (Below.refl w.heap.size w);have H:(spec_syGood.l0 k l0_2 (l0_2.length:Int) 0 a0_0 a0_1 l0_2 l0_3 l0_4) = some r:=h;clear h;have H':=Aside0.mk H;clear H;go_enter Try.func93,Try.ntmps93;go_wp2_with (first | ((with_reducible refine gate_dst (N:=1) rfl ?_);refine box_event ?hg (N:=1) ?hd (cs:=#[.int .i64 a0_0,.int .i64 a0_1,.slice A0_2 l0_2.length c0_2,.slice A0_3 l0_3.length c0_3,.slice A0_4 l0_4.length c0_4]) (t:=27) ?hr ?_;(case hd=>rfl);(case hg=>rfl);(case hr=>first | (go_simp;done) | (go_simp;rfl));intro gb571 hg w2 hbox hb;refine ev4 (bs HB hb) (hbox) (gle hg HB) (gle hg HB) ?_;clear HB;intro HB BK571 GW571 GE571;clear hb hbox hg;obtain ⟨hcz3_0,hcz3_1,hcz3_2,hcz3_3,hcz3_4,hfz3_0,hfz3_1,hfz3_2,hfz3_3,hfz3_4⟩:=bt5 BK571))
 go_loopg [10] k (fun kq v10 w'=>∃ (x10_1:Int),v10 = .int .i64 x10_1∧Aside0 (spec_syGood.l0 kq l0_2 (l0_2.length:Int) x10_1 a0_0 a0_1 l0_2 l0_3 l0_4 = some r)∧Aside0 (kq ≤ k)∧Aside0 (w'.heap[gb571]? = some (.cells #[.int .i64 a0_0,.int .i64 a0_1,(.slice A0_2 l0_2.length c0_2),(.slice A0_3 l0_3.length c0_3),(.slice A0_4 l0_4.length c0_4)] 27 (0,0)))∧Aside0 (Below w.heap.size w w'))
 case atStart=>exact ⟨(0),(by first | rfl | (simp;done) | (simp [*];done)),H',⟨Nat.le_refl _⟩,⟨km_ BK571⟩,⟨bm HB⟩⟩
 case round =>
  clear H';(try clear p2);(try clear hcz3_0 hcz3_1 hcz3_2 hcz3_3 hcz3_4 hfz3_0 hfz3_1 hfz3_2 hfz3_3 hfz3_4);obtain ⟨x10_1,rfl,HA,HK1,BK571,HB⟩:=hrel;cases gk with
  | zero=>exact absurd HA.out (by simp [spec_syGood.l0])
  | succ k1 =>
   have H:=HA.out;clear HA;simp only [spec_syGood.l0] at H;by_cases c4:x10_1 < (l0_2.length:Int)
   ·rw [if_pos c4] at H;have c4b0:decide (x10_1 < (l0_2.length:Int)) = true:=decide_eq_true c4;clear c4;replace H:=np_ H;obtain ⟨c5,H⟩:=H;have c5b0:decide (0 ≤ x10_1) = true:=decide_eq_true c5;clear c5;replace H:=np_ H;obtain ⟨c6,H⟩:=H;have c6b0:decide (x10_1 < (l0_2.length:Int)) = true:=decide_eq_true c6;clear c6;have HC7:=Aside0.mk H;clear H;have p572:0 ≤ (x10_1:Int):=of_decide_eq_true (by first | (with_reducible assumption) | assumption);have q572:x10_1 < (l0_2.length:Int):=of_decide_eq_true (by first | (with_reducible assumption) | assumption);obtain ⟨ad572,e572,hx572_0,hx572_1⟩:=at_T42 HR0_2.out x10_1 p572 q572;cases e572;replace hx572_0:=(HB.out.cell (World.block_lt_of_cell? w _ hx572_0)).trans hx572_0;replace hx572_1:=(HB.out.cell (World.block_lt_of_cell? w _ hx572_1)).trans hx572_1;replace p572:=eq_true p572;replace q572:=eq_true q572;go_upto_region 4 with (first | ((with_reducible refine gate_dst (N:=4) rfl ?_);refine box_event ?hg (N:=4) ?hd (cs:=#[.int .i64 0,.int .i64 0]) (t:=42) ?hr ?_;(case hd=>rfl);(case hg=>rfl);(case hr=>first | (go_simp;done) | (go_simp;rfl));intro gb573 hg w8 hbox hb;refine ev7 (kb BK571 hb) (bs HB hb) (hbox) (gle hg HB) (gle hg HB) (gnf hg BK571) (gne hg BK571) ?_;clear BK571 HB;intro BK571 HB BK573 GW573 GE573 NB571_573 NB573_571;clear hb hbox hg;have hnb9:=NB573_571.out;have hnc9:=NB571_573.out;obtain ⟨hcz10_0,hcz10_1,hfz10_0,hfz10_1⟩:=bt2 BK573))
    (try simp only [Act.put,za_,zb_,zc_])
    go_cut [22] (fun v22 wc=>∃ (kq:Nat) (x22_6:Bool),v22 = .bool x22_6∧Aside0 (spec_syGood.j1 kq x10_1 l0_2 (l0_2.length:Int) x10_1 x22_6 a0_0 a0_1 l0_2 l0_3 l0_4 ((rd_T42 l0_2 x10_1).f0) ((rd_T42 l0_2 x10_1).f1) = some r)∧Aside0 (kq ≤ k1)∧Aside0 (wc.heap[gb571]? = some (.cells #[.int .i64 a0_0,.int .i64 a0_1,(.slice (some ad572) l0_2.length c0_2),(.slice A0_3 l0_3.length c0_3),(.slice A0_4 l0_4.length c0_4)] 27 (0,0)))∧Aside0 (wc.heap[gb573]? = some (.cells #[.int .i64 ((rd_T42 l0_2 x10_1).f0),.int .i64 ((rd_T42 l0_2 x10_1).f1)] 42 (0,0)))∧Aside0 (Below w.heap.size w wc))
    case first =>
     have H:=HC7.out;clear HC7;replace H:=Option.bind_eq_some_iff.mp H;obtain ⟨t574,A110,H⟩:=H;(try dsimp only at H)
     have A11:=Aside0.mk A110;clear A110;by_cases c12:t574 = true
     ·subst c12;have H1:(spec_syGood.j1 k1 x10_1 l0_2 (l0_2.length:Int) x10_1 (((rd_T42 l0_2 x10_1).f0) == 0) a0_0 a0_1 l0_2 l0_3 l0_4 ((rd_T42 l0_2 x10_1).f0) ((rd_T42 l0_2 x10_1).f1)) = some r:=by rw [if_pos rfl] at H;exact H
      clear H;have H:=H1;clear H1;have H':=Aside0.mk H;clear H;have hnb13:=NB573_571.out;have hnc13:=NB571_573.out;obtain ⟨hcz14_0,hcz14_1,hfz14_0,hfz14_1⟩:=bt2 BK573;go_wp2_with (first | ((with_reducible refine gate_callee (f:=180) rfl ?_);refine gL_ (some 16) Try.func180 #[.agg #[.int .i64 ((rd_T42 l0_2 x10_1).f0),.int .i64 ((rd_T42 l0_2 x10_1).f1)]] (h:=?_);(with_reducible refine (spec_paGood.calls ((rd_T42 l0_2 x10_1).f0) ((rd_T42 l0_2 x10_1).f1) true _ A11.out).mono ?_);rintro e w15 ⟨rfl,hb⟩;refine ⟨_,rfl,?_⟩;refine ev3 (blk_below (g:=gb571) (o:=.cells #[.int .i64 a0_0,.int .i64 a0_1,.slice (some ad572) l0_2.length c0_2,.slice A0_3 l0_3.length c0_3,.slice A0_4 l0_4.length c0_4] 27 (0,0)) (fp BK571 rfl) hb) (blk_below (g:=gb573) (o:=.cells #[.int .i64 ((rd_T42 l0_2 x10_1).f0),.int .i64 ((rd_T42 l0_2 x10_1).f1)] 42 (0,0)) (fp BK573 rfl) hb) (bs HB hb) ?_;clear BK571 BK573 HB;intro BK571 BK573 HB;(try clear hb);obtain ⟨hcz16_0,hcz16_1,hfz16_0,hfz16_1⟩:=bt2 BK573))
      go_meet
      case rel=>exact ⟨_,((((rd_T42 l0_2 x10_1).f0) == 0)),(by first | rfl | (simp;done) | (simp [*];done)),H',⟨by have:=HK1.out;first | omega | exact Nat.le_refl _⟩,⟨km_ BK571⟩,⟨km_ BK573⟩,⟨bm HB⟩⟩
     ·replace c12:=Bool.eq_false_iff.mpr c12;subst c12;have H1:(spec_syGood.j1 k1 x10_1 l0_2 (l0_2.length:Int) x10_1 true a0_0 a0_1 l0_2 l0_3 l0_4 ((rd_T42 l0_2 x10_1).f0) ((rd_T42 l0_2 x10_1).f1)) = some r:=by rw [if_neg (show ¬ (false = true) by decide)] at H;exact H
      clear H;have H:=H1;clear H1;have H':=Aside0.mk H;clear H;have hnb17:=NB573_571.out;have hnc17:=NB571_573.out;obtain ⟨hcz18_0,hcz18_1,hfz18_0,hfz18_1⟩:=bt2 BK573;go_wp2_with (first | ((with_reducible refine gate_callee (f:=180) rfl ?_);refine gL_ (some 16) Try.func180 #[.agg #[.int .i64 ((rd_T42 l0_2 x10_1).f0),.int .i64 ((rd_T42 l0_2 x10_1).f1)]] (h:=?_);(with_reducible refine (spec_paGood.calls ((rd_T42 l0_2 x10_1).f0) ((rd_T42 l0_2 x10_1).f1) false _ A11.out).mono ?_);rintro e w19 ⟨rfl,hb⟩;refine ⟨_,rfl,?_⟩;refine ev3 (blk_below (g:=gb571) (o:=.cells #[.int .i64 a0_0,.int .i64 a0_1,.slice (some ad572) l0_2.length c0_2,.slice A0_3 l0_3.length c0_3,.slice A0_4 l0_4.length c0_4] 27 (0,0)) (fp BK571 rfl) hb) (blk_below (g:=gb573) (o:=.cells #[.int .i64 ((rd_T42 l0_2 x10_1).f0),.int .i64 ((rd_T42 l0_2 x10_1).f1)] 42 (0,0)) (fp BK573 rfl) hb) (bs HB hb) ?_;clear BK571 BK573 HB;intro BK571 BK573 HB;(try clear hb)))
      go_meet
      case rel=>exact ⟨_,(true),(by first | rfl | (simp;done) | (simp [*];done)),H',⟨by have:=HK1.out;first | omega | exact Nat.le_refl _⟩,⟨km_ BK571⟩,⟨km_ BK573⟩,⟨bm HB⟩⟩
    case rest =>
     clear HC7;(try clear p2);(try clear c4);(try clear c4b0);(try clear c5);(try clear c5b0);(try clear p5);(try clear q5);(try clear hx5);(try clear c6);(try clear c6b0);(try clear c9);(try clear hcz10_0 hcz10_1 hfz10_0 hfz10_1);(try clear hcz3_0 hcz3_1 hcz3_2 hcz3_3 hcz3_4 hfz3_0 hfz3_1 hfz3_2 hfz3_3 hfz3_4);(try clear hx572_0);(try clear hx572_1);(try clear p2);(try clear p572);(try clear q572);obtain ⟨kq,x22_6,rfl,HA,HJ6,BK571,BK573,HB⟩:=hcut;cases kq with
     | zero=>exact absurd HA.out (by simp [spec_syGood.j1])
     | succ kj6 =>
      have H:=HA.out;clear HA;simp only [spec_syGood.j1] at H;by_cases c20:x22_6 = true
      ·subst c20;have H1:(some false) = some r:=by rw [if_pos rfl] at H;exact H
       clear H;have H:=H1;clear H1;obtain rfl:=Option.some.inj H;go_wp2;go_ret;exact ⟨by first | rfl | (simp [e0_,e1_] <;> rfl) | (simp [*,e0_,e1_] <;> rfl),bm HB⟩
      ·replace c20:=Bool.eq_false_iff.mpr c20;subst c20;have H1:(if 0 ≤ x10_1 then (if x10_1 ≤ (l0_2.length:Int) then ((some (l0_2.take (x10_1:Int).toNat:List (S42))).bind fun y575=>(spec_syGood.l1 kj6 l0_2 (l0_2.length:Int) x10_1 y575 (y575.length:Int) 0 a0_0 a0_1 l0_2 l0_3 l0_4 ((rd_T42 l0_2 x10_1).f0) ((rd_T42 l0_2 x10_1).f1))) else (none)) else (none)) = some r:=by rw [if_neg (show ¬ (false = true) by decide)] at H;exact H
       clear H;have H:=H1;clear H1;replace H:=np_ H;obtain ⟨c21,H⟩:=H;have c21b0:=eq_true c21;have c21b1:decide (0 ≤ x10_1) = true:=decide_eq_true c21;clear c21;replace H:=np_ H;obtain ⟨c22,H⟩:=H;have c22b0:=eq_true c22;have c22b1:decide (x10_1 ≤ (l0_2.length:Int)) = true:=decide_eq_true c22;clear c22;obtain ⟨y575,hy575⟩:∃ y_:List (S42),y_ = (l0_2.take (x10_1:Int).toNat):=⟨_,rfl⟩
       replace H:(spec_syGood.l1 kj6 l0_2 (l0_2.length:Int) x10_1 y575 (y575.length:Int) 0 a0_0 a0_1 l0_2 l0_3 l0_4 ((rd_T42 l0_2 x10_1).f0) ((rd_T42 l0_2 x10_1).f1)) = some r:=by first | (rw [hy575];with_reducible exact H) | (have H2_:=(Option.bind_some _ _).symm.trans H;rw [hy575];with_reducible exact H2_) | (have H2_:=(Option.bind_some _ _).symm.trans H;with_reducible exact H2_) | with_reducible exact H | (rw [hy575];exact H) | exact H
       have Ny575:=Aside0.mk hy575;clear hy575;have H':=Aside0.mk H;clear H;have hnb23:=NB571_573.out;have hnc23:=NB573_571.out;obtain ⟨hcz24_0,hcz24_1,hcz24_2,hcz24_3,hcz24_4,hfz24_0,hfz24_1,hfz24_2,hfz24_3,hfz24_4⟩:=bt5 BK571;have q25:(x10_1:Int) ≤ ((l0_2.length:Int):Int):=of_decide_eq_true (by first | (with_reducible assumption) | assumption);obtain ⟨i025,hi025,_,hsz25,_⟩:=info_parts info42;have hroom25:l0_2.length ≤ c0_2:=HC0_2.out;have hC25:Kd.C k42 _ (some ad572) l0_2.length l0_2:=HR0_2.out;have hcut25:=cut_to (P:=Try.prog) 24 42 .i64 Try.underlying24 hi025 (some ad572) l0_2.length c0_2 x10_1 (of_decide_eq_true (by first | (with_reducible assumption) | assumption)) q25 hroom25;have hr25:=Kd.C_take (m:=(x10_1:Int).toNat) hC25 (by omega);have hy25:y575.length = (x10_1:Int).toNat:=(by rw [Ny575.out,List.length_take];omega)
       rw [← Ny575.out] at hr25;rw [← hy25] at hcut25;have HR578:=Aside0.mk hr25;have HC578:=Aside0.mk (show y575.length ≤ c0_2 from by omega);clear hr25 hC25 hroom25 hi025 hsz25;have KY25:=Aside0.mk hy25;clear hy25;replace q25:=eq_true q25;go_wp2;go_loopg [28] kj6 (fun kq v28 w'=>∃ (x28_3:Int),v28 = .int .i64 x28_3∧Aside0 (spec_syGood.l1 kq l0_2 (l0_2.length:Int) x10_1 y575 (y575.length:Int) x28_3 a0_0 a0_1 l0_2 l0_3 l0_4 ((rd_T42 l0_2 x10_1).f0) ((rd_T42 l0_2 x10_1).f1) = some r)∧Aside0 (kq ≤ kj6)∧Aside0 (w'.heap[gb571]? = some (.cells #[.int .i64 a0_0,.int .i64 a0_1,(.slice (some ad572) l0_2.length c0_2),(.slice A0_3 l0_3.length c0_3),(.slice A0_4 l0_4.length c0_4)] 27 (0,0)))∧Aside0 (w'.heap[gb573]? = some (.cells #[.int .i64 ((rd_T42 l0_2 x10_1).f0),.int .i64 ((rd_T42 l0_2 x10_1).f1)] 42 (0,0)))∧Aside0 (Below w.heap.size w w'))
       case atStart=>exact ⟨(0),(by first | rfl | (simp;done) | (simp [*];done)),H',⟨Nat.le_refl _⟩,⟨km_ BK571⟩,⟨km_ BK573⟩,⟨bm HB⟩⟩
       case round =>
        clear H';(try clear c2);(try clear p2);(try clear q2);(try clear c4);(try clear c4b0);(try clear c5);(try clear c5b0);(try clear p5);(try clear q5);(try clear hx5);(try clear c6);(try clear c6b0);(try clear c9);(try clear c20);(try clear c21);(try clear c21b0);(try clear c21b1);(try clear c22);(try clear c22b0);(try clear c22b1);(try clear c23);(try clear q25);(try clear hcz10_0 hcz10_1 hfz10_0 hfz10_1);(try clear hcz24_0 hcz24_1 hcz24_2 hcz24_3 hcz24_4 hfz24_0 hfz24_1 hfz24_2 hfz24_3 hfz24_4);(try clear hcz3_0 hcz3_1 hcz3_2 hcz3_3 hcz3_4 hfz3_0 hfz3_1 hfz3_2 hfz3_3 hfz3_4);(try clear hx572_0);(try clear hx572_1);(try clear p2);(try clear p5);(try clear p572);(try clear q25);(try clear q5);(try clear q572);obtain ⟨x28_3,rfl,HA,HK3,BK571,BK573,HB⟩:=hrel;cases gk with
        | zero=>exact absurd HA.out (by simp [spec_syGood.l1])
        | succ k3 =>
         have H:=HA.out;clear HA;simp only [spec_syGood.l1] at H;by_cases c26:x28_3 < (y575.length:Int)
         ·rw [if_pos c26] at H;have c26b0:decide (x28_3 < (y575.length:Int)) = true:=decide_eq_true c26;clear c26;replace H:=np_ H;obtain ⟨c27,H⟩:=H;have c27b0:decide (0 ≤ x28_3) = true:=decide_eq_true c27;clear c27;replace H:=np_ H;obtain ⟨c28,H⟩:=H;have c28b0:decide (x28_3 < (y575.length:Int)) = true:=decide_eq_true c28;clear c28;by_cases c29:(((rd_T42 l0_2 x10_1).f0) == ((rd_T42 y575 x28_3).f0) && (((rd_T42 l0_2 x10_1).f1) == ((rd_T42 y575 x28_3).f1))) = true
          ·rw [if_pos c29] at H;have c29b0:(((rd_T42 l0_2 x10_1).f0) == ((rd_T42 y575 x28_3).f0) && (((rd_T42 l0_2 x10_1).f1) == ((rd_T42 y575 x28_3).f1))) = true:=c29;(try (have c29b1:decide (((rd_T42 l0_2 x10_1).f0) = ((rd_T42 y575 x28_3).f0) && (((rd_T42 l0_2 x10_1).f1) == ((rd_T42 y575 x28_3).f1))) = true:=by simpa using c29))
           (try (have c29b2:(((rd_T42 l0_2 x10_1).f0) == ((rd_T42 y575 x28_3).f0) && (((rd_T42 l0_2 x10_1).f1) == ((rd_T42 y575 x28_3).f1))) = true:=by simpa using c29))
           clear c29;obtain rfl:=Option.some.inj H;have p579:0 ≤ (x28_3:Int):=of_decide_eq_true (by first | (with_reducible assumption) | assumption);have q579:x28_3 < (y575.length:Int):=of_decide_eq_true (by first | (with_reducible assumption) | assumption);obtain ⟨ad579,e579,hx579_0,hx579_1⟩:=at_T42 HR578.out x28_3 p579 q579;obtain rfl:ad572 = ad579:=(by injection e579)
           replace hx579_0:=(HB.out.cell (World.block_lt_of_cell? w _ hx579_0)).trans hx579_0;replace hx579_1:=(HB.out.cell (World.block_lt_of_cell? w _ hx579_1)).trans hx579_1;replace p579:=eq_true p579;replace q579:=eq_true q579;go_wp2_with (first | ((with_reducible refine gate_dst (N:=6) rfl ?_);refine box_event ?hg (N:=6) ?hd (cs:=#[.int .i64 0,.int .i64 0]) (t:=42) ?hr ?_;(case hd=>rfl);(case hg=>rfl);(case hr=>first | (go_simp;done) | (go_simp;rfl));intro gb580 hg w30 hbox hb;refine ev10 (kb BK571 hb) (kb BK573 hb) (bs HB hb) (hbox) (gle hg HB) (gle hg HB) (gnf hg BK571) (gne hg BK571) (gnf hg BK573) (gne hg BK573) ?_;clear BK571 BK573 HB;intro BK571 BK573 HB BK580 GW580 GE580 NB571_580 NB580_571 NB573_580 NB580_573;clear hb hbox hg;have hnb31:=NB580_571.out;have hnc31:=NB571_580.out;have hnb32:=NB580_573.out;have hnc32:=NB573_580.out;obtain ⟨hcz33_0,hcz33_1,hfz33_0,hfz33_1⟩:=bt2 BK580;have hnb34:=NB573_571.out;have hnc34:=NB571_573.out;obtain ⟨hcz35_0,hcz35_1,hfz35_0,hfz35_1⟩:=bt2 BK573))
           go_ret;exact ⟨by first | rfl | (simp [e0_,e1_] <;> rfl) | (simp [*,e0_,e1_] <;> rfl),bm HB⟩
          ·rw [if_neg c29] at H;have c29b0:(((rd_T42 l0_2 x10_1).f0) == ((rd_T42 y575 x28_3).f0) && (((rd_T42 l0_2 x10_1).f1) == ((rd_T42 y575 x28_3).f1))) = false:=by simpa using c29
           (try (have c29b1:decide (((rd_T42 l0_2 x10_1).f0) = ((rd_T42 y575 x28_3).f0) && (((rd_T42 l0_2 x10_1).f1) == ((rd_T42 y575 x28_3).f1))) = false:=by simpa using c29))
           (try (have c29b2:(((rd_T42 l0_2 x10_1).f0) == ((rd_T42 y575 x28_3).f0) && (((rd_T42 l0_2 x10_1).f1) == ((rd_T42 y575 x28_3).f1))) = false:=by simpa using c29))
           (try (have c29b3:¬ (((rd_T42 l0_2 x10_1).f0) = ((rd_T42 y575 x28_3).f0) && (((rd_T42 l0_2 x10_1).f1) == ((rd_T42 y575 x28_3).f1))):=by simpa using c29))
           clear c29;have H':=Aside0.mk H;clear H;have p579:0 ≤ (x28_3:Int):=of_decide_eq_true (by first | (with_reducible assumption) | assumption);have q579:x28_3 < (y575.length:Int):=of_decide_eq_true (by first | (with_reducible assumption) | assumption);obtain ⟨ad579,e579,hx579_0,hx579_1⟩:=at_T42 HR578.out x28_3 p579 q579;obtain rfl:ad572 = ad579:=(by injection e579)
           replace hx579_0:=(HB.out.cell (World.block_lt_of_cell? w _ hx579_0)).trans hx579_0;replace hx579_1:=(HB.out.cell (World.block_lt_of_cell? w _ hx579_1)).trans hx579_1;replace p579:=eq_true p579;replace q579:=eq_true q579;go_wp2_with (first | ((with_reducible refine gate_dst (N:=6) rfl ?_);refine box_event ?hg (N:=6) ?hd (cs:=#[.int .i64 0,.int .i64 0]) (t:=42) ?hr ?_;(case hd=>rfl);(case hg=>rfl);(case hr=>first | (go_simp;done) | (go_simp;rfl));intro gb580 hg w36 hbox hb;refine ev10 (kb BK571 hb) (kb BK573 hb) (bs HB hb) (hbox) (gle hg HB) (gle hg HB) (gnf hg BK571) (gne hg BK571) (gnf hg BK573) (gne hg BK573) ?_;clear BK571 BK573 HB;intro BK571 BK573 HB BK580 GW580 GE580 NB571_580 NB580_571 NB573_580 NB580_573;clear hb hbox hg;have hnb37:=NB580_571.out;have hnc37:=NB571_580.out;have hnb38:=NB580_573.out;have hnc38:=NB573_580.out;obtain ⟨hcz39_0,hcz39_1,hfz39_0,hfz39_1⟩:=bt2 BK580;have hnb40:=NB573_571.out;have hnc40:=NB571_573.out;obtain ⟨hcz41_0,hcz41_1,hfz41_0,hfz41_1⟩:=bt2 BK573))
           go_roundg k3
           case measure=>have:=HK1.out;have:=HJ6.out;have:=HK3.out;omega
           case rel=>exact ⟨(wrap64 (x28_3 + 1)),(by first | rfl | (simp;done) | (simp [*];done)),H',⟨by have:=HK1.out;have:=HJ6.out;have:=HK3.out;omega⟩,⟨fp BK571 rfl⟩,⟨fp BK573 rfl⟩,⟨bm HB⟩⟩
         ·rw [if_neg c26] at H;have c26b0:decide (x28_3 < (y575.length:Int)) = false:=decide_eq_false c26;clear c26;have H':=Aside0.mk H;clear H;go_wp2;go_roundg k3
          case measure=>have:=HK1.out;have:=HJ6.out;have:=HK3.out;omega
          case rel=>exact ⟨(wrap64 (x10_1 + 1)),(by first | rfl | (simp;done) | (simp [*];done)),H',⟨by have:=HK1.out;have:=HJ6.out;have:=HK3.out;omega⟩,⟨km_ BK571⟩,⟨bm HB⟩⟩
   ·rw [if_neg c4] at H;have c4b0:decide (x10_1 < (l0_2.length:Int)) = false:=decide_eq_false c4;clear c4;have HC42:=Aside0.mk H;clear H;go_upto_region 13 with (fail)
    go_cut [69] (fun v69 wc=>∃ (kq:Nat) (x69_41:Bool),v69 = .bool x69_41∧Aside0 (spec_syGood.j3 kq x69_41 a0_0 a0_1 l0_2 l0_3 l0_4 = some r)∧Aside0 (kq ≤ k1)∧Aside0 (wc.heap[gb571]? = some (.cells #[.int .i64 a0_0,.int .i64 a0_1,(.slice A0_2 l0_2.length c0_2),(.slice A0_3 l0_3.length c0_3),(.slice A0_4 l0_4.length c0_4)] 27 (0,0)))∧Aside0 (Below w.heap.size w wc))
    case first =>
     have H:=HC42.out;clear HC42;replace H:=Option.bind_eq_some_iff.mp H;obtain ⟨t581,A430,H⟩:=H;(try dsimp only at H)
     have A43:=Aside0.mk A430;clear A430;by_cases c44:t581 = true
     ·subst c44;have H1:((spec_l1In.f a0_1 1 4).bind fun t582=>(if t582 = true then ((spec_l1In.f (l0_2.length:Int) 1 6).bind fun t583=>(if t583 = true then ((spec_l1In.f (l0_3.length:Int) 1 8).bind fun t584=>(if t584 = true then (spec_syGood.j3 k1 ((l0_4.length:Int) != (l0_3.length:Int)) a0_0 a0_1 l0_2 l0_3 l0_4) else (spec_syGood.j3 k1 true a0_0 a0_1 l0_2 l0_3 l0_4))) else (spec_syGood.j3 k1 true a0_0 a0_1 l0_2 l0_3 l0_4))) else (spec_syGood.j3 k1 true a0_0 a0_1 l0_2 l0_3 l0_4))) = some r:=by rw [if_pos rfl] at H;exact H
      clear H;have H:=H1;clear H1;replace H:=Option.bind_eq_some_iff.mp H;obtain ⟨t582,A450,H⟩:=H;(try dsimp only at H)
      have A45:=Aside0.mk A450;clear A450;by_cases c46:t582 = true
      ·subst c46;have H1:((spec_l1In.f (l0_2.length:Int) 1 6).bind fun t583=>(if t583 = true then ((spec_l1In.f (l0_3.length:Int) 1 8).bind fun t584=>(if t584 = true then (spec_syGood.j3 k1 ((l0_4.length:Int) != (l0_3.length:Int)) a0_0 a0_1 l0_2 l0_3 l0_4) else (spec_syGood.j3 k1 true a0_0 a0_1 l0_2 l0_3 l0_4))) else (spec_syGood.j3 k1 true a0_0 a0_1 l0_2 l0_3 l0_4))) = some r:=by rw [if_pos rfl] at H;exact H
       clear H;have H:=H1;clear H1;replace H:=Option.bind_eq_some_iff.mp H;obtain ⟨t583,A470,H⟩:=H;(try dsimp only at H)
       have A47:=Aside0.mk A470;clear A470;by_cases c48:t583 = true
       ·subst c48;have H1:((spec_l1In.f (l0_3.length:Int) 1 8).bind fun t584=>(if t584 = true then (spec_syGood.j3 k1 ((l0_4.length:Int) != (l0_3.length:Int)) a0_0 a0_1 l0_2 l0_3 l0_4) else (spec_syGood.j3 k1 true a0_0 a0_1 l0_2 l0_3 l0_4))) = some r:=by rw [if_pos rfl] at H;exact H
        clear H;have H:=H1;clear H1;replace H:=Option.bind_eq_some_iff.mp H;obtain ⟨t584,A490,H⟩:=H;(try dsimp only at H)
        have A49:=Aside0.mk A490;clear A490;by_cases c50:t584 = true
        ·subst c50;have H1:(spec_syGood.j3 k1 ((l0_4.length:Int) != (l0_3.length:Int)) a0_0 a0_1 l0_2 l0_3 l0_4) = some r:=by rw [if_pos rfl] at H;exact H
         clear H;have H:=H1;clear H1;have H':=Aside0.mk H;clear H;obtain ⟨hcz51_0,hcz51_1,hcz51_2,hcz51_3,hcz51_4,hfz51_0,hfz51_1,hfz51_2,hfz51_3,hfz51_4⟩:=bt5 BK571;go_wp2_with (first | ((with_reducible refine gate_callee (f:=116) rfl ?_);refine gL_ (some 39) Try.func116 #[.int .i64 a0_0,.int .i64 1,.int .i64 4] (h:=?_);(with_reducible refine (spec_l1In.calls a0_0 1 4 true _ A43.out).mono ?_);rintro e w' ⟨rfl,⟨nd,rfl⟩⟩;refine ⟨_,rfl,?_⟩) | (go_at_call 116;(with_reducible refine (spec_l1In.calls a0_1 1 4 true _ A45.out).mono ?_);rintro e w' ⟨rfl,⟨nd,rfl⟩⟩) | (go_at_call 116;(with_reducible refine (spec_l1In.calls (l0_2.length:Int) 1 6 true _ A47.out).mono ?_);rintro e w' ⟨rfl,⟨nd,rfl⟩⟩) | (go_at_call 116;(with_reducible refine (spec_l1In.calls (l0_3.length:Int) 1 8 true _ A49.out).mono ?_);rintro e w' ⟨rfl,⟨nd,rfl⟩⟩))
         go_meet
         case rel=>exact ⟨_,(((l0_4.length:Int) != (l0_3.length:Int))),(by first | rfl | (simp;done) | (simp [*];done)),H',⟨by have:=HK1.out;first | omega | exact Nat.le_refl _⟩,⟨km_ BK571⟩,⟨bm HB⟩⟩
        ·replace c50:=Bool.eq_false_iff.mpr c50;subst c50;have H1:(spec_syGood.j3 k1 true a0_0 a0_1 l0_2 l0_3 l0_4) = some r:=by rw [if_neg (show ¬ (false = true) by decide)] at H;exact H
         clear H;have H:=H1;clear H1;have H':=Aside0.mk H;clear H;obtain ⟨hcz52_0,hcz52_1,hcz52_2,hcz52_3,hcz52_4,hfz52_0,hfz52_1,hfz52_2,hfz52_3,hfz52_4⟩:=bt5 BK571;go_wp2_with (first | ((with_reducible refine gate_callee (f:=116) rfl ?_);refine gL_ (some 39) Try.func116 #[.int .i64 a0_0,.int .i64 1,.int .i64 4] (h:=?_);(with_reducible refine (spec_l1In.calls a0_0 1 4 true _ A43.out).mono ?_);rintro e w' ⟨rfl,⟨nd,rfl⟩⟩;refine ⟨_,rfl,?_⟩) | (go_at_call 116;(with_reducible refine (spec_l1In.calls a0_1 1 4 true _ A45.out).mono ?_);rintro e w' ⟨rfl,⟨nd,rfl⟩⟩) | (go_at_call 116;(with_reducible refine (spec_l1In.calls (l0_2.length:Int) 1 6 true _ A47.out).mono ?_);rintro e w' ⟨rfl,⟨nd,rfl⟩⟩) | (go_at_call 116;(with_reducible refine (spec_l1In.calls (l0_3.length:Int) 1 8 false _ A49.out).mono ?_);rintro e w' ⟨rfl,⟨nd,rfl⟩⟩))
         go_meet
         case rel=>exact ⟨_,(true),(by first | rfl | (simp;done) | (simp [*];done)),H',⟨by have:=HK1.out;first | omega | exact Nat.le_refl _⟩,⟨km_ BK571⟩,⟨bm HB⟩⟩
       ·replace c48:=Bool.eq_false_iff.mpr c48;subst c48;have H1:(spec_syGood.j3 k1 true a0_0 a0_1 l0_2 l0_3 l0_4) = some r:=by rw [if_neg (show ¬ (false = true) by decide)] at H;exact H
        clear H;have H:=H1;clear H1;have H':=Aside0.mk H;clear H;obtain ⟨hcz53_0,hcz53_1,hcz53_2,hcz53_3,hcz53_4,hfz53_0,hfz53_1,hfz53_2,hfz53_3,hfz53_4⟩:=bt5 BK571;go_wp2_with (first | ((with_reducible refine gate_callee (f:=116) rfl ?_);refine gL_ (some 39) Try.func116 #[.int .i64 a0_0,.int .i64 1,.int .i64 4] (h:=?_);(with_reducible refine (spec_l1In.calls a0_0 1 4 true _ A43.out).mono ?_);rintro e w' ⟨rfl,⟨nd,rfl⟩⟩;refine ⟨_,rfl,?_⟩) | (go_at_call 116;(with_reducible refine (spec_l1In.calls a0_1 1 4 true _ A45.out).mono ?_);rintro e w' ⟨rfl,⟨nd,rfl⟩⟩) | (go_at_call 116;(with_reducible refine (spec_l1In.calls (l0_2.length:Int) 1 6 false _ A47.out).mono ?_);rintro e w' ⟨rfl,⟨nd,rfl⟩⟩))
        go_meet
        case rel=>exact ⟨_,(true),(by first | rfl | (simp;done) | (simp [*];done)),H',⟨by have:=HK1.out;first | omega | exact Nat.le_refl _⟩,⟨km_ BK571⟩,⟨bm HB⟩⟩
      ·replace c46:=Bool.eq_false_iff.mpr c46;subst c46;have H1:(spec_syGood.j3 k1 true a0_0 a0_1 l0_2 l0_3 l0_4) = some r:=by rw [if_neg (show ¬ (false = true) by decide)] at H;exact H
       clear H;have H:=H1;clear H1;have H':=Aside0.mk H;clear H;obtain ⟨hcz54_0,hcz54_1,hcz54_2,hcz54_3,hcz54_4,hfz54_0,hfz54_1,hfz54_2,hfz54_3,hfz54_4⟩:=bt5 BK571;go_wp2_with (first | ((with_reducible refine gate_callee (f:=116) rfl ?_);refine gL_ (some 39) Try.func116 #[.int .i64 a0_0,.int .i64 1,.int .i64 4] (h:=?_);(with_reducible refine (spec_l1In.calls a0_0 1 4 true _ A43.out).mono ?_);rintro e w' ⟨rfl,⟨nd,rfl⟩⟩;refine ⟨_,rfl,?_⟩) | (go_at_call 116;(with_reducible refine (spec_l1In.calls a0_1 1 4 false _ A45.out).mono ?_);rintro e w' ⟨rfl,⟨nd,rfl⟩⟩))
       go_meet
       case rel=>exact ⟨_,(true),(by first | rfl | (simp;done) | (simp [*];done)),H',⟨by have:=HK1.out;first | omega | exact Nat.le_refl _⟩,⟨km_ BK571⟩,⟨bm HB⟩⟩
     ·replace c44:=Bool.eq_false_iff.mpr c44;subst c44;have H1:(spec_syGood.j3 k1 true a0_0 a0_1 l0_2 l0_3 l0_4) = some r:=by rw [if_neg (show ¬ (false = true) by decide)] at H;exact H
      clear H;have H:=H1;clear H1;have H':=Aside0.mk H;clear H;obtain ⟨hcz55_0,hcz55_1,hcz55_2,hcz55_3,hcz55_4,hfz55_0,hfz55_1,hfz55_2,hfz55_3,hfz55_4⟩:=bt5 BK571;go_wp2_with (first | ((with_reducible refine gate_callee (f:=116) rfl ?_);refine gL_ (some 39) Try.func116 #[.int .i64 a0_0,.int .i64 1,.int .i64 4] (h:=?_);(with_reducible refine (spec_l1In.calls a0_0 1 4 false _ A43.out).mono ?_);rintro e w' ⟨rfl,⟨nd,rfl⟩⟩;refine ⟨_,rfl,?_⟩))
      go_meet
      case rel=>exact ⟨_,(true),(by first | rfl | (simp;done) | (simp [*];done)),H',⟨by have:=HK1.out;first | omega | exact Nat.le_refl _⟩,⟨km_ BK571⟩,⟨bm HB⟩⟩
    case rest =>
     clear HC42;(try clear p2);(try clear c4);(try clear c4b0);(try clear c9);(try clear hcz3_0 hcz3_1 hcz3_2 hcz3_3 hcz3_4 hfz3_0 hfz3_1 hfz3_2 hfz3_3 hfz3_4);(try clear p2);obtain ⟨kq,x69_41,rfl,HA,HJ41,BK571,HB⟩:=hcut;cases kq with
     | zero=>exact absurd HA.out (by simp [spec_syGood.j3])
     | succ kj41 =>
      have H:=HA.out;clear HA;simp only [spec_syGood.j3] at H;by_cases c56:x69_41 = true
      ·subst c56;have H1:(some false) = some r:=by rw [if_pos rfl] at H;exact H
       clear H;have H:=H1;clear H1;obtain rfl:=Option.some.inj H;go_wp2;go_ret;exact ⟨by first | rfl | (simp [e0_,e1_] <;> rfl) | (simp [*,e0_,e1_] <;> rfl),bm HB⟩
      ·replace c56:=Bool.eq_false_iff.mpr c56;subst c56;have H1:((spec_l1All.f kj41 l0_3 0 (wrap64 (a0_1 - 1))).bind fun t585=>(if t585 = true then ((spec_l1All.f kj41 l0_4 0 (wrap64 (a0_1 + 1))).bind fun t586=>(if t586 = true then ((spec_syTried.f kj41 a0_0 a0_1 l0_2 l0_3 l0_4).bind fun t587=>(some (decide (t587 ≤ 7000)))) else (some false))) else (some false))) = some r:=by rw [if_neg (show ¬ (false = true) by decide)] at H;exact H
       clear H;have H:=H1;clear H1;replace H:=Option.bind_eq_some_iff.mp H;obtain ⟨t585,A570,H⟩:=H;(try dsimp only at H)
       have A57:=Aside0.mk A570;clear A570;by_cases c58:t585 = true
       ·subst c58;have H1:((spec_l1All.f kj41 l0_4 0 (wrap64 (a0_1 + 1))).bind fun t586=>(if t586 = true then ((spec_syTried.f kj41 a0_0 a0_1 l0_2 l0_3 l0_4).bind fun t587=>(some (decide (t587 ≤ 7000)))) else (some false))) = some r:=by rw [if_pos rfl] at H;exact H
        clear H;have H:=H1;clear H1;replace H:=Option.bind_eq_some_iff.mp H;obtain ⟨t586,A590,H⟩:=H;(try dsimp only at H)
        have A59:=Aside0.mk A590;clear A590;by_cases c60:t586 = true
        ·subst c60;have H1:((spec_syTried.f kj41 a0_0 a0_1 l0_2 l0_3 l0_4).bind fun t587=>(some (decide (t587 ≤ 7000)))) = some r:=by rw [if_pos rfl] at H;exact H
         clear H;have H:=H1;clear H1;replace H:=Option.bind_eq_some_iff.mp H;obtain ⟨t587,A610,H⟩:=H;(try dsimp only at H)
         have A61:=Aside0.mk A610;clear A610;obtain rfl:=Option.some.inj H;obtain ⟨hcz62_0,hcz62_1,hcz62_2,hcz62_3,hcz62_4,hfz62_0,hfz62_1,hfz62_2,hfz62_3,hfz62_4⟩:=bt5 BK571;go_wp2_with (first | ((with_reducible refine gate_callee (f:=124) rfl ?_);refine gL_ (some 75) Try.func124 #[.slice A0_3 l0_3.length c0_3,.int .i64 0,.int .i64 (wrap64 (a0_1 - 1))] (h:=?_);(with_reducible refine (spec_l1All.calls kj41 _ _ l0_3 0 (wrap64 (a0_1 - 1)) true _ (Kd.C_mv (Kd.C_below HR0_3.out HB.out)) HC0_3.out A57.out).mono ?_);rintro e w' ⟨rfl,⟨nd,rfl⟩⟩;refine ⟨_,rfl,?_⟩) | (go_at_call 124;(with_reducible refine (spec_l1All.calls kj41 _ _ l0_4 0 (wrap64 (a0_1 + 1)) true _ (Kd.C_below HR0_4.out (bm HB)) HC0_4.out A59.out).mono ?_);rintro e w' ⟨rfl,⟨nd,rfl⟩⟩) | (go_at_call 129;(with_reducible refine (spec_syTried.calls kj41 a0_0 a0_1 _ _ l0_2 _ _ l0_3 _ _ l0_4 t587 _ (Kd.C_below HR0_2.out (bm HB)) HC0_2.out (Kd.C_below HR0_3.out (bm HB)) HC0_3.out (Kd.C_below HR0_4.out (bm HB)) HC0_4.out A61.out).mono ?_);rintro e w63 ⟨rfl,hb⟩;refine ev2 (kb BK571 hb) (bs HB hb) ?_;clear BK571 HB;intro BK571 HB;(try clear hb)))
         go_ret;exact ⟨by first | rfl | (simp [e0_,e1_] <;> rfl) | (simp [*,e0_,e1_] <;> rfl),bm HB⟩
        ·replace c60:=Bool.eq_false_iff.mpr c60;subst c60;have H1:(some false) = some r:=by rw [if_neg (show ¬ (false = true) by decide)] at H;exact H
         clear H;have H:=H1;clear H1;obtain rfl:=Option.some.inj H;obtain ⟨hcz64_0,hcz64_1,hcz64_2,hcz64_3,hcz64_4,hfz64_0,hfz64_1,hfz64_2,hfz64_3,hfz64_4⟩:=bt5 BK571;go_wp2_with (first | ((with_reducible refine gate_callee (f:=124) rfl ?_);refine gL_ (some 75) Try.func124 #[.slice A0_3 l0_3.length c0_3,.int .i64 0,.int .i64 (wrap64 (a0_1 - 1))] (h:=?_);(with_reducible refine (spec_l1All.calls kj41 _ _ l0_3 0 (wrap64 (a0_1 - 1)) true _ (Kd.C_mv (Kd.C_below HR0_3.out HB.out)) HC0_3.out A57.out).mono ?_);rintro e w' ⟨rfl,⟨nd,rfl⟩⟩;refine ⟨_,rfl,?_⟩) | (go_at_call 124;(with_reducible refine (spec_l1All.calls kj41 _ _ l0_4 0 (wrap64 (a0_1 + 1)) false _ (Kd.C_below HR0_4.out (bm HB)) HC0_4.out A59.out).mono ?_);rintro e w' ⟨rfl,⟨nd,rfl⟩⟩))
         go_ret;exact ⟨by first | rfl | (simp [e0_,e1_] <;> rfl) | (simp [*,e0_,e1_] <;> rfl),bm HB⟩
       ·replace c58:=Bool.eq_false_iff.mpr c58;subst c58;have H1:(some false) = some r:=by rw [if_neg (show ¬ (false = true) by decide)] at H;exact H
        clear H;have H:=H1;clear H1;obtain rfl:=Option.some.inj H;obtain ⟨hcz65_0,hcz65_1,hcz65_2,hcz65_3,hcz65_4,hfz65_0,hfz65_1,hfz65_2,hfz65_3,hfz65_4⟩:=bt5 BK571;go_wp2_with (first | ((with_reducible refine gate_callee (f:=124) rfl ?_);refine gL_ (some 75) Try.func124 #[.slice A0_3 l0_3.length c0_3,.int .i64 0,.int .i64 (wrap64 (a0_1 - 1))] (h:=?_);(with_reducible refine (spec_l1All.calls kj41 _ _ l0_3 0 (wrap64 (a0_1 - 1)) false _ (Kd.C_mv (Kd.C_below HR0_3.out HB.out)) HC0_3.out A57.out).mono ?_);rintro e w' ⟨rfl,⟨nd,rfl⟩⟩;refine ⟨_,rfl,?_⟩))
        go_ret;exact ⟨by first | rfl | (simp [e0_,e1_] <;> rfl) | (simp [*,e0_,e1_] <;> rfl),bm HB⟩
end Go.Proofs.Ytnmffpfiichjgaa.F
