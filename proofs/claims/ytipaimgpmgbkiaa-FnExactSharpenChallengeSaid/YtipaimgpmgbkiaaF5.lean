-- Printed by a program; checked here.
import Derived.Test.YtipaimgpmgbkiaaF0
import Derived.Test.YtipaimgpmgbkiaaF1
import Derived.Test.YtipaimgpmgbkiaaF2
import Derived.Test.YtipaimgpmgbkiaaF3
import Derived.Test.YtipaimgpmgbkiaaF4
namespace Go.Proofs.Ytipaimgpmgbkiaa.F
open Go.RowKit Go.Proofs.YtipaimgpmgbkiaaV.PrintWords Go.Proofs.YtipaimgpmgbkiaaV.PrintLast Go.Proofs.YtipaimgpmgbkiaaV.PrintMore Go.Proofs.YtipaimgpmgbkiaaV.Sl Go.Proofs.YtipaimgpmgbkiaaV.Rf
attribute [local go_sem] max2_int min2_int max_two min_two max_three min_three max_four min_four ia_opt it_opt
attribute [local go_sem] Try.underlying23 Try.underlying25 Try.underlying29 Try.underlying31 Try.underlying42 Try.underlying50 Try.underlying85 Try.underlying88 Try.underlying89 Try.underlying106 Try.underlying122 Try.underlying127
set_option maxHeartbeats 8000000
set_option maxRecDepth 100000
set_option linter.unusedVariables false
set_option linter.unusedSimpArgs false

attribute [local go_sem high] eqA88
/-! ### impl_drop: function 129 -/
mutual
def impl_drop.l0:Nat→List Int→Int→List Int→Int→Int→Int→Int→List (S88)→Option (Int × Int × Int × List Int × (List (S88)))
 | 0,_,_,_,_,_,_,_,_=>none
 | k + 1,x1,x2,x8,x9,x10,x436000,x436001,x436002=>if x10 < x436000 then (if x8.length < 17592186044416 then ((some (x8 ++ [wrap64 ((wrap64 (x10 * x436001)) + x2)]:List Int)).bind fun y440=>(if 0 ≤ (wrap64 ((wrap64 (x10 * x436001)) + x2)) then (if (wrap64 ((wrap64 (x10 * x436001)) + x2)) < (x436002.length:Int) then ((impl_GoesTo.f k ((rd_T88 x436002 (wrap64 ((wrap64 (x10 * x436001)) + x2))).f0) ((rd_T88 x436002 (wrap64 ((wrap64 (x10 * x436001)) + x2))).f1) x9).bind fun bt445=>(if bt445.2 = true then (if ((rd_T88 x436002 (wrap64 ((wrap64 (x10 * x436001)) + x2))).f0) = 3 then (impl_drop.j1 k x1 x2 y440 x10 (wrap64 ((wrap64 (x10 * x436001)) + x2)) bt445.1 x436000 x436001 (x436002.set ((wrap64 ((wrap64 (x10 * x436001)) + x2)):Int).toNat (⟨(rd_T88 x436002 (wrap64 ((wrap64 (x10 * x436001)) + x2))).f0,wrap64 (1 - ((rd_T88 x436002 (wrap64 ((wrap64 (x10 * x436001)) + x2))).f1))⟩:S88)) ((rd_T88 x436002 (wrap64 ((wrap64 (x10 * x436001)) + x2))).f0) ((rd_T88 x436002 (wrap64 ((wrap64 (x10 * x436001)) + x2))).f1)) else (impl_drop.j1 k x1 x2 y440 x10 (wrap64 ((wrap64 (x10 * x436001)) + x2)) bt445.1 x436000 x436001 x436002 ((rd_T88 x436002 (wrap64 ((wrap64 (x10 * x436001)) + x2))).f0) ((rd_T88 x436002 (wrap64 ((wrap64 (x10 * x436001)) + x2))).f1))) else (some (2,x10,x2,y440,x436002)))) else (none)) else (none))) else (none)) else (some (1,x436000,x2,x8,x436002))
def impl_drop.j1:Nat→List Int→Int→List Int→Int→Int→Int→Int→Int→List (S88)→Int→Int→Option (Int × Int × Int × List Int × (List (S88)))
 | 0,_,_,_,_,_,_,_,_,_,_,_=>none
 | k + 1,x1,x2,x8,x10,x11,x13,x436000,x436001,x436002,x445000,x445001=>if x445000 = 6 then ((impl_turnGroup.f k x436000 x436001 x436002 x1 x11).bind fun t448=>(if (wrap64 (x2 + x13)) < 0 then (some (3,x10,wrap64 (x2 + x13),x8,t448)) else (if (wrap64 (x2 + x13)) ≥ x436001 then (some (3,x10,wrap64 (x2 + x13),x8,t448)) else (impl_drop.l0 k x1 (wrap64 (x2 + x13)) x8 (wrap64 (-x13)) (wrap64 (x10 + 1)) x436000 x436001 t448)))) else (if (wrap64 (x2 + x13)) < 0 then (some (3,x10,wrap64 (x2 + x13),x8,x436002)) else (if (wrap64 (x2 + x13)) ≥ x436001 then (some (3,x10,wrap64 (x2 + x13),x8,x436002)) else (impl_drop.l0 k x1 (wrap64 (x2 + x13)) x8 (wrap64 (-x13)) (wrap64 (x10 + 1)) x436000 x436001 x436002)))
end
def impl_drop.f (k:Nat) (a0_0:Int) (a0_1:Int) (l0_2:List (S88)) (l1:List Int) (a2:Int):Option (Int × Int × Int × List Int × (List (S88))):=impl_drop.l0 k l1 a2 (([]:List Int)) 0 0 a0_0 a0_1 l0_2
theorem impl_drop.calls (k:Nat) (a0_0:Int) (a0_1:Int) (P0_2_:Nat→Prop) (u9000_:Value) (l0_2:List (S88)) (A1:Option Addr) (c1:Nat) (l1:List Int) (a2:Int) (r1:Int) (r2:Int) (r3:Int) (r4:List Int) (r5:List (S88)) (w0 w:World) (hB:Below w0.heap.size w0 w) (ho0_2:Kd.R k88 88 w w0.heap.size P0_2_ u9000_ l0_2) (hr1:∀ W_,Kept w W_ (fun k_=>P0_2_ k_)→Kd.C (Kd.int .i64) W_ A1 l1.length l1) (hc1:l1.length ≤ c1) (h:impl_drop.f k a0_0 a0_1 l0_2 l1 a2 = some (r1,r2,r3,r4,r5)) :
  Calls Try.prog 129 #[.agg #[.int .i64 a0_0,.int .i64 a0_1,u9000_],.slice A1 l1.length c1,.int .i64 a2] w fun e w'=>∃ v3_:Value,e = .returned (.tuple #[.agg #[.int .i64 r1,.int .i64 r2,.int .i64 r3],v3_])∧Kd.R (Kd.int .i64) 3 w' w0.heap.size (fun k_=>(P0_2_ k_∨w.heap.size ≤ k_)) v3_ r4∧Kd.R k88 88 w' w0.heap.size (fun k_=>(P0_2_ k_∨w.heap.size ≤ k_)) u9000_ r5∧Below w0.heap.size w0 w'∧Kept w w' (fun k_=>P0_2_ k_):=by
 have HO0_2:=Aside0.mk (show Kd.R k88 88 w w0.heap.size (fun k_=>(P0_2_ k_∨w.heap.size ≤ k_)) u9000_ l0_2 from Kd.R_mono ho0_2 (fun k_ hk=>(.inl hk)));have HR1:=Aside0.mk hr1;have HC1:=Aside0.mk hc1;clear hr1 hc1;have HK:=Aside0.mk (Kept.refl w (fun k_=>P0_2_ k_));have HW0:=Aside0.mk hB.size;have HB:=Aside0.mk hB;clear hB;have H:(impl_drop.l0 k l1 a2 (([]:List Int)) 0 0 a0_0 a0_1 l0_2) = some (r1,r2,r3,r4,r5):=h;clear h;obtain ⟨y437,hy437⟩:∃ y_:List Int,y_ = (([]:List Int)):=⟨_,rfl⟩
 replace H:(impl_drop.l0 k l1 a2 y437 0 0 a0_0 a0_1 l0_2) = some (r1,r2,r3,r4,r5):=by first | (rw [hy437];with_reducible exact H) | (have H2_:=(Option.bind_some _ _).symm.trans H;rw [hy437];with_reducible exact H2_) | (have H2_:=(Option.bind_some _ _).symm.trans H;with_reducible exact H2_) | with_reducible exact H | (rw [hy437];exact H) | exact H
 have Ny437:=Aside0.mk hy437;clear hy437;have H':=Aside0.mk H;clear H;obtain ⟨Ao4,co4,eo4⟩:=Kd.R_slice HO0_2.out;subst eo4;go_enter Try.func129,Try.ntmps129;go_wp2_with (first | ((with_reducible refine gate_dst (N:=3) rfl ?_);refine box_event ?hg (N:=3) ?hd (cs:=#[.int .i64 a0_0,.int .i64 a0_1,.slice Ao4 l0_2.length co4]) (t:=50) ?hr ?_;(case hd=>rfl);(case hg=>rfl);(case hr=>first | (go_simp;done) | (go_simp;rfl));intro gb435 hg w5 hbox hb;refine ev6 (Kd.R_below (Kd.R_mv HO0_2.out) hb) (Kept.below (S:=(fun k_=>P0_2_ k_)) (km HK) hb) (bs HB hb) (hbox) ((by rw [hg];exact (by first | exact HK.out.1 | exact (show Kept w _ (fun k_=>P0_2_ k_) from km HK).1):w.heap.size ≤ gb435)) (gle hg HB) ?_;clear HO0_2 HK HB;intro HO0_2 HK HB BK435 GW435 GE435;clear hb hbox hg) | ((with_reducible refine gate_dst (N:=6) rfl ?_);refine box_event ?hg (N:=6) ?hd (cs:=#[.int .i64 0,.int .i64 0,.int .i64 0]) (t:=127) ?hr ?_;(case hd=>rfl);(case hg=>rfl);(case hr=>first | (go_simp;done) | (go_simp;rfl));intro gb436 hg w6 hbox hb;refine ev9 (Kd.R_below (Kd.R_mv HO0_2.out) hb) (kb BK435 hb) (Kept.below (S:=(fun k_=>P0_2_ k_)) (km HK) hb) (bs HB hb) (hbox) ((by rw [hg];exact (by first | exact HK.out.1 | exact (show Kept w _ (fun k_=>P0_2_ k_) from km HK).1):w.heap.size ≤ gb436)) (gle hg HB) (gnf hg BK435) (gne hg BK435) ?_;clear HO0_2 BK435 HK HB;intro HO0_2 BK435 HK HB BK436 GW436 GE436 NB435_436 NB436_435;clear hb hbox hg) | ((with_reducible refine gate_dst (N:=15) rfl ?_);refine Kd.R_lit (Kd.int .i64) _ 3 ?hg (N:=15) ?hd (xs:=([]:List Int)) (inner:=[]) (ok:=fun _=>True) (okp:=fun _=>True) ?hr ?hp (fun _ hk=>hk) trivial (Below.refl _ _) (Nat.le_refl _) (by simp) ?_;(case hd=>rfl);(case hg=>rfl);(case hr=>first | (go_simp;done) | (go_simp;rfl));(case hp=>exact (Reps.none _ _));intro v438 w7 ho8 hb hg_ hnew_;clear hg_ hnew_;(first | rw [← Ny437.out] at ho8 | (simp only [Int.reduceToNat] at ho8;rw [← Ny437.out] at ho8));refine ev6 (Kd.R_below (Kd.R_mv HO0_2.out) hb) (Kd.R_lower (Kd.R_newM (M:=fun k_=>(P0_2_ k_∨w.heap.size ≤ k_)) ho8 (by first | exact HK.out.1 | exact (show Kept w _ (fun k_=>P0_2_ k_) from km HK).1) (fun k_ h_=>.inr h_)) (below_size (bm HB))) (kb BK435 hb) (kb BK436 hb) (Kept.below (S:=(fun k_=>P0_2_ k_)) (km HK) hb) (bs HB hb) ?_;clear HO0_2 BK435 BK436 HK HB;intro HO0_2 HO439 BK435 BK436 HK HB;clear hb ho8))
 go_loopg [2,8,9,10] k (fun kq v2 v8 v9 v10 w'=>∃ (x2_1:Int) (x8_1:List Int) (x9_1:Int) (x10_1:Int) (x436002_1:List (S88)) (x437000_1:Int) (x437001_1:Int) (x437002_1:Int),v2 = .int .i64 x2_1∧v9 = .int .i64 x9_1∧v10 = .int .i64 x10_1∧Aside0 (impl_drop.l0 kq l1 x2_1 x8_1 x9_1 x10_1 a0_0 a0_1 x436002_1 = some (r1,r2,r3,r4,r5))∧Aside0 (kq ≤ k)∧Aside0 (Kd.R (Kd.int .i64) 3 w' w0.heap.size (fun k_=>(P0_2_ k_∨w.heap.size ≤ k_)) v8 x8_1)∧Aside0 (Kd.R k88 88 w' w0.heap.size (fun k_=>(P0_2_ k_∨w.heap.size ≤ k_)) (.slice Ao4 l0_2.length co4) x436002_1)∧Aside0 (w'.heap[gb435]? = some (.cells #[.int .i64 a0_0,.int .i64 a0_1,(.slice Ao4 l0_2.length co4)] 50 (0,0)))∧Aside0 (w'.heap[gb436]? = some (.cells #[.int .i64 x437000_1,.int .i64 x437001_1,.int .i64 x437002_1] 127 (0,0)))∧Aside0 (Kept w w' (fun k_=>P0_2_ k_))∧Aside0 (Below w0.heap.size w0 w'))
 case atStart=>exact ⟨(a2),(y437),(0),(0),(l0_2),(0),(0),(0),(by first | rfl | (simp;done) | (simp [*];done)),(by first | rfl | (simp;done) | (simp [*];done)),(by first | rfl | (simp;done) | (simp [*];done)),H',⟨Nat.le_refl _⟩,⟨Kd.R_mv (Kd.R_mono (ok':=fun k_=>((P0_2_ k_∨w.heap.size ≤ k_))) HO439.out (fun _ hk=>hk.1))⟩,⟨Kd.R_mv HO0_2.out⟩,⟨km_ BK435⟩,⟨km_ BK436⟩,⟨km HK⟩,⟨bm HB⟩⟩
 case round =>
  clear H';(try clear c1);(try clear p2);obtain ⟨x2_1,x8_1,x9_1,x10_1,x436002_1,x437000_1,x437001_1,x437002_1,rfl,rfl,rfl,HA,HK1,HO_8,HO_436002,BK435,BK436,HK,HB⟩:=hrel;have hl436002_1:=(Kd.R_reads' HO_436002.out).1;rw [hl436002_1] at HO_436002;(try simp only [hl436002_1])
  (try simp only [hl436002_1] at BK435)
  (try simp only [hl436002_1] at BK436)
  (try simp only [hl436002_1] at HO_8)
  cases gk with
  | zero=>exact absurd HA.out (by simp [impl_drop.l0])
  | succ k1 =>
   have H:=HA.out;clear HA;simp only [impl_drop.l0] at H;by_cases c9:x10_1 < a0_0
   ·rw [if_pos c9] at H;have c9b0:decide (x10_1 < a0_0) = true:=decide_eq_true c9;clear c9;replace H:=np_ H;obtain ⟨c10,H⟩:=H;have LMc10:=Aside0.mk c10;clear c10;obtain ⟨y440,hy440⟩:∃ y_:List Int,y_ = (x8_1 ++ [wrap64 ((wrap64 (x10_1 * a0_1)) + x2_1)]):=⟨_,rfl⟩
    replace H:(if 0 ≤ (wrap64 ((wrap64 (x10_1 * a0_1)) + x2_1)) then (if (wrap64 ((wrap64 (x10_1 * a0_1)) + x2_1)) < (x436002_1.length:Int) then ((impl_GoesTo.f k1 ((rd_T88 x436002_1 (wrap64 ((wrap64 (x10_1 * a0_1)) + x2_1))).f0) ((rd_T88 x436002_1 (wrap64 ((wrap64 (x10_1 * a0_1)) + x2_1))).f1) x9_1).bind fun bt445=>(if bt445.2 = true then (if ((rd_T88 x436002_1 (wrap64 ((wrap64 (x10_1 * a0_1)) + x2_1))).f0) = 3 then (impl_drop.j1 k1 l1 x2_1 y440 x10_1 (wrap64 ((wrap64 (x10_1 * a0_1)) + x2_1)) bt445.1 a0_0 a0_1 (x436002_1.set ((wrap64 ((wrap64 (x10_1 * a0_1)) + x2_1)):Int).toNat (⟨(rd_T88 x436002_1 (wrap64 ((wrap64 (x10_1 * a0_1)) + x2_1))).f0,wrap64 (1 - ((rd_T88 x436002_1 (wrap64 ((wrap64 (x10_1 * a0_1)) + x2_1))).f1))⟩:S88)) ((rd_T88 x436002_1 (wrap64 ((wrap64 (x10_1 * a0_1)) + x2_1))).f0) ((rd_T88 x436002_1 (wrap64 ((wrap64 (x10_1 * a0_1)) + x2_1))).f1)) else (impl_drop.j1 k1 l1 x2_1 y440 x10_1 (wrap64 ((wrap64 (x10_1 * a0_1)) + x2_1)) bt445.1 a0_0 a0_1 x436002_1 ((rd_T88 x436002_1 (wrap64 ((wrap64 (x10_1 * a0_1)) + x2_1))).f0) ((rd_T88 x436002_1 (wrap64 ((wrap64 (x10_1 * a0_1)) + x2_1))).f1))) else (some (2,x10_1,x2_1,y440,x436002_1)))) else (none)) else (none)) = some (r1,r2,r3,r4,r5):=by first | (rw [hy440];with_reducible exact H) | (have H2_:=(Option.bind_some _ _).symm.trans H;rw [hy440];with_reducible exact H2_) | (have H2_:=(Option.bind_some _ _).symm.trans H;with_reducible exact H2_) | with_reducible exact H | (rw [hy440];exact H) | exact H
    have Ny440:=Aside0.mk hy440;clear hy440;obtain ⟨ji11,hji11⟩:∃ j_:Int,(wrap64 ((wrap64 (x10_1 * a0_1)) + x2_1)) = j_:=⟨_,rfl⟩
    replace H:(if 0 ≤ (ji11) then (if (ji11) < (x436002_1.length:Int) then ((impl_GoesTo.f k1 ((rd_T88 x436002_1 (ji11)).f0) ((rd_T88 x436002_1 (ji11)).f1) x9_1).bind fun bt445=>(if bt445.2 = true then (if ((rd_T88 x436002_1 (ji11)).f0) = 3 then (impl_drop.j1 k1 l1 x2_1 y440 x10_1 ji11 bt445.1 a0_0 a0_1 (x436002_1.set ((ji11):Int).toNat (⟨(rd_T88 x436002_1 (ji11)).f0,wrap64 (1 - ((rd_T88 x436002_1 (ji11)).f1))⟩:S88)) ((rd_T88 x436002_1 (ji11)).f0) ((rd_T88 x436002_1 (ji11)).f1)) else (impl_drop.j1 k1 l1 x2_1 y440 x10_1 ji11 bt445.1 a0_0 a0_1 x436002_1 ((rd_T88 x436002_1 (ji11)).f0) ((rd_T88 x436002_1 (ji11)).f1))) else (some (2,x10_1,x2_1,y440,x436002_1)))) else (none)) else (none)) = some (r1,r2,r3,r4,r5):=by first | (rw [hji11] at H;exact H) | (simp only [hji11] at H ⊢;exact H)
    (try rw [hji11] at Ny440)
    have hji11w:(IntKind.i64.wrap ((wrap64 (x10_1 * a0_1)) + x2_1)) = ji11:=(i64_w _).trans hji11;replace H:=np_ H;obtain ⟨c12,H⟩:=H;have c12b0:decide (0 ≤ (ji11)) = true:=decide_eq_true c12;clear c12;replace H:=np_ H;obtain ⟨c13,H⟩:=H;have c13b0:decide ((ji11) < (x436002_1.length:Int)) = true:=decide_eq_true c13;(try simp only [hl436002_1] at c13b0)
    clear c13;replace H:=Option.bind_eq_some_iff.mp H;obtain ⟨⟨t445,t446⟩,A140,H⟩:=H;(try dsimp only at H)
    have A14:=Aside0.mk A140;clear A140;by_cases c15:t446 = true
    ·subst c15;have H1:(if ((rd_T88 x436002_1 (ji11)).f0) = 3 then (impl_drop.j1 k1 l1 x2_1 y440 x10_1 ji11 t445 a0_0 a0_1 (x436002_1.set ((ji11):Int).toNat (⟨(rd_T88 x436002_1 (ji11)).f0,wrap64 (1 - ((rd_T88 x436002_1 (ji11)).f1))⟩:S88)) ((rd_T88 x436002_1 (ji11)).f0) ((rd_T88 x436002_1 (ji11)).f1)) else (impl_drop.j1 k1 l1 x2_1 y440 x10_1 ji11 t445 a0_0 a0_1 x436002_1 ((rd_T88 x436002_1 (ji11)).f0) ((rd_T88 x436002_1 (ji11)).f1))) = some (r1,r2,r3,r4,r5):=by rw [if_pos rfl] at H;exact H
     clear H;have H:=H1;clear H1;have HC16:=Aside0.mk H;clear H;have hnb17:=NB435_436.out;have hnc17:=NB436_435.out;obtain ⟨hcz18_0,hcz18_1,hcz18_2,hfz18_0,hfz18_1,hfz18_2⟩:=bt3 BK435;go_upto_if 51 with (first | ((with_reducible refine gate_builtin (b:=.append) (xs:=#[.tmp 28,.tmp 30]) rfl ?_);at_builtin;refine Kd.R_append (Kd.int .i64) (w0:=w0) w0.heap.size rfl (.tmp 28) (.tmp 30) 23 3 (.int .i64 0) 8 rfl Try.underlying23 info3 rfl (by decide) (by omega) u8 x8_1 ji11 [.int .i64 ji11] (fun k_=>(P0_2_ k_∨w.heap.size ≤ k_)) (fun _=>False) rfl rfl ?aP (fun _ hk=>hk.elim) ?aF ?aO ?aB ?aS ?aL ?_;(case aP=>exact rfl);(case aB=>exact (bm HB));(case aF=>exact (fun k_ hk=>(.inr (Nat.le_trans (by first | exact HK.out.1 | exact (show Kept w _ (fun k_=>P0_2_ k_) from km HK).1) hk))));(case aO=>exact (Kd.R_mv HO_8.out));(case aS=>exact (below_size (bm HB)));(case aL=>have:=LMc10.out;omega);intro v441 w19 ho hb hg hat;rw [← Ny440.out] at ho;refine ev6 (Kd.R_over' (Kd.R_mv HO_436002.out) (Kd.R_typed (Kd.R_mv HO_8.out)) (by decide) hg) (blk_grown (km_ BK435) hg (Kd.R_ne HO_8.out BK435.out (by decide))) (blk_grown (km_ BK436) hg (Kd.R_ne HO_8.out BK436.out (by decide))) (hb) (Kept.of_grown (S:=(fun k_=>P0_2_ k_)) hg (km HK) (fun k_ e_=>(HO_8.out.1 k_ e_))) (ho) ?_;clear HO_436002 BK435 BK436 HB HK HO_8;intro HO_436002 BK435 BK436 HB HK HO442;clear ho hb hg hat;obtain ⟨hcz20_0,hcz20_1,hcz20_2,hfz20_0,hfz20_1,hfz20_2⟩:=bt3 BK435;have p443:0 ≤ ((ji11):Int):=of_decide_eq_true (by first | (with_reducible assumption) | assumption);have q443:(ji11) < (x436002_1.length:Int):=of_decide_eq_true (by first | (with_reducible assumption) | assumption);obtain ⟨ad443,e443,hx443_0,hx443_1⟩:=at_T88 (Kd.R_reads' HO_436002.out).2.2 (ji11) p443 q443;cases e443;replace p443:=eq_true p443;replace q443:=eq_true q443) | ((with_reducible refine gate_dst (N:=12) rfl ?_);refine box_event ?hg (N:=12) ?hd (cs:=#[.int .i64 0,.int .i64 0]) (t:=88) ?hr ?_;(case hd=>rfl);(case hg=>rfl);(case hr=>first | (go_simp;done) | (go_simp;rfl));intro gb444 hg w21 hbox hb;refine ev12 (Kd.R_below (Kd.R_elderB (Kd.R_mv HO_436002.out) gb444 (Nat.le_of_eq hg.symm)) hb) (Kd.R_below (Kd.R_mv HO442.out) hb) (kb BK435 hb) (kb BK436 hb) (Kept.below (S:=(fun k_=>P0_2_ k_)) (km HK) hb) (bs HB hb) (hbox) ((by rw [hg];exact (by first | exact HK.out.1 | exact (show Kept w _ (fun k_=>P0_2_ k_) from km HK).1):w.heap.size ≤ gb444)) (gle hg HB) (gnf hg BK435) (gne hg BK435) (gnf hg BK436) ?_;intro n0_ n1_ n2_ n3_ n4_ n5_ n6_ n7_ n8_ n9_ n10_ n11_;refine ev1 (gne hg BK436) ?_;intro n12_;clear HO_436002 HO442 BK435 BK436 HK HB;revert n0_ n1_ n2_ n3_ n4_ n5_ n6_ n7_ n8_ n9_ n10_ n11_ n12_;intro HO_436002 HO442 BK435 BK436 HK HB BK444 GW444 GE444 NB435_444 NB444_435 NB436_444 NB444_436;clear hb hbox hg;have hnb22:=NB444_435.out;have hnc22:=NB435_444.out;have hnb23:=NB444_436.out;have hnc23:=NB436_444.out;obtain ⟨hcz24_0,hcz24_1,hfz24_0,hfz24_1⟩:=bt2 BK444) | ((with_reducible refine gate_callee (f:=139) rfl ?_);refine goesL_ (some 40) rfl rfl Try.func139 (by kernel_rfl) rfl #[.agg #[.int .i64 ((rd_T88 x436002_1 (ji11)).f0),.int .i64 ((rd_T88 x436002_1 (ji11)).f1)],.int .i64 x9_1] rfl (by (try simp only [ma_,mb_,mc_]);first | done | (simp only [hji11];rfl) | rfl | (simp only [List.length_drop,List.length_take];rfl)) ?_;(with_reducible refine (impl_GoesTo.calls k1 ((rd_T88 x436002_1 (ji11)).f0) ((rd_T88 x436002_1 (ji11)).f1) x9_1 t445 true _ A14.out).mono ?_);rintro e w25 ⟨rfl,hb⟩;refine ⟨_,rfl,?_⟩;refine ev7 (Kd.R_below (Kd.R_mv (Kd.R_mono (Kd.R_far (p:=⟨gb444,1,none⟩) (Kd.R_far (p:=⟨gb444,0,none⟩) (Kd.R_mono HO_436002.out (fun k_ hk=>(⟨hk,hk.2⟩:_∧k_ ≠ gb444))) (fun _ hk=>hk.2) (.int .i64 ((rd_T88 x436002_1 (ji11)).f0))) (fun _ hk=>hk.2) (.int .i64 ((rd_T88 x436002_1 (ji11)).f1))) (fun _ h_=>h_.1))) hb) (Kd.R_below (Kd.R_ft HO442.out BK444.out (by decide)) hb) (blk_below (g:=gb435) (o:=.cells #[.int .i64 a0_0,.int .i64 a0_1,.slice (some ad443) x436002_1.length co4] 50 (0,0)) (fp BK435 rfl) hb) (blk_below (g:=gb436) (o:=.cells #[.int .i64 x437000_1,.int .i64 x437001_1,.int .i64 x437002_1] 127 (0,0)) (fp BK436 rfl) hb) (blk_below (g:=gb444) (o:=.cells #[.int .i64 ((rd_T88 x436002_1 (ji11)).f0),.int .i64 ((rd_T88 x436002_1 (ji11)).f1)] 88 (0,0)) (fp BK444 rfl) hb) (Kept.below (S:=(fun k_=>P0_2_ k_)) (km HK) hb) (bs HB hb) ?_;clear HO_436002 HO442 BK435 BK436 BK444 HK HB;intro HO_436002 HO442 BK435 BK436 BK444 HK HB;(try clear hb);obtain ⟨hcz26_0,hcz26_1,hfz26_0,hfz26_1⟩:=bt2 BK444))
     (try simp only [Act.put,za_,zb_,zc_])
     go_cut [] (fun wc=>∃ (kq:Nat) (x436002_15:List (S88)) (x445001_15:Int),Aside0 (impl_drop.j1 kq l1 x2_1 y440 x10_1 ji11 t445 a0_0 a0_1 x436002_15 ((rd_T88 x436002_1 (ji11)).f0) x445001_15 = some (r1,r2,r3,r4,r5))∧Aside0 (kq ≤ k1)∧Aside0 (Kd.R (Kd.int .i64) 3 wc w0.heap.size (fun k_=>(P0_2_ k_∨w.heap.size ≤ k_)) v441 y440)∧Aside0 (Kd.R k88 88 wc w0.heap.size (fun k_=>(P0_2_ k_∨w.heap.size ≤ k_)∧k_ ≠ gb444) (.slice (some ad443) x436002_1.length co4) x436002_15)∧Aside0 (wc.heap[gb435]? = some (.cells #[.int .i64 a0_0,.int .i64 a0_1,(.slice (some ad443) x436002_1.length co4)] 50 (0,0)))∧Aside0 (wc.heap[gb436]? = some (.cells #[.int .i64 x437000_1,.int .i64 x437001_1,.int .i64 x437002_1] 127 (0,0)))∧Aside0 (wc.heap[gb444]? = some (.cells #[.int .i64 ((rd_T88 x436002_1 (ji11)).f0),.int .i64 x445001_15] 88 (0,0)))∧Aside0 (Kept w wc (fun k_=>P0_2_ k_))∧Aside0 (Below w0.heap.size w0 wc))
     case first =>
      have H:=HC16.out;clear HC16;by_cases c27:((rd_T88 x436002_1 (ji11)).f0) = 3
      ·rw [if_pos c27] at H;have c27b0:(((rd_T88 x436002_1 (ji11)).f0) == 3) = true:=beq_iff_eq.mpr c27;have c27b1:(((rd_T88 x436002_1 (ji11)).f0) != 3) = false:=bne_eq_false_iff_eq.mpr c27;clear c27;(first | rw [c27b0] | (simp only [i64_w,i32_w];rw [c27b0]) | skip)
       obtain ⟨y447,hy447⟩:∃ y_:List (S88),y_ = (x436002_1.set ((ji11):Int).toNat (⟨(rd_T88 x436002_1 (ji11)).f0,wrap64 (1 - ((rd_T88 x436002_1 (ji11)).f1))⟩:S88)):=⟨_,rfl⟩
       replace H:(impl_drop.j1 k1 l1 x2_1 y440 x10_1 ji11 t445 a0_0 a0_1 y447 ((rd_T88 x436002_1 (ji11)).f0) ((rd_T88 x436002_1 (ji11)).f1)) = some (r1,r2,r3,r4,r5):=by first | (rw [hy447];with_reducible exact H) | (have H2_:=(Option.bind_some _ _).symm.trans H;rw [hy447];with_reducible exact H2_) | (have H2_:=(Option.bind_some _ _).symm.trans H;with_reducible exact H2_) | with_reducible exact H | (rw [hy447];exact H) | exact H
       have Ny447:=Aside0.mk hy447;clear hy447;have H':=Aside0.mk H;clear H;have hnb29:=NB435_436.out;have hnc29:=NB436_435.out;have hnb30:=NB435_444.out;have hnc30:=NB444_435.out;obtain ⟨hcz31_0,hcz31_1,hcz31_2,hfz31_0,hfz31_1,hfz31_2⟩:=bt3 BK435;have hnb32:=NB444_436.out;have hnc32:=NB436_444.out;obtain ⟨hcz33_0,hcz33_1,hfz33_0,hfz33_1⟩:=bt2 BK444;have p28:0 ≤ ((ji11):Int):=of_decide_eq_true (by first | (with_reducible assumption) | assumption);have q28:((ji11):Int) < ((x436002_1.length:Int):Int):=of_decide_eq_true (by first | (with_reducible assumption) | assumption);obtain ⟨go28,co28,eo28,gb28,gl28,cl28,HG28⟩:=Kd.R_form HO_436002.out (by omega);(first | cases eo28 | (injection eo28 with ea_ en_ ec_;(first | subst ea_ | (injection ea_ with ea_;subst ea_));subst ec_;clear en_))
       have GB28:=Aside0.mk gb28;have GG28:=Aside0.mk HG28;clear gb28 gl28 HG28;have HMgo28:=Aside0.mk (show (P0_2_ go28∨w.heap.size ≤ go28) from (HO_436002.out.1 _ rfl).1);(first | simp only [add_plain] at hx443_0 | skip)
       (first | simp only [add_plain] at hx443_1 | skip)
       obtain ⟨ce28,hcl28,hM28,hcc28,hfr28⟩:=Kd.R_elem HO_436002.out z88 ((ji11):Int) p28 q28;obtain rfl:=k88_openM hM28;have hx28_0:w25.cell? ⟨go28,((ji11):Int).toNat * 2,none⟩ = some (.int .i64 ((rd_T88 x436002_1 (ji11)).f0)):=hcc28 0 _ rfl;have hx28_1:w25.cell? ⟨go28,((ji11):Int).toNat * 2 + 1,none⟩ = some (.int .i64 ((rd_T88 x436002_1 (ji11)).f1)):=hcc28 1 _ rfl;have hf28_0:w25.frozen? ⟨go28,((ji11):Int).toNat * 2,none⟩ = false:=hfr28 0;have hf28_1:w25.frozen? ⟨go28,((ji11):Int).toNat * 2 + 1,none⟩ = false:=hfr28 1;clear hcl28 hcc28 hfr28 hM28;replace p28:=eq_true p28;replace q28:=eq_true q28;have HX34:=Aside0.mk (show Kd.R k88 88 w25 w0.heap.size (fun k_=>(P0_2_ k_∨w.heap.size ≤ k_)∧k_ ≠ gb444) (.slice (some ⟨go28,0,none⟩) x436002_1.length co4) x436002_1 from (Kd.R_mv HO_436002.out));obtain ⟨ce34,hcl34,hM34,hcc34,hfr34⟩:=Kd.R_elem HX34.out z88 ((ji11):Int) (of_decide_eq_true (by first | (with_reducible assumption) | assumption)) (by have h_:((ji11):Int) < ((x436002_1.length:Int):Int):=of_decide_eq_true (by first | (with_reducible assumption) | assumption);first | exact h_ | (have e_:=(Kd.R_reads' HO_436002.out).1;omega) | simpa using h_);obtain rfl:=k88_openM hM34;have HP34:=Kd.R_seg HX34.out ((ji11):Int) (of_decide_eq_true (by first | (with_reducible assumption) | assumption)) (by have h_:((ji11):Int) < ((x436002_1.length:Int):Int):=of_decide_eq_true (by first | (with_reducible assumption) | assumption);first | exact h_ | (have e_:=(Kd.R_reads' HO_436002.out).1;omega) | simpa using h_) (seg:=[.int .i64 (wrap64 (1 - ((rd_T88 x436002_1 (ji11)).f1)))]) (j:=1) hcl34 hcc34 (show 2 ≤ 2 from by decide) (x':=(⟨(rd_T88 x436002_1 (ji11)).f0,wrap64 (1 - ((rd_T88 x436002_1 (ji11)).f1))⟩:S88)) (k88_mkM _ _ _ (⟨(rd_T88 x436002_1 (ji11)).f0,wrap64 (1 - ((rd_T88 x436002_1 (ji11)).f1))⟩:S88) ) (fun _ hk=>hk);have hx34_1:=hcc34 1 _ rfl;(try simp only [show (k88).sz = 2 from rfl,Nat.mul_one,Nat.add_zero] at hx34_1)
       have hf34_1:=hfr34 1;(try simp only [show (k88).sz = 2 from rfl,Nat.mul_one,Nat.add_zero] at hf34_1)
       clear hcl34 hcc34 hfr34 hM34;go_wp2_with (first | ((with_reducible refine gate_store (t:=3) (p:=59) rfl ?_);refine store_event (t:=3) (p:=59) (v:=?vo_w35) (w1:=(w25.setCell ⟨go28,((ji11):Int).toNat * 2 + 1,none⟩ (.int .i64 (wrap64 (1 - ((rd_T88 x436002_1 (ji11)).f1)))))) ?hg ?ho ?hn ?hr ?_;(case ho=>rfl);(case hg=>rfl);(case hn=>rfl);(case hr=>first | (go_simp;done) | (go_simp;rfl));intro w35 hw;have hg:w25.grownBy w35 (some go28):=(by rw [hw];exact HP34.2);have hp_:Kd.R k88 88 w35 w0.heap.size (fun k_=>(P0_2_ k_∨w.heap.size ≤ k_)∧k_ ≠ gb444) (.slice (some ⟨go28,0,none⟩) x436002_1.length co4) y447:=(by rw [hw,Ny447.out];exact HP34.1);clear HP34;refine ev7 (hp_) (blk_grown (km_ BK435) hg (Kd.R_ne HO_436002.out BK435.out (by decide))) (blk_grown (km_ BK436) hg (Kd.R_ne HO_436002.out BK436.out (by decide))) (Kd.R_over' (v:=(.slice (some ⟨go28,0,none⟩) x436002_1.length co4)) (Kd.R_mv HO442.out) (Kd.R_typed HO_436002.out) (by decide) hg) (blk_grown (km_ BK444) hg (Kd.R_away HO_436002.out (fun _ hk=>hk.2))) ((by rw [hw];exact below_set (HB.out) GB28.out:Below w0.heap.size w0 w35)) (Kept.of_grown (S:=(fun k_=>P0_2_ k_)) hg (km HK) (fun k_ e_=>(HO_436002.out.1 k_ e_).1)) ?_;clear HO_436002 BK435 BK436 HO442 BK444 HB HK;intro HO_436002 BK435 BK436 HO442 BK444 HB HK;clear hg hw hp_))
       go_meet
       case rel=>exact ⟨_,(y447),((rd_T88 x436002_1 (ji11)).f1),H',⟨by have:=HK1.out;first | omega | exact Nat.le_refl _⟩,⟨by (try simp only [hl436002_1]);exact Kd.R_mv HO442.out⟩,⟨by (try simp only [hl436002_1]);exact Kd.R_mv HO_436002.out⟩,⟨by (try simp only [hl436002_1]);exact km_ BK435⟩,⟨by (try simp only [hl436002_1]);exact km_ BK436⟩,⟨by (try simp only [hl436002_1]);exact km_ BK444⟩,⟨km HK⟩,⟨bm HB⟩⟩
      ·rw [if_neg c27] at H;have c27b0:(((rd_T88 x436002_1 (ji11)).f0) == 3) = false:=beq_eq_false_iff_ne.mpr c27;have c27b1:(((rd_T88 x436002_1 (ji11)).f0) != 3) = true:=bne_iff_ne.mpr c27;(first | rw [c27b0] | (simp only [i64_w,i32_w];rw [c27b0]) | skip)
       have H':=Aside0.mk H;clear H;go_wp2;go_meet
       case rel=>exact ⟨_,(x436002_1),((rd_T88 x436002_1 (ji11)).f1),H',⟨by have:=HK1.out;first | omega | exact Nat.le_refl _⟩,⟨by (try simp only [hl436002_1]);exact Kd.R_mv HO442.out⟩,⟨by (try simp only [hl436002_1]);exact Kd.R_mv HO_436002.out⟩,⟨by (try simp only [hl436002_1]);exact km_ BK435⟩,⟨by (try simp only [hl436002_1]);exact km_ BK436⟩,⟨by (try simp only [hl436002_1]);exact km_ BK444⟩,⟨km HK⟩,⟨bm HB⟩⟩
     case rest =>
      clear HC16;(try clear c1);(try clear c2);(try clear p2);(try clear p4);(try clear q4);(try clear hx4);(try clear p6);(try clear c9);(try clear c9b0);(try clear c10);(try clear c12);(try clear c12b0);(try clear c13);(try clear c13b0);(try clear c15);(try clear c17);(try clear c22);(try clear c23);(try clear hcz18_0 hcz18_1 hcz18_2 hfz18_0 hfz18_1 hfz18_2);(try clear hcz20_0 hcz20_1 hcz20_2 hfz20_0 hfz20_1 hfz20_2);(try clear hcz24_0 hcz24_1 hfz24_0 hfz24_1);(try clear hcz26_0 hcz26_1 hfz26_0 hfz26_1);(try clear hx443_0);(try clear hx443_1);(try clear p2);(try clear p443);(try clear q443);obtain ⟨kq,x436002_15,x445001_15,HA,HJ15,HO_8,HO_436002,BK435,BK436,BK444,HK,HB⟩:=hcut;have hl436002_15:=(Kd.R_reads' HO_436002.out).1;rw [hl436002_15] at HO_436002;(try simp only [hl436002_15])
      (try simp only [hl436002_15] at BK435)
      (try simp only [hl436002_15] at BK436)
      (try simp only [hl436002_15] at BK444)
      (try simp only [hl436002_15] at HO_8)
      cases kq with
      | zero=>exact absurd HA.out (by simp [impl_drop.j1])
      | succ kj15 =>
       have H:=HA.out;clear HA;simp only [impl_drop.j1] at H;by_cases c36:((rd_T88 x436002_1 (ji11)).f0) = 6
       ·rw [if_pos c36] at H;have c36b0:(((rd_T88 x436002_1 (ji11)).f0) == 6) = true:=beq_iff_eq.mpr c36;have c36b1:(((rd_T88 x436002_1 (ji11)).f0) != 6) = false:=bne_eq_false_iff_eq.mpr c36;clear c36;replace H:=Option.bind_eq_some_iff.mp H;obtain ⟨t448,A370,H⟩:=H;(try dsimp only at H)
        have A37:=Aside0.mk A370;clear A370;by_cases c38:(wrap64 (x2_1 + t445)) < 0
        ·rw [if_pos c38] at H;have c38b0:decide ((wrap64 (x2_1 + t445)) < 0) = true:=decide_eq_true c38;clear c38;simp only [Option.some.injEq,Prod.mk.injEq] at H;obtain ⟨rfl,rfl,rfl,rfl,rfl⟩:=H;have hnb39:=NB444_435.out;have hnc39:=NB435_444.out;have hnb40:=NB444_436.out;have hnc40:=NB436_444.out;obtain ⟨hcz41_0,hcz41_1,hfz41_0,hfz41_1⟩:=bt2 BK444;have hnb42:=NB435_436.out;have hnc42:=NB436_435.out;obtain ⟨hcz43_0,hcz43_1,hcz43_2,hfz43_0,hfz43_1,hfz43_2⟩:=bt3 BK435;go_wp2_with (first | ((with_reducible refine gate_callee (f:=140) rfl ?_);refine goesL_ (some 66) rfl rfl Try.func140 (by kernel_rfl) rfl #[.agg #[.int .i64 a0_0,.int .i64 a0_1,.slice (some ad443) x436002_15.length co4],.slice A1 l1.length c1,.int .i64 ji11] rfl (by (try simp only [ma_,mb_,mc_]);first | done | (simp only [hji11];rfl) | rfl | (simp only [List.length_drop,List.length_take];rfl)) ?_;(with_reducible refine (impl_turnGroup.calls kj15 a0_0 a0_1 (fun k_=>some k_ = (.slice (some ad443) x436002_15.length co4:Value).ownBlock) (.slice (some ad443) x436002_15.length co4) x436002_15 _ _ l1 ji11 t448 w0 _ (bm HB) ?side2 ?side3 HC1.out A37.out).mono ?_);(case side2=>exact Kd.R_tight rfl HO_436002.out);(case side3=>exact Kd.C_kept_call HR1.out (km HK) (fun k_ hs_=>(fun e_=>(HO_436002.out.1 k_ e_.symm).1) hs_));rintro e w44 ⟨rfl,hy0,hb,hkp⟩;refine ⟨_,rfl,?_⟩;refine ev7 (Kd.R_mono (ok':=fun k_=>(P0_2_ k_∨w.heap.size ≤ k_)) (Kd.R_keptB ((Kd.R_apart' HO_8.out (Kd.R_typed HO_436002.out) (by decide))) hkp (fun k_ hk_ hs_=>(hk_.2) hs_)) (fun k_ hk_=>hk_.1.1)) (Kd.R_reok rfl hy0 (fun k_ e_=>HO_436002.out.1 k_ e_)) (blk_kept (km_ BK435) hkp (fun hs_=>(fun e_=>(Kd.R_ne HO_436002.out BK435.out (by decide)) e_) hs_)) (blk_kept (km_ BK436) hkp (fun hs_=>(fun e_=>(Kd.R_ne HO_436002.out BK436.out (by decide)) e_) hs_)) (blk_kept (km_ BK444) hkp (fun hs_=>(fun e_=>(Kd.R_away HO_436002.out (fun _ hk=>hk.2)) e_) hs_)) (Kept.then_ (S:=(fun k_=>P0_2_ k_)) (km HK) hkp (fun k_ hs_=>(fun e_=>(HO_436002.out.1 k_ e_.symm).1) hs_)) (hb) ?_;clear HO_8 HO_436002 BK435 BK436 BK444 HK HB;intro HO_8 HO_436002 BK435 BK436 BK444 HK HB;(try clear hb);(try clear hkp);(try clear hy0);obtain ⟨hcz45_0,hcz45_1,hcz45_2,hfz45_0,hfz45_1,hfz45_2⟩:=bt3 BK436))
         refine bodyPost_ret (results_ct rfl _ _ gb436 127 #[.int .i64 3,.int .i64 x10_1,.int .i64 (wrap64 (x2_1 + t445))] (0,0) _ rfl (fp BK436 rfl) Try.underlying127 rfl (by kernel_rfl)) rfl ?_;exact ⟨_,by first | rfl | (simp [e0_,e1_] <;> rfl) | (simp only [← hji11];first | rfl | (simp [e0_,e1_] <;> rfl)) | (simp [*,e0_,e1_] <;> rfl),Kd.R_mv (Kd.R_mono (ok':=fun k_=>((P0_2_ k_∨w.heap.size ≤ k_))) (Kd.R_far (p:=⟨gb436,2,none⟩) (Kd.R_far (p:=⟨gb436,1,none⟩) (Kd.R_far (p:=⟨gb436,0,none⟩) (Kd.R_types HO_8.out BK436.out (by decide)) (fun _ hk=>hk.2) (.int .i64 3)) (fun _ hk=>hk.2) (.int .i64 x10_1)) (fun _ hk=>hk.2) (.int .i64 (wrap64 (x2_1 + t445)))) (fun _ hk=>hk.1)),(by first | exact (Kd.R_mv (Kd.R_mono (ok':=fun k_=>((P0_2_ k_∨w.heap.size ≤ k_))) (Kd.R_far (p:=⟨gb436,2,none⟩) (Kd.R_far (p:=⟨gb436,1,none⟩) (Kd.R_far (p:=⟨gb436,0,none⟩) (Kd.R_types HO_436002.out BK436.out (by decide)) (fun _ hk=>hk.2) (.int .i64 3)) (fun _ hk=>hk.2) (.int .i64 x10_1)) (fun _ hk=>hk.2) (.int .i64 (wrap64 (x2_1 + t445)))) (fun _ hk=>hk.1.1))) | (simp only [hl436002_1,hl436002_15];exact (Kd.R_mv (Kd.R_mono (ok':=fun k_=>((P0_2_ k_∨w.heap.size ≤ k_))) (Kd.R_far (p:=⟨gb436,2,none⟩) (Kd.R_far (p:=⟨gb436,1,none⟩) (Kd.R_far (p:=⟨gb436,0,none⟩) (Kd.R_types HO_436002.out BK436.out (by decide)) (fun _ hk=>hk.2) (.int .i64 3)) (fun _ hk=>hk.2) (.int .i64 x10_1)) (fun _ hk=>hk.2) (.int .i64 (wrap64 (x2_1 + t445)))) (fun _ hk=>hk.1.1))))),bm HB,km HK⟩
        ·rw [if_neg c38] at H;have c38b0:decide ((wrap64 (x2_1 + t445)) < 0) = false:=decide_eq_false c38;clear c38;by_cases c46:(wrap64 (x2_1 + t445)) ≥ a0_1
         ·rw [if_pos c46] at H;have c46b0:decide (a0_1 ≤ (wrap64 (x2_1 + t445))) = true:=decide_eq_true c46;clear c46;simp only [Option.some.injEq,Prod.mk.injEq] at H;obtain ⟨rfl,rfl,rfl,rfl,rfl⟩:=H;have hnb47:=NB444_435.out;have hnc47:=NB435_444.out;have hnb48:=NB444_436.out;have hnc48:=NB436_444.out;obtain ⟨hcz49_0,hcz49_1,hfz49_0,hfz49_1⟩:=bt2 BK444;have hnb50:=NB435_436.out;have hnc50:=NB436_435.out;obtain ⟨hcz51_0,hcz51_1,hcz51_2,hfz51_0,hfz51_1,hfz51_2⟩:=bt3 BK435;go_wp2_with (first | ((with_reducible refine gate_callee (f:=140) rfl ?_);refine goesL_ (some 66) rfl rfl Try.func140 (by kernel_rfl) rfl #[.agg #[.int .i64 a0_0,.int .i64 a0_1,.slice (some ad443) x436002_15.length co4],.slice A1 l1.length c1,.int .i64 ji11] rfl (by (try simp only [ma_,mb_,mc_]);first | done | (simp only [hji11];rfl) | rfl | (simp only [List.length_drop,List.length_take];rfl)) ?_;(with_reducible refine (impl_turnGroup.calls kj15 a0_0 a0_1 (fun k_=>some k_ = (.slice (some ad443) x436002_15.length co4:Value).ownBlock) (.slice (some ad443) x436002_15.length co4) x436002_15 _ _ l1 ji11 t448 w0 _ (bm HB) ?side2 ?side3 HC1.out A37.out).mono ?_);(case side2=>exact Kd.R_tight rfl HO_436002.out);(case side3=>exact Kd.C_kept_call HR1.out (km HK) (fun k_ hs_=>(fun e_=>(HO_436002.out.1 k_ e_.symm).1) hs_));rintro e w52 ⟨rfl,hy0,hb,hkp⟩;refine ⟨_,rfl,?_⟩;refine ev7 (Kd.R_mono (ok':=fun k_=>(P0_2_ k_∨w.heap.size ≤ k_)) (Kd.R_keptB ((Kd.R_apart' HO_8.out (Kd.R_typed HO_436002.out) (by decide))) hkp (fun k_ hk_ hs_=>(hk_.2) hs_)) (fun k_ hk_=>hk_.1.1)) (Kd.R_reok rfl hy0 (fun k_ e_=>HO_436002.out.1 k_ e_)) (blk_kept (km_ BK435) hkp (fun hs_=>(fun e_=>(Kd.R_ne HO_436002.out BK435.out (by decide)) e_) hs_)) (blk_kept (km_ BK436) hkp (fun hs_=>(fun e_=>(Kd.R_ne HO_436002.out BK436.out (by decide)) e_) hs_)) (blk_kept (km_ BK444) hkp (fun hs_=>(fun e_=>(Kd.R_away HO_436002.out (fun _ hk=>hk.2)) e_) hs_)) (Kept.then_ (S:=(fun k_=>P0_2_ k_)) (km HK) hkp (fun k_ hs_=>(fun e_=>(HO_436002.out.1 k_ e_.symm).1) hs_)) (hb) ?_;clear HO_8 HO_436002 BK435 BK436 BK444 HK HB;intro HO_8 HO_436002 BK435 BK436 BK444 HK HB;(try clear hb);(try clear hkp);(try clear hy0);obtain ⟨hcz53_0,hcz53_1,hcz53_2,hfz53_0,hfz53_1,hfz53_2⟩:=bt3 BK435;obtain ⟨hcz54_0,hcz54_1,hcz54_2,hfz54_0,hfz54_1,hfz54_2⟩:=bt3 BK436))
          refine bodyPost_ret (results_ct rfl _ _ gb436 127 #[.int .i64 3,.int .i64 x10_1,.int .i64 (wrap64 (x2_1 + t445))] (0,0) _ rfl (fp BK436 rfl) Try.underlying127 rfl (by kernel_rfl)) rfl ?_;exact ⟨_,by first | rfl | (simp [e0_,e1_] <;> rfl) | (simp only [← hji11];first | rfl | (simp [e0_,e1_] <;> rfl)) | (simp [*,e0_,e1_] <;> rfl),Kd.R_mv (Kd.R_mono (ok':=fun k_=>((P0_2_ k_∨w.heap.size ≤ k_))) (Kd.R_far (p:=⟨gb436,2,none⟩) (Kd.R_far (p:=⟨gb436,1,none⟩) (Kd.R_far (p:=⟨gb436,0,none⟩) (Kd.R_types HO_8.out BK436.out (by decide)) (fun _ hk=>hk.2) (.int .i64 3)) (fun _ hk=>hk.2) (.int .i64 x10_1)) (fun _ hk=>hk.2) (.int .i64 (wrap64 (x2_1 + t445)))) (fun _ hk=>hk.1)),(by first | exact (Kd.R_mv (Kd.R_mono (ok':=fun k_=>((P0_2_ k_∨w.heap.size ≤ k_))) (Kd.R_far (p:=⟨gb436,2,none⟩) (Kd.R_far (p:=⟨gb436,1,none⟩) (Kd.R_far (p:=⟨gb436,0,none⟩) (Kd.R_types HO_436002.out BK436.out (by decide)) (fun _ hk=>hk.2) (.int .i64 3)) (fun _ hk=>hk.2) (.int .i64 x10_1)) (fun _ hk=>hk.2) (.int .i64 (wrap64 (x2_1 + t445)))) (fun _ hk=>hk.1.1))) | (simp only [hl436002_1,hl436002_15];exact (Kd.R_mv (Kd.R_mono (ok':=fun k_=>((P0_2_ k_∨w.heap.size ≤ k_))) (Kd.R_far (p:=⟨gb436,2,none⟩) (Kd.R_far (p:=⟨gb436,1,none⟩) (Kd.R_far (p:=⟨gb436,0,none⟩) (Kd.R_types HO_436002.out BK436.out (by decide)) (fun _ hk=>hk.2) (.int .i64 3)) (fun _ hk=>hk.2) (.int .i64 x10_1)) (fun _ hk=>hk.2) (.int .i64 (wrap64 (x2_1 + t445)))) (fun _ hk=>hk.1.1))))),bm HB,km HK⟩
         ·rw [if_neg c46] at H;have c46b0:decide (a0_1 ≤ (wrap64 (x2_1 + t445))) = false:=decide_eq_false c46;clear c46;have H':=Aside0.mk H;clear H;have hnb55:=NB444_435.out;have hnc55:=NB435_444.out;have hnb56:=NB444_436.out;have hnc56:=NB436_444.out;obtain ⟨hcz57_0,hcz57_1,hfz57_0,hfz57_1⟩:=bt2 BK444;have hnb58:=NB435_436.out;have hnc58:=NB436_435.out;obtain ⟨hcz59_0,hcz59_1,hcz59_2,hfz59_0,hfz59_1,hfz59_2⟩:=bt3 BK435;go_wp2_with (first | ((with_reducible refine gate_callee (f:=140) rfl ?_);refine goesL_ (some 66) rfl rfl Try.func140 (by kernel_rfl) rfl #[.agg #[.int .i64 a0_0,.int .i64 a0_1,.slice (some ad443) x436002_15.length co4],.slice A1 l1.length c1,.int .i64 ji11] rfl (by (try simp only [ma_,mb_,mc_]);first | done | (simp only [hji11];rfl) | rfl | (simp only [List.length_drop,List.length_take];rfl)) ?_;(with_reducible refine (impl_turnGroup.calls kj15 a0_0 a0_1 (fun k_=>some k_ = (.slice (some ad443) x436002_15.length co4:Value).ownBlock) (.slice (some ad443) x436002_15.length co4) x436002_15 _ _ l1 ji11 t448 w0 _ (bm HB) ?side2 ?side3 HC1.out A37.out).mono ?_);(case side2=>exact Kd.R_tight rfl HO_436002.out);(case side3=>exact Kd.C_kept_call HR1.out (km HK) (fun k_ hs_=>(fun e_=>(HO_436002.out.1 k_ e_.symm).1) hs_));rintro e w60 ⟨rfl,hy0,hb,hkp⟩;refine ⟨_,rfl,?_⟩;refine ev7 (Kd.R_mono (ok':=fun k_=>(P0_2_ k_∨w.heap.size ≤ k_)) (Kd.R_keptB ((Kd.R_apart' HO_8.out (Kd.R_typed HO_436002.out) (by decide))) hkp (fun k_ hk_ hs_=>(hk_.2) hs_)) (fun k_ hk_=>hk_.1.1)) (Kd.R_reok rfl hy0 (fun k_ e_=>HO_436002.out.1 k_ e_)) (blk_kept (km_ BK435) hkp (fun hs_=>(fun e_=>(Kd.R_ne HO_436002.out BK435.out (by decide)) e_) hs_)) (blk_kept (km_ BK436) hkp (fun hs_=>(fun e_=>(Kd.R_ne HO_436002.out BK436.out (by decide)) e_) hs_)) (blk_kept (km_ BK444) hkp (fun hs_=>(fun e_=>(Kd.R_away HO_436002.out (fun _ hk=>hk.2)) e_) hs_)) (Kept.then_ (S:=(fun k_=>P0_2_ k_)) (km HK) hkp (fun k_ hs_=>(fun e_=>(HO_436002.out.1 k_ e_.symm).1) hs_)) (hb) ?_;clear HO_8 HO_436002 BK435 BK436 BK444 HK HB;intro HO_8 HO_436002 BK435 BK436 BK444 HK HB;(try clear hb);(try clear hkp);(try clear hy0);obtain ⟨hcz61_0,hcz61_1,hcz61_2,hfz61_0,hfz61_1,hfz61_2⟩:=bt3 BK435))
          (try simp only [← hl436002_1,← hl436002_15])
          go_roundg kj15
          case measure=>have:=HK1.out;have:=HJ15.out;omega
          case rel=>exact ⟨(wrap64 (x2_1 + t445)),(y440),(wrap64 (-t445)),(wrap64 (x10_1 + 1)),(t448),(x437000_1),(x437001_1),(x437002_1),(by first | rfl | (simp;done) | (simp [*];done)),(by first | rfl | (simp;done) | (simp [*];done)),(by first | rfl | (simp;done) | (simp [*];done)),H',⟨by have:=HK1.out;have:=HJ15.out;omega⟩,⟨by (try simp only [hl436002_1]);(try simp only [hl436002_15]);exact Kd.R_mv HO_8.out⟩,⟨by (try simp only [hl436002_1]);(try simp only [hl436002_15]);exact Kd.R_mv (Kd.R_mono (ok':=fun k_=>((P0_2_ k_∨w.heap.size ≤ k_))) HO_436002.out (fun _ hk=>hk.1))⟩,⟨by (try simp only [hl436002_1]);(try simp only [hl436002_15]);exact km_ BK435⟩,⟨by (try simp only [hl436002_1]);(try simp only [hl436002_15]);exact km_ BK436⟩,⟨km HK⟩,⟨bm HB⟩⟩
       ·rw [if_neg c36] at H;have c36b0:(((rd_T88 x436002_1 (ji11)).f0) == 6) = false:=beq_eq_false_iff_ne.mpr c36;have c36b1:(((rd_T88 x436002_1 (ji11)).f0) != 6) = true:=bne_iff_ne.mpr c36;by_cases c62:(wrap64 (x2_1 + t445)) < 0
        ·rw [if_pos c62] at H;have c62b0:decide ((wrap64 (x2_1 + t445)) < 0) = true:=decide_eq_true c62;clear c62;simp only [Option.some.injEq,Prod.mk.injEq] at H;obtain ⟨rfl,rfl,rfl,rfl,rfl⟩:=H;have hnb63:=NB444_435.out;have hnc63:=NB435_444.out;have hnb64:=NB444_436.out;have hnc64:=NB436_444.out;obtain ⟨hcz65_0,hcz65_1,hfz65_0,hfz65_1⟩:=bt2 BK444;have hnb66:=NB436_435.out;have hnc66:=NB435_436.out;obtain ⟨hcz67_0,hcz67_1,hcz67_2,hfz67_0,hfz67_1,hfz67_2⟩:=bt3 BK436;go_wp2;refine bodyPost_ret (results_ct rfl _ _ gb436 127 #[.int .i64 3,.int .i64 x10_1,.int .i64 (wrap64 (x2_1 + t445))] (0,0) _ rfl (fp BK436 rfl) Try.underlying127 rfl (by kernel_rfl)) rfl ?_;exact ⟨_,by first | rfl | (simp [e0_,e1_] <;> rfl) | (simp only [← hji11];first | rfl | (simp [e0_,e1_] <;> rfl)) | (simp [*,e0_,e1_] <;> rfl),Kd.R_mv (Kd.R_mono (ok':=fun k_=>((P0_2_ k_∨w.heap.size ≤ k_))) (Kd.R_far (p:=⟨gb436,2,none⟩) (Kd.R_far (p:=⟨gb436,1,none⟩) (Kd.R_far (p:=⟨gb436,0,none⟩) (Kd.R_types HO_8.out BK436.out (by decide)) (fun _ hk=>hk.2) (.int .i64 3)) (fun _ hk=>hk.2) (.int .i64 x10_1)) (fun _ hk=>hk.2) (.int .i64 (wrap64 (x2_1 + t445)))) (fun _ hk=>hk.1)),(by first | exact (Kd.R_mv (Kd.R_mono (ok':=fun k_=>((P0_2_ k_∨w.heap.size ≤ k_))) (Kd.R_far (p:=⟨gb436,2,none⟩) (Kd.R_far (p:=⟨gb436,1,none⟩) (Kd.R_far (p:=⟨gb436,0,none⟩) (Kd.R_types HO_436002.out BK436.out (by decide)) (fun _ hk=>hk.2) (.int .i64 3)) (fun _ hk=>hk.2) (.int .i64 x10_1)) (fun _ hk=>hk.2) (.int .i64 (wrap64 (x2_1 + t445)))) (fun _ hk=>hk.1.1))) | (simp only [hl436002_1,hl436002_15];exact (Kd.R_mv (Kd.R_mono (ok':=fun k_=>((P0_2_ k_∨w.heap.size ≤ k_))) (Kd.R_far (p:=⟨gb436,2,none⟩) (Kd.R_far (p:=⟨gb436,1,none⟩) (Kd.R_far (p:=⟨gb436,0,none⟩) (Kd.R_types HO_436002.out BK436.out (by decide)) (fun _ hk=>hk.2) (.int .i64 3)) (fun _ hk=>hk.2) (.int .i64 x10_1)) (fun _ hk=>hk.2) (.int .i64 (wrap64 (x2_1 + t445)))) (fun _ hk=>hk.1.1))))),bm HB,km HK⟩
        ·rw [if_neg c62] at H;have c62b0:decide ((wrap64 (x2_1 + t445)) < 0) = false:=decide_eq_false c62;clear c62;by_cases c68:(wrap64 (x2_1 + t445)) ≥ a0_1
         ·rw [if_pos c68] at H;have c68b0:decide (a0_1 ≤ (wrap64 (x2_1 + t445))) = true:=decide_eq_true c68;clear c68;simp only [Option.some.injEq,Prod.mk.injEq] at H;obtain ⟨rfl,rfl,rfl,rfl,rfl⟩:=H;have hnb69:=NB444_435.out;have hnc69:=NB435_444.out;have hnb70:=NB444_436.out;have hnc70:=NB436_444.out;obtain ⟨hcz71_0,hcz71_1,hfz71_0,hfz71_1⟩:=bt2 BK444;have hnb72:=NB435_436.out;have hnc72:=NB436_435.out;obtain ⟨hcz73_0,hcz73_1,hcz73_2,hfz73_0,hfz73_1,hfz73_2⟩:=bt3 BK435;obtain ⟨hcz74_0,hcz74_1,hcz74_2,hfz74_0,hfz74_1,hfz74_2⟩:=bt3 BK436;go_wp2;refine bodyPost_ret (results_ct rfl _ _ gb436 127 #[.int .i64 3,.int .i64 x10_1,.int .i64 (wrap64 (x2_1 + t445))] (0,0) _ rfl (fp BK436 rfl) Try.underlying127 rfl (by kernel_rfl)) rfl ?_;exact ⟨_,by first | rfl | (simp [e0_,e1_] <;> rfl) | (simp only [← hji11];first | rfl | (simp [e0_,e1_] <;> rfl)) | (simp [*,e0_,e1_] <;> rfl),Kd.R_mv (Kd.R_mono (ok':=fun k_=>((P0_2_ k_∨w.heap.size ≤ k_))) (Kd.R_far (p:=⟨gb436,2,none⟩) (Kd.R_far (p:=⟨gb436,1,none⟩) (Kd.R_far (p:=⟨gb436,0,none⟩) (Kd.R_types HO_8.out BK436.out (by decide)) (fun _ hk=>hk.2) (.int .i64 3)) (fun _ hk=>hk.2) (.int .i64 x10_1)) (fun _ hk=>hk.2) (.int .i64 (wrap64 (x2_1 + t445)))) (fun _ hk=>hk.1)),(by first | exact (Kd.R_mv (Kd.R_mono (ok':=fun k_=>((P0_2_ k_∨w.heap.size ≤ k_))) (Kd.R_far (p:=⟨gb436,2,none⟩) (Kd.R_far (p:=⟨gb436,1,none⟩) (Kd.R_far (p:=⟨gb436,0,none⟩) (Kd.R_types HO_436002.out BK436.out (by decide)) (fun _ hk=>hk.2) (.int .i64 3)) (fun _ hk=>hk.2) (.int .i64 x10_1)) (fun _ hk=>hk.2) (.int .i64 (wrap64 (x2_1 + t445)))) (fun _ hk=>hk.1.1))) | (simp only [hl436002_1,hl436002_15];exact (Kd.R_mv (Kd.R_mono (ok':=fun k_=>((P0_2_ k_∨w.heap.size ≤ k_))) (Kd.R_far (p:=⟨gb436,2,none⟩) (Kd.R_far (p:=⟨gb436,1,none⟩) (Kd.R_far (p:=⟨gb436,0,none⟩) (Kd.R_types HO_436002.out BK436.out (by decide)) (fun _ hk=>hk.2) (.int .i64 3)) (fun _ hk=>hk.2) (.int .i64 x10_1)) (fun _ hk=>hk.2) (.int .i64 (wrap64 (x2_1 + t445)))) (fun _ hk=>hk.1.1))))),bm HB,km HK⟩
         ·rw [if_neg c68] at H;have c68b0:decide (a0_1 ≤ (wrap64 (x2_1 + t445))) = false:=decide_eq_false c68;clear c68;have H':=Aside0.mk H;clear H;have hnb75:=NB444_435.out;have hnc75:=NB435_444.out;have hnb76:=NB444_436.out;have hnc76:=NB436_444.out;obtain ⟨hcz77_0,hcz77_1,hfz77_0,hfz77_1⟩:=bt2 BK444;have hnb78:=NB435_436.out;have hnc78:=NB436_435.out;obtain ⟨hcz79_0,hcz79_1,hcz79_2,hfz79_0,hfz79_1,hfz79_2⟩:=bt3 BK435;go_wp2;(try simp only [← hl436002_1,← hl436002_15])
          go_roundg kj15
          case measure=>have:=HK1.out;have:=HJ15.out;omega
          case rel=>exact ⟨(wrap64 (x2_1 + t445)),(y440),(wrap64 (-t445)),(wrap64 (x10_1 + 1)),(x436002_15),(x437000_1),(x437001_1),(x437002_1),(by first | rfl | (simp;done) | (simp [*];done)),(by first | rfl | (simp;done) | (simp [*];done)),(by first | rfl | (simp;done) | (simp [*];done)),H',⟨by have:=HK1.out;have:=HJ15.out;omega⟩,⟨by (try simp only [hl436002_1]);(try simp only [hl436002_15]);exact Kd.R_mv HO_8.out⟩,⟨by (try simp only [hl436002_1]);(try simp only [hl436002_15]);exact Kd.R_mv (Kd.R_mono (ok':=fun k_=>((P0_2_ k_∨w.heap.size ≤ k_))) HO_436002.out (fun _ hk=>hk.1))⟩,⟨by (try simp only [hl436002_1]);(try simp only [hl436002_15]);exact km_ BK435⟩,⟨by (try simp only [hl436002_1]);(try simp only [hl436002_15]);exact km_ BK436⟩,⟨km HK⟩,⟨bm HB⟩⟩
    ·replace c15:=Bool.eq_false_iff.mpr c15;subst c15;have H1:(some (2,x10_1,x2_1,y440,x436002_1)) = some (r1,r2,r3,r4,r5):=by rw [if_neg (show ¬ (false = true) by decide)] at H;exact H
     clear H;have H:=H1;clear H1;simp only [Option.some.injEq,Prod.mk.injEq] at H;obtain ⟨rfl,rfl,rfl,rfl,rfl⟩:=H;have hnb80:=NB435_436.out;have hnc80:=NB436_435.out;obtain ⟨hcz81_0,hcz81_1,hcz81_2,hfz81_0,hfz81_1,hfz81_2⟩:=bt3 BK435;go_wp2_with (first | ((with_reducible refine gate_builtin (b:=.append) (xs:=#[.tmp 28,.tmp 30]) rfl ?_);at_builtin;refine Kd.R_append (Kd.int .i64) (w0:=w0) w0.heap.size rfl (.tmp 28) (.tmp 30) 23 3 (.int .i64 0) 8 rfl Try.underlying23 info3 rfl (by decide) (by omega) u8 x8_1 ji11 [.int .i64 ji11] (fun k_=>(P0_2_ k_∨w.heap.size ≤ k_)) (fun _=>False) rfl rfl ?aP (fun _ hk=>hk.elim) ?aF ?aO ?aB ?aS ?aL ?_;(case aP=>exact rfl);(case aB=>exact (bm HB));(case aF=>exact (fun k_ hk=>(.inr (Nat.le_trans (by first | exact HK.out.1 | exact (show Kept w _ (fun k_=>P0_2_ k_) from km HK).1) hk))));(case aO=>exact (Kd.R_mv HO_8.out));(case aS=>exact (below_size (bm HB)));(case aL=>have:=LMc10.out;omega);intro v441 w82 ho hb hg hat;rw [← Ny440.out] at ho;refine ev6 (Kd.R_over' (Kd.R_mv HO_436002.out) (Kd.R_typed (Kd.R_mv HO_8.out)) (by decide) hg) (blk_grown (km_ BK435) hg (Kd.R_ne HO_8.out BK435.out (by decide))) (blk_grown (km_ BK436) hg (Kd.R_ne HO_8.out BK436.out (by decide))) (hb) (Kept.of_grown (S:=(fun k_=>P0_2_ k_)) hg (km HK) (fun k_ e_=>(HO_8.out.1 k_ e_))) (ho) ?_;clear HO_436002 BK435 BK436 HB HK HO_8;intro HO_436002 BK435 BK436 HB HK HO442;clear ho hb hg hat;obtain ⟨hcz83_0,hcz83_1,hcz83_2,hfz83_0,hfz83_1,hfz83_2⟩:=bt3 BK435;have p443:0 ≤ ((ji11):Int):=of_decide_eq_true (by first | (with_reducible assumption) | assumption);have q443:(ji11) < (x436002_1.length:Int):=of_decide_eq_true (by first | (with_reducible assumption) | assumption);obtain ⟨ad443,e443,hx443_0,hx443_1⟩:=at_T88 (Kd.R_reads' HO_436002.out).2.2 (ji11) p443 q443;cases e443;replace p443:=eq_true p443;replace q443:=eq_true q443) | ((with_reducible refine gate_dst (N:=12) rfl ?_);refine box_event ?hg (N:=12) ?hd (cs:=#[.int .i64 0,.int .i64 0]) (t:=88) ?hr ?_;(case hd=>rfl);(case hg=>rfl);(case hr=>first | (go_simp;done) | (go_simp;rfl));intro gb444 hg w84 hbox hb;refine ev12 (Kd.R_below (Kd.R_elderB (Kd.R_mv HO_436002.out) gb444 (Nat.le_of_eq hg.symm)) hb) (Kd.R_below (Kd.R_mv HO442.out) hb) (kb BK435 hb) (kb BK436 hb) (Kept.below (S:=(fun k_=>P0_2_ k_)) (km HK) hb) (bs HB hb) (hbox) ((by rw [hg];exact (by first | exact HK.out.1 | exact (show Kept w _ (fun k_=>P0_2_ k_) from km HK).1):w.heap.size ≤ gb444)) (gle hg HB) (gnf hg BK435) (gne hg BK435) (gnf hg BK436) ?_;intro n0_ n1_ n2_ n3_ n4_ n5_ n6_ n7_ n8_ n9_ n10_ n11_;refine ev1 (gne hg BK436) ?_;intro n12_;clear HO_436002 HO442 BK435 BK436 HK HB;revert n0_ n1_ n2_ n3_ n4_ n5_ n6_ n7_ n8_ n9_ n10_ n11_ n12_;intro HO_436002 HO442 BK435 BK436 HK HB BK444 GW444 GE444 NB435_444 NB444_435 NB436_444 NB444_436;clear hb hbox hg;have hnb85:=NB444_435.out;have hnc85:=NB435_444.out;have hnb86:=NB444_436.out;have hnc86:=NB436_444.out;obtain ⟨hcz87_0,hcz87_1,hfz87_0,hfz87_1⟩:=bt2 BK444) | ((with_reducible refine gate_callee (f:=139) rfl ?_);refine goesL_ (some 40) rfl rfl Try.func139 (by kernel_rfl) rfl #[.agg #[.int .i64 ((rd_T88 x436002_1 (ji11)).f0),.int .i64 ((rd_T88 x436002_1 (ji11)).f1)],.int .i64 x9_1] rfl (by (try simp only [ma_,mb_,mc_]);first | done | (simp only [hji11];rfl) | rfl | (simp only [List.length_drop,List.length_take];rfl)) ?_;(with_reducible refine (impl_GoesTo.calls k1 ((rd_T88 x436002_1 (ji11)).f0) ((rd_T88 x436002_1 (ji11)).f1) x9_1 t445 false _ A14.out).mono ?_);rintro e w88 ⟨rfl,hb⟩;refine ⟨_,rfl,?_⟩;refine ev7 (Kd.R_below (Kd.R_mv (Kd.R_mono (Kd.R_far (p:=⟨gb444,1,none⟩) (Kd.R_far (p:=⟨gb444,0,none⟩) (Kd.R_mono HO_436002.out (fun k_ hk=>(⟨hk,hk.2⟩:_∧k_ ≠ gb444))) (fun _ hk=>hk.2) (.int .i64 ((rd_T88 x436002_1 (ji11)).f0))) (fun _ hk=>hk.2) (.int .i64 ((rd_T88 x436002_1 (ji11)).f1))) (fun _ h_=>h_.1))) hb) (Kd.R_below (Kd.R_ft HO442.out BK444.out (by decide)) hb) (blk_below (g:=gb435) (o:=.cells #[.int .i64 a0_0,.int .i64 a0_1,.slice (some ad443) x436002_1.length co4] 50 (0,0)) (fp BK435 rfl) hb) (blk_below (g:=gb436) (o:=.cells #[.int .i64 x437000_1,.int .i64 x437001_1,.int .i64 x437002_1] 127 (0,0)) (fp BK436 rfl) hb) (blk_below (g:=gb444) (o:=.cells #[.int .i64 ((rd_T88 x436002_1 (ji11)).f0),.int .i64 ((rd_T88 x436002_1 (ji11)).f1)] 88 (0,0)) (fp BK444 rfl) hb) (Kept.below (S:=(fun k_=>P0_2_ k_)) (km HK) hb) (bs HB hb) ?_;clear HO_436002 HO442 BK435 BK436 BK444 HK HB;intro HO_436002 HO442 BK435 BK436 BK444 HK HB;(try clear hb);obtain ⟨hcz89_0,hcz89_1,hcz89_2,hfz89_0,hfz89_1,hfz89_2⟩:=bt3 BK436))
     refine bodyPost_ret (results_ct rfl _ _ gb436 127 #[.int .i64 2,.int .i64 x10_1,.int .i64 x2_1] (0,0) _ rfl (fp BK436 rfl) Try.underlying127 rfl (by kernel_rfl)) rfl ?_;exact ⟨_,by first | rfl | (simp [e0_,e1_] <;> rfl) | (simp only [← hji11];first | rfl | (simp [e0_,e1_] <;> rfl)) | (simp [*,e0_,e1_] <;> rfl),Kd.R_mv (Kd.R_mono (ok':=fun k_=>((P0_2_ k_∨w.heap.size ≤ k_))) (Kd.R_far (p:=⟨gb436,2,none⟩) (Kd.R_far (p:=⟨gb436,1,none⟩) (Kd.R_far (p:=⟨gb436,0,none⟩) (Kd.R_types HO442.out BK436.out (by decide)) (fun _ hk=>hk.2) (.int .i64 2)) (fun _ hk=>hk.2) (.int .i64 x10_1)) (fun _ hk=>hk.2) (.int .i64 x2_1)) (fun _ hk=>hk.1)),(by first | exact (Kd.R_mv (Kd.R_mono (ok':=fun k_=>((P0_2_ k_∨w.heap.size ≤ k_))) (Kd.R_far (p:=⟨gb436,2,none⟩) (Kd.R_far (p:=⟨gb436,1,none⟩) (Kd.R_far (p:=⟨gb436,0,none⟩) (Kd.R_types HO_436002.out BK436.out (by decide)) (fun _ hk=>hk.2) (.int .i64 2)) (fun _ hk=>hk.2) (.int .i64 x10_1)) (fun _ hk=>hk.2) (.int .i64 x2_1)) (fun _ hk=>hk.1.1))) | (simp only [hl436002_1];exact (Kd.R_mv (Kd.R_mono (ok':=fun k_=>((P0_2_ k_∨w.heap.size ≤ k_))) (Kd.R_far (p:=⟨gb436,2,none⟩) (Kd.R_far (p:=⟨gb436,1,none⟩) (Kd.R_far (p:=⟨gb436,0,none⟩) (Kd.R_types HO_436002.out BK436.out (by decide)) (fun _ hk=>hk.2) (.int .i64 2)) (fun _ hk=>hk.2) (.int .i64 x10_1)) (fun _ hk=>hk.2) (.int .i64 x2_1)) (fun _ hk=>hk.1.1))))),bm HB,km HK⟩
   ·rw [if_neg c9] at H;have c9b0:decide (x10_1 < a0_0) = false:=decide_eq_false c9;clear c9;simp only [Option.some.injEq,Prod.mk.injEq] at H;obtain ⟨rfl,rfl,rfl,rfl,rfl⟩:=H;have hnb90:=NB435_436.out;have hnc90:=NB436_435.out;obtain ⟨hcz91_0,hcz91_1,hcz91_2,hfz91_0,hfz91_1,hfz91_2⟩:=bt3 BK435;obtain ⟨hcz92_0,hcz92_1,hcz92_2,hfz92_0,hfz92_1,hfz92_2⟩:=bt3 BK436;go_wp2;refine bodyPost_ret (results_ct rfl _ _ gb436 127 #[.int .i64 1,.int .i64 a0_0,.int .i64 x2_1] (0,0) _ rfl (fp BK436 rfl) Try.underlying127 rfl (by kernel_rfl)) rfl ?_;exact ⟨_,by first | rfl | (simp [e0_,e1_] <;> rfl) | (simp [*,e0_,e1_] <;> rfl),Kd.R_mv (Kd.R_mono (ok':=fun k_=>((P0_2_ k_∨w.heap.size ≤ k_))) (Kd.R_far (p:=⟨gb436,2,none⟩) (Kd.R_far (p:=⟨gb436,1,none⟩) (Kd.R_far (p:=⟨gb436,0,none⟩) (Kd.R_types HO_8.out BK436.out (by decide)) (fun _ hk=>hk.2) (.int .i64 1)) (fun _ hk=>hk.2) (.int .i64 a0_0)) (fun _ hk=>hk.2) (.int .i64 x2_1)) (fun _ hk=>hk.1)),(by first | exact (Kd.R_mv (Kd.R_mono (ok':=fun k_=>((P0_2_ k_∨w.heap.size ≤ k_))) (Kd.R_far (p:=⟨gb436,2,none⟩) (Kd.R_far (p:=⟨gb436,1,none⟩) (Kd.R_far (p:=⟨gb436,0,none⟩) (Kd.R_types HO_436002.out BK436.out (by decide)) (fun _ hk=>hk.2) (.int .i64 1)) (fun _ hk=>hk.2) (.int .i64 a0_0)) (fun _ hk=>hk.2) (.int .i64 x2_1)) (fun _ hk=>hk.1))) | (simp only [hl436002_1];exact (Kd.R_mv (Kd.R_mono (ok':=fun k_=>((P0_2_ k_∨w.heap.size ≤ k_))) (Kd.R_far (p:=⟨gb436,2,none⟩) (Kd.R_far (p:=⟨gb436,1,none⟩) (Kd.R_far (p:=⟨gb436,0,none⟩) (Kd.R_types HO_436002.out BK436.out (by decide)) (fun _ hk=>hk.2) (.int .i64 1)) (fun _ hk=>hk.2) (.int .i64 a0_0)) (fun _ hk=>hk.2) (.int .i64 x2_1)) (fun _ hk=>hk.1))))),bm HB,km HK⟩

/-! ### impl_hasEnds: function 108 -/
def impl_hasEnds.l0:Nat→List Int→List Int→Int→Int→Int→Int→List (S88)→List Int→List Int→Int→Int→List (S88)→Int→Int→List (S88)→Option (Bool)
  | 0,_,_,_,_,_,_,_,_,_,_,_,_,_,_,_=>none
  | k + 1,x6,x16,x17,x18,x450000,x450001,x450002,x450003,x450004,x451000,x451001,x451002,x457000,x457001,x457002=>if x18 < x17 then (if 0 ≤ x18 then (if x18 < (x16.length:Int) then ((impl_drop.f k x457000 x457001 x457002 x6 (rd x16 x18)).bind fun bt461=>((impl_endNumber.f x451000 x451001 x451002 bt461.1 bt461.2.1 bt461.2.2.1).bind fun t469=>(if x18 < (x450004.length:Int) then (if t469 = (rd x450004 x18) then (impl_hasEnds.l0 k x6 x16 x17 (wrap64 (x18 + 1)) x450000 x450001 x450002 x450003 x450004 x451000 x451001 x451002 x457000 x457001 bt461.2.2.2.2) else (some false)) else (none)))) else (none)) else (none)) else (some true)
def impl_hasEnds.f (k:Nat) (a0_0:Int) (a0_1:Int) (l0_2:List (S88)) (l0_3:List Int) (l0_4:List Int) (a1_0:Int) (a1_1:Int) (l1_2:List (S88)):Option (Bool):=(impl_copyBoard.f a1_0 a1_1 l1_2).bind fun bt451=>((impl_groupNumbers.f k a1_0 a1_1 l1_2).bind fun t457=>(impl_hasEnds.l0 k t457 l0_3 (l0_3.length:Int) 0 a0_0 a0_1 l0_2 l0_3 l0_4 a1_0 a1_1 l1_2 bt451.1 bt451.2.1 bt451.2.2))
theorem impl_hasEnds.calls (k:Nat) (a0_0:Int) (a0_1:Int) (A0_2:Option Addr) (c0_2:Nat) (l0_2:List (S88)) (A0_3:Option Addr) (c0_3:Nat) (l0_3:List Int) (A0_4:Option Addr) (c0_4:Nat) (l0_4:List Int) (a1_0:Int) (a1_1:Int) (A1_2:Option Addr) (c1_2:Nat) (l1_2:List (S88)) (r:Bool) (w:World) (hr0_2:Kd.C k88 w A0_2 l0_2.length l0_2) (hc0_2:l0_2.length ≤ c0_2) (hr0_3:Kd.C (Kd.int .i64) w A0_3 l0_3.length l0_3) (hc0_3:l0_3.length ≤ c0_3) (hr0_4:Kd.C (Kd.int .i64) w A0_4 l0_4.length l0_4) (hc0_4:l0_4.length ≤ c0_4) (hr1_2:Kd.C k88 w A1_2 l1_2.length l1_2) (hc1_2:l1_2.length ≤ c1_2) (h:impl_hasEnds.f k a0_0 a0_1 l0_2 l0_3 l0_4 a1_0 a1_1 l1_2 = some r) :
    Calls Try.prog 108 #[.agg #[.int .i64 a0_0,.int .i64 a0_1,.slice A0_2 l0_2.length c0_2,.slice A0_3 l0_3.length c0_3,.slice A0_4 l0_4.length c0_4],.agg #[.int .i64 a1_0,.int .i64 a1_1,.slice A1_2 l1_2.length c1_2]] w fun e w'=>e = .returned (.bool r)∧Below w.heap.size w w':=by
 have S:=St.init (w:=w) (dc k88_heap at88 hr0_2 hc0_2 (dc (Kd.heap_int .i64) (atI .i64) hr0_3 hc0_3 (dc (Kd.heap_int .i64) (atI .i64) hr0_4 hc0_4 (dc k88_heap at88 hr1_2 hc1_2 dn))))
 clear hr0_2 hc0_2 hr0_3 hc0_3 hr0_4 hc0_4 hr1_2 hc1_2
 have F:=S.fc
 have H:=h;clear h;unfold impl_hasEnds.f at H
 replace H:=Option.bind_eq_some_iff.mp H;obtain ⟨⟨t451,t452,t453⟩,A3,H⟩:=H;(try dsimp only at H)
 replace H:=Option.bind_eq_some_iff.mp H;obtain ⟨t457,A4,H⟩:=H;(try dsimp only at H)
 go_enter Try.func108,Try.ntmps108
 go_wp2_with (first | ((with_reducible refine gd 2 rfl (L ?_));refine bo 2 (.agg #[_,_,_,_,_]) S ?_;clear S F;intro gb449 W S;have F:=S.fc) | ((with_reducible refine gd 3 rfl (L ?_));refine bo 3 (.agg #[_,_,_]) S ?_;clear S F;intro gb450 W S;have F:=S.fc) | ((with_reducible refine gate_callee (f:=117) rfl (L ?_));refine cl (some 12) Try.func117 (impl_copyBoard.calls _ _ _ _ _ _ _ _ _ S.c S.n A3) (hargs:=by (simp only [ma_,mb_,mc_,F] <;> rfl)) (h:=?_);rintro e W ⟨v454,rfl,ho0,hb⟩;refine ⟨_,rfl,?_⟩;replace S:=S.got at88 hb ho0;obtain ⟨At453,ct453,rfl,S⟩:=S;clear F hb ho0;have F:=S.fc) | ((with_reducible refine gd 5 rfl (L ?_));refine al 5 S zi50 ?_;clear S F;intro gb456 W S;have F:=S.fc) | ((with_reducible refine gate_callee (f:=128) rfl (L ?_));refine cl (some 14) Try.func128 (impl_groupNumbers.calls _ _ _ _ _ _ _ _ S.c S.n A4) (hargs:=by (simp only [ma_,mb_,mc_,F] <;> rfl)) (h:=?_);rintro e W ⟨v458,rfl,ho0,hb⟩;refine ⟨_,rfl,?_⟩;replace S:=S.got (atI .i64) hb ho0;obtain ⟨At457,ct457,rfl,S⟩:=S;clear F hb ho0;have F:=S.fc) | ((with_reducible refine gs (t:=50) rfl (L ?_));(first | refine sb (.agg #[_,_,_]) S sz50 ?_ | refine ro (.agg #[_,_,_]) S sz50 ?_ (ho:=rfl) (hx:=rfl) (hy:=rfl));(clear S F;intro W S;have F:=S.fc)) | ((with_reducible refine gs (t:=127) rfl (L ?_));(first | refine sb (.agg #[_,_,_]) S sz127 ?_ | refine ro (.agg #[_,_,_]) S sz127 ?_ (ho:=rfl) (hx:=rfl) (hy:=rfl));(clear S F;intro W S;have F:=S.fc)))
 go_loopg [18] k (fun kq v18 w'=>∃ (x18_1:Int) (x457002_1:List (S88)) (Ax457002_1:Option Addr) (cx457002_1:Nat),v18 = .int .i64 x18_1∧impl_hasEnds.l0 kq t457 l0_3 (l0_3.length:Int) x18_1 a0_0 a0_1 l0_2 l0_3 l0_4 a1_0 a1_1 l1_2 t451 t452 x457002_1 = some r∧kq ≤ k∧St w w (fun _=>False) [bor at88 A0_2 c0_2 l0_2,bor (atI .i64) A0_3 c0_3 l0_3,bor (atI .i64) A0_4 c0_4 l0_4,bor at88 A1_2 c1_2 l1_2] w'  [row (atI .i64) 3 At457 t457.length ct457 t457,box gb456 50 [.int .i64 t451,.int .i64 t452,.slice Ax457002_1 x457002_1.length cx457002_1],row at88 88 Ax457002_1 x457002_1.length cx457002_1 x457002_1,box gb450 50 [.int .i64 a1_0,.int .i64 a1_1,.slice A1_2 l1_2.length c1_2],box gb449 31 [.int .i64 a0_0,.int .i64 a0_1,.slice A0_2 l0_2.length c0_2,.slice A0_3 l0_3.length c0_3,.slice A0_4 l0_4.length c0_4]])
 case atStart=>exact ⟨0,t453,_,_,(by first | rfl | (simp;done) | (simp [*];done) | (rw [w6_ (by omega) (by omega)])),H,Nat.le_refl _,S⟩
 case round =>
  clear H S F
  obtain ⟨x18_1,x457002_1,Ax457002_1,cx457002_1,rfl,HA,HK1,S⟩:=hrel
  have F:=S.fc
  cases gk with
  | zero=>exact absurd HA (by simp [impl_hasEnds.l0])
  | succ k1 =>
   have H:=HA;clear HA;simp only [impl_hasEnds.l0,F] at H
   replace H:=sp_ H;rcases H with ⟨c18,H⟩ | ⟨c18,H⟩
   · skip
     replace H:=np_ H;obtain ⟨c19,H⟩:=H
     replace H:=np_ H;obtain ⟨c20,H⟩:=H
     replace H:=Option.bind_eq_some_iff.mp H;obtain ⟨⟨t461,t462,t463,t464,t467⟩,A21,H⟩:=H;(try dsimp only at H)
     replace H:=Option.bind_eq_some_iff.mp H;obtain ⟨t469,A22,H⟩:=H;(try dsimp only at H)
     replace H:=np_ H;obtain ⟨c23,H⟩:=H
     replace H:=sp_ H;rcases H with ⟨c24,H⟩ | ⟨c24,H⟩
     · skip
       replace c24:=ceq c24
       go_wp2_with (first | ((with_reducible refine gate_callee (f:=129) rfl (L ?_));obtain ⟨ok_,k_⟩:=S.lend (A:=Ax457002_1);refine cl (some 27) Try.func129 (impl_drop.calls _ _ _ ok_ _ _ _ _ _ _ _ _ _ _ _ _ _ k_.below k_.own k_.c k_.n A21) (hargs:=by (simp only [ma_,mb_,mc_,F] <;> rfl)) (h:=?_);rintro e W ⟨v465,rfl,ho,hy,hb,hk⟩;refine ⟨_,rfl,?_⟩;clear S F;obtain ⟨At464,ct464,rfl,S⟩:=k_.back1 (atI .i64) ho hy hb hk (by decide);clear k_ ho hy hb hk;have F:=S.fc) | ((with_reducible refine gd 9 rfl (L ?_));refine al 9 S zi127 ?_;clear S F;intro gb468 W S;have F:=S.fc) | ((with_reducible refine gs (t:=50) rfl (L ?_));(first | refine sb (.agg #[_,_,_]) S sz50 ?_ | refine ro (.agg #[_,_,_]) S sz50 ?_ (ho:=rfl) (hx:=rfl) (hy:=rfl));(clear S F;intro W S;have F:=S.fc)) | ((with_reducible refine gs (t:=127) rfl (L ?_));(first | refine sb (.agg #[_,_,_]) S sz127 ?_ | refine ro (.agg #[_,_,_]) S sz127 ?_ (ho:=rfl) (hx:=rfl) (hy:=rfl));(clear S F;intro W S;have F:=S.fc)))
       refine rq S [(0,3),(0,5),(1,0),(1,1),(1,4),(0,6),(1,7),(2,2),(0,8)] [] (h:=?_);clear S F;intro W S;have S0:=S;have F:=S.fc
       repeat (first | (refine q0 (h:=?_)) | (refine q1 S0 (h:=?_)) | (refine q0n (h:=?_)) | (refine q1n S0 (h:=?_)))
       refine lk2 (by rfl) (by exact (Eq.refl true)) ?_;refine cl (some 32) Try.func121 (impl_endNumber.calls _ _ _ _ _ _ _ _ _ _ S.c S.n A22) (hargs:=by (simp only [ma_,mb_,mc_,F] <;> rfl)) (h:=?_);rintro e W ⟨rfl,hb⟩;refine ⟨_,rfl,?_⟩;replace S:=S.go hb;clear F hb;have F:=S.fc
       clear S0;have S0:=S;refine ⟨S0,?_⟩
       repeat (first | (refine q0 (h:=?_)) | (refine q1 S0 (h:=?_)) | (refine q0n (h:=?_)) | (refine q1n S0 (h:=?_)))
       refine oz ?_
       try clear S0
       go_wp2_with (first | ((with_reducible refine gs (t:=50) rfl (L ?_));(first | refine sb (.agg #[_,_,_]) S sz50 ?_ | refine ro (.agg #[_,_,_]) S sz50 ?_ (ho:=rfl) (hx:=rfl) (hy:=rfl));(clear S F;intro W S;have F:=S.fc)) | ((with_reducible refine gs (t:=127) rfl (L ?_));(first | refine sb (.agg #[_,_,_]) S sz127 ?_ | refine ro (.agg #[_,_,_]) S sz127 ?_ (ho:=rfl) (hx:=rfl) (hy:=rfl));(clear S F;intro W S;have F:=S.fc)))
       go_roundg k1
       case measure=>omega
       case rel=>(try rw [← (show t467.length = x457002_1.length by simp only [F])] at S);exact ⟨(wrap64 (x18_1 + 1)),t467,_,_,(by first | rfl | (simp;done) | (simp [*];done) | (rw [w6_ (by omega) (by omega)])),H,(by first | omega | exact Nat.le_refl _),S.tl.tl⟩
     · skip
       replace c24:=cne c24
       obtain rfl:=Option.some.inj H
       go_wp2_with (first | ((with_reducible refine gate_callee (f:=129) rfl (L ?_));obtain ⟨ok_,k_⟩:=S.lend (A:=Ax457002_1);refine cl (some 27) Try.func129 (impl_drop.calls _ _ _ ok_ _ _ _ _ _ _ _ _ _ _ _ _ _ k_.below k_.own k_.c k_.n A21) (hargs:=by (simp only [ma_,mb_,mc_,F] <;> rfl)) (h:=?_);rintro e W ⟨v465,rfl,ho,hy,hb,hk⟩;refine ⟨_,rfl,?_⟩;clear S F;obtain ⟨At464,ct464,rfl,S⟩:=k_.back1 (atI .i64) ho hy hb hk (by decide);clear k_ ho hy hb hk;have F:=S.fc) | ((with_reducible refine gd 9 rfl (L ?_));refine al 9 S zi127 ?_;clear S F;intro gb468 W S;have F:=S.fc) | ((with_reducible refine gs (t:=50) rfl (L ?_));(first | refine sb (.agg #[_,_,_]) S sz50 ?_ | refine ro (.agg #[_,_,_]) S sz50 ?_ (ho:=rfl) (hx:=rfl) (hy:=rfl));(clear S F;intro W S;have F:=S.fc)) | ((with_reducible refine gs (t:=127) rfl (L ?_));(first | refine sb (.agg #[_,_,_]) S sz127 ?_ | refine ro (.agg #[_,_,_]) S sz127 ?_ (ho:=rfl) (hx:=rfl) (hy:=rfl));(clear S F;intro W S;have F:=S.fc)))
       refine rq S [(0,3),(0,5),(1,0),(1,1),(1,4),(0,6),(1,7),(2,2),(0,8)] [] (h:=?_);clear S F;intro W S;have S0:=S;have F:=S.fc
       repeat (first | (refine q0 (h:=?_)) | (refine q1 S0 (h:=?_)) | (refine q0n (h:=?_)) | (refine q1n S0 (h:=?_)))
       refine lk2 (by rfl) (by exact (Eq.refl true)) ?_;refine cl (some 32) Try.func121 (impl_endNumber.calls _ _ _ _ _ _ _ _ _ _ S.c S.n A22) (hargs:=by (simp only [ma_,mb_,mc_,F] <;> rfl)) (h:=?_);rintro e W ⟨rfl,hb⟩;refine ⟨_,rfl,?_⟩;replace S:=S.go hb;clear F hb;have F:=S.fc
       clear S0;have S0:=S;refine ⟨S0,?_⟩
       repeat (first | (refine q0 (h:=?_)) | (refine q1 S0 (h:=?_)) | (refine q0n (h:=?_)) | (refine q1n S0 (h:=?_)))
       refine oz ?_
       try clear S0
       go_wp2_with (first | ((with_reducible refine gs (t:=50) rfl (L ?_));(first | refine sb (.agg #[_,_,_]) S sz50 ?_ | refine ro (.agg #[_,_,_]) S sz50 ?_ (ho:=rfl) (hx:=rfl) (hy:=rfl));(clear S F;intro W S;have F:=S.fc)) | ((with_reducible refine gs (t:=127) rfl (L ?_));(first | refine sb (.agg #[_,_,_]) S sz127 ?_ | refine ro (.agg #[_,_,_]) S sz127 ?_ (ho:=rfl) (hx:=rfl) (hy:=rfl));(clear S F;intro W S;have F:=S.fc)))
       go_ret
       exact ⟨(by first | rfl | (simp [e0_,e1_] <;> rfl) | (simp [*,e0_,e1_] <;> rfl)),S.below⟩
   · skip
     obtain rfl:=Option.some.inj H
     go_wp2_with (first | ((with_reducible refine gs (t:=50) rfl (L ?_));(first | refine sb (.agg #[_,_,_]) S sz50 ?_ | refine ro (.agg #[_,_,_]) S sz50 ?_ (ho:=rfl) (hx:=rfl) (hy:=rfl));(clear S F;intro W S;have F:=S.fc)) | ((with_reducible refine gs (t:=127) rfl (L ?_));(first | refine sb (.agg #[_,_,_]) S sz127 ?_ | refine ro (.agg #[_,_,_]) S sz127 ?_ (ho:=rfl) (hx:=rfl) (hy:=rfl));(clear S F;intro W S;have F:=S.fc)))
     go_ret
     exact ⟨(by first | rfl | (simp [e0_,e1_] <;> rfl) | (simp [*,e0_,e1_] <;> rfl)),S.below⟩

/-! ### impl_solutionsOf_1: function 105 -/
/-- What a range over solutionsOf does, told as a fold: step is the body. -/
def solFold {σ:Type} (step:Nat→σ→Int→Int→List S88→Option (σ × Bool)) (r c:Int) (p:List S88) (e ns:List Int):Nat→Int→σ→Option (σ × Bool)
 | 0,_,_=>none
 | k + 1,n,s=>(impl_boardsTried.f k r c p e ns).bind fun t=>if n < t then (impl_boardOf.f k r c p e ns n).bind fun b=>(impl_hasEnds.f k r c p e ns b.1 b.2.1 b.2.2).bind fun y=>if y = true then (step k s b.1 b.2.1 b.2.2).bind fun q=>if q.2 = true then solFold step r c p e ns k (wrap64 (n + 1)) q.1 else some (q.1,false) else solFold step r c p e ns k (wrap64 (n + 1)) s else some (s,true)
/-- A board that a call of yield is handed. -/
def BdArg (args:Array Value) (W:World) (base:Nat) (r c:Int) (xs:List S88):Prop:=∃ A cap,args = #[.agg #[.int .i64 r,.int .i64 c,.slice A xs.length cap]]∧Kd.R k88 88 W base (fun _=>True) (.slice A xs.length cap) xs
theorem sols_folds {σ:Type} (step:Nat→σ→Int→Int→List S88→Option (σ × Bool)) (m k:Nat) (gc:Nat) (r c:Int) (A2:Option Addr) (c2:Nat) (p:List S88) (A3:Option Addr) (c3:Nat) (es:List Int) (A4:Option Addr) (c4:Nat) (ns:List Int) (s0:σ) (q:σ × Bool) (O:Nat→Prop) (base:Nat) (W:World) (hbase:base ≤ W.heap.size)
  (hq:∀ W',Kept W W' O→bxr gc 31 [.int .i64 r,.int .i64 c,.slice A2 p.length c2,.slice A3 es.length c3,.slice A4 ns.length c4] W'∧Kd.C k88 W' A2 p.length p∧Kd.C (Kd.int .i64) W' A3 es.length es∧Kd.C (Kd.int .i64) W' A4 ns.length ns)
  (h2:p.length ≤ c2) (h3:es.length ≤ c3) (h4:ns.length ≤ c4) (h:solFold step r c p es ns k 0 s0 = some q) :
  Folds Fence.wide m Try.prog 105 #[.pointer (some ⟨gc,0,none⟩)] (fun s args W1 s' go=>∃ kk r c xs,step kk s r c xs = some (s',go)∧BdArg args W1 base r c xs) (fun W W'=>Kept W W' O) s0 (fun s' go=>q = (s',go)) W:=by
 intro l J Jx hJ hJx hY h0
 refine callsIn_of_wp Try.func105 rfl trivial ?_ rfl
 simp only [Try.ntmps105,List.size_toArray,List.length_cons,List.length_nil,Nat.reduceAdd,Nat.reduceSub,Array.replicate_succ,Array.replicate_zero,List.push_toArray,List.append_toArray,List.nil_append,List.cons_append]
 refine wpIn_wide.2 ?_
 go_wp2
 go_loopg [3] k (fun kq v3 w'=>∃ (i:Int) (s:σ),v3 = .int .i64 i∧solFold step r c p es ns kq i s = some q∧Kept W w' O∧J s w')
 case atStart=>exact ⟨0,s0,rfl,h,Kept.refl _ _,h0⟩
 case round =>
  clear h h0
  obtain ⟨i,s,rfl,H,HK,HJ⟩:=hrel
  obtain ⟨hb,hp,he,hn⟩:=hq _ HK
  have S:=St.init (w:=wr) (db hb (dc k88_heap at88 hp h2 (dc (Kd.heap_int .i64) (atI .i64) he h3 (dc (Kd.heap_int .i64) (atI .i64) hn h4 dn))))
  clear hb hp he hn
  have F:=S.fc
  cases gk with
  | zero=>exact absurd H (by simp [solFold])
  | succ k1 =>
   simp only [solFold] at H
   replace H:=Option.bind_eq_some_iff.mp H;obtain ⟨t,A3_,H⟩:=H;(try dsimp only at H)
   replace H:=sp_ H;rcases H with ⟨ct,H⟩ | ⟨ct,H⟩
   · skip
     replace H:=Option.bind_eq_some_iff.mp H;obtain ⟨⟨b1,b2,b3⟩,A5,H⟩:=H;(try dsimp only at H)
     replace H:=Option.bind_eq_some_iff.mp H;obtain ⟨y,A6,H⟩:=H;(try dsimp only at H)
     replace H:=sp_ H;rcases H with ⟨cy,H⟩ | ⟨cy,H⟩
     · subst cy
       replace H:=Option.bind_eq_some_iff.mp H;obtain ⟨⟨s2,go⟩,A7,H⟩:=H;(try dsimp only at H)
       go_upto_region 4 with (first | ((with_reducible refine gate_callee (f:=106) rfl (L ?_));refine cl (some 7) Try.func106 (impl_boardsTried.calls _ _ _ _ _ _ _ _ _ _ _ _ _ _ S.c S.n S.c S.n S.c S.n A3_) (hargs:=by (simp only [ma_,mb_,mc_,F] <;> rfl)) (h:=?_);rintro e W ⟨rfl,hb⟩;refine ⟨_,rfl,?_⟩;replace S:=S.go hb;clear F hb;have F:=S.fc) | ((with_reducible refine gate_callee (f:=107) rfl (L ?_));refine cl (some 13) Try.func107 (impl_boardOf.calls _ _ _ _ _ _ _ _ _ _ _ _ _ _ _ _ _ S.c S.n S.c S.n S.c S.n A5) (hargs:=by (simp only [ma_,mb_,mc_,F] <;> rfl)) (h:=?_);rintro e W ⟨v432,rfl,ho0,hb⟩;refine ⟨_,rfl,?_⟩;replace S:=S.got at88 hb ho0;obtain ⟨Ab,cb,rfl,S⟩:=S;clear F hb ho0;have F:=S.fc) | ((with_reducible refine gd 4 rfl (L ?_));refine al 4 S zi50 ?_;clear S F;intro gb W S;have F:=S.fc) | ((with_reducible refine gs (t:=50) rfl (L ?_));(first | refine sb (.agg #[_,_,_]) S sz50 ?_ | refine ro (.agg #[_,_,_]) S sz50 ?_ (ho:=rfl) (hx:=rfl) (hy:=rfl));(clear S F;intro W S;have F:=S.fc)))
       refine (wpIn_wide (n:=m)).1 ?_
       gi_wp2_with (refine ⟨trivial,fun h_=>(by cases h_),?_⟩;gi_at_call 108;refine (callsIn_wide.2 (impl_hasEnds.calls _ _ _ _ _ _ _ _ _ _ _ _ _ _ _ _ _ _ _ S.c S.n S.c S.n S.c S.n S.c S.n A6)).mono ?_;rintro e W2 ⟨rfl,hb⟩;replace S:=S.go hb;clear F hb;have F:=S.fc;obtain ⟨fn,tmps,assign,body,hy,hR⟩:=hY s _ W2 s2 go (hJ _ _ _ HJ S.below) ⟨k1,b1,b2,b3,A7,_,_,rfl,Kd.R_lower (Kd.R_mono (S.rk 1 rfl) (fun _ _=>trivial)) (Nat.le_trans hbase HK.1)⟩)
       refine ⟨fun h_=>(by cases h_),?_⟩
       refine hR.mono ?_
       rintro e W3 ⟨rfl,⟨rfl,HJ3,HK3⟩ | ⟨rfl,HX⟩⟩
       · gi_wp2
         go_wp2
         go_roundg k1
         case measure=>omega
         case rel=>exact ⟨_,s2,(by first | rfl | (simp;done) | (simp [*];done) | (rw [w6_ (by omega) (by omega)])),H,kept_trans (Kept.below HK S.below) HK3,HJ3⟩
       · obtain rfl:=Option.some.inj H
         gi_wp2
         go_wp2
         refine bodyPost_ret (results_none rfl _ _ _) rfl ?_
         exact ⟨⟨_,rfl⟩,by first | exact HX | exact Or.inr ⟨_,rfl,HX⟩⟩
     · replace cy:=cbf cy;subst cy
       go_upto_region 4 with (first | ((with_reducible refine gate_callee (f:=106) rfl (L ?_));refine cl (some 7) Try.func106 (impl_boardsTried.calls _ _ _ _ _ _ _ _ _ _ _ _ _ _ S.c S.n S.c S.n S.c S.n A3_) (hargs:=by (simp only [ma_,mb_,mc_,F] <;> rfl)) (h:=?_);rintro e W ⟨rfl,hb⟩;refine ⟨_,rfl,?_⟩;replace S:=S.go hb;clear F hb;have F:=S.fc) | ((with_reducible refine gate_callee (f:=107) rfl (L ?_));refine cl (some 13) Try.func107 (impl_boardOf.calls _ _ _ _ _ _ _ _ _ _ _ _ _ _ _ _ _ S.c S.n S.c S.n S.c S.n A5) (hargs:=by (simp only [ma_,mb_,mc_,F] <;> rfl)) (h:=?_);rintro e W ⟨v432,rfl,ho0,hb⟩;refine ⟨_,rfl,?_⟩;replace S:=S.got at88 hb ho0;obtain ⟨Ab,cb,rfl,S⟩:=S;clear F hb ho0;have F:=S.fc) | ((with_reducible refine gd 4 rfl (L ?_));refine al 4 S zi50 ?_;clear S F;intro gb W S;have F:=S.fc) | ((with_reducible refine gs (t:=50) rfl (L ?_));(first | refine sb (.agg #[_,_,_]) S sz50 ?_ | refine ro (.agg #[_,_,_]) S sz50 ?_ (ho:=rfl) (hx:=rfl) (hy:=rfl));(clear S F;intro W S;have F:=S.fc)))
       refine (wpIn_wide (n:=m)).1 ?_
       gi_wp2_with (refine ⟨trivial,fun h_=>(by cases h_),?_⟩;gi_at_call 108;refine (callsIn_wide.2 (impl_hasEnds.calls _ _ _ _ _ _ _ _ _ _ _ _ _ _ _ _ _ _ _ S.c S.n S.c S.n S.c S.n S.c S.n A6)).mono ?_;rintro e W2 ⟨rfl,hb⟩;replace S:=S.go hb;clear F hb;have F:=S.fc)
       refine ⟨fun _ h_=>(by cases h_),?_⟩
       gi_wp2
       go_wp2
       go_roundg k1
       case measure=>omega
       case rel=>exact ⟨_,s,(by first | rfl | (simp;done) | (simp [*];done) | (rw [w6_ (by omega) (by omega)])),H,Kept.below HK S.below,hJ _ _ _ HJ S.below⟩
   · skip
     obtain rfl:=Option.some.inj H
     go_wp2_with (first | ((with_reducible refine gate_callee (f:=106) rfl (L ?_));refine cl (some 7) Try.func106 (impl_boardsTried.calls _ _ _ _ _ _ _ _ _ _ _ _ _ _ S.c S.n S.c S.n S.c S.n A3_) (hargs:=by (simp only [ma_,mb_,mc_,F] <;> rfl)) (h:=?_);rintro e W ⟨rfl,hb⟩;refine ⟨_,rfl,?_⟩;replace S:=S.go hb;clear F hb;have F:=S.fc))
     go_end0
     exact ⟨⟨_,rfl⟩,by first | exact hJ _ _ _ HJ S.below | exact Or.inl ⟨_,rfl,hJ _ _ _ HJ S.below⟩⟩

/-! ### impl_solutionsOf: function 72 -/
theorem impl_solutionsOf.calls (a0_0:Int) (a0_1:Int) (A0_2:Option Addr) (c0_2:Nat) (l0_2:List (S88)) (A0_3:Option Addr) (c0_3:Nat) (l0_3:List Int) (A0_4:Option Addr) (c0_4:Nat) (l0_4:List Int) (w:World) :
  Calls Try.prog 72 #[.agg #[.int .i64 a0_0,.int .i64 a0_1,.slice A0_2 l0_2.length c0_2,.slice A0_3 l0_3.length c0_3,.slice A0_4 l0_4.length c0_4]] w fun e w'=>∃ g,e = .returned (.func (.func 105) #[] #[.pointer (some ⟨g,0,none⟩)])∧bxr g 31 [.int .i64 a0_0,.int .i64 a0_1,.slice A0_2 l0_2.length c0_2,.slice A0_3 l0_3.length c0_3,.slice A0_4 l0_4.length c0_4] w'∧w.heap.size ≤ g∧Below w.heap.size w w':=by
 have S:=St.init (w:=w) dn
 go_enter Try.func72,Try.ntmps72
 go_wp2_with ((with_reducible refine gd 1 rfl (L ?_));refine bo 1 (.agg #[_,_,_,_,_]) S ?_;clear S;intro g W S)
 go_ret
 exact ⟨g,rfl,(bx_of S).1,(bx_of S).2,S.below⟩

/-! ### laws_heldCellS: function 85 -/
def laws_heldCellS.l0:Nat→List (S88)→Int→Int→Option (Int)
 | 0,_,_,_=>none
 | k + 1,x0,x1,x5=>if x5 < (x0.length:Int) then (if 0 ≤ x5 then (if ((rd_T88 x0 x5).f0) = x1 then (if ((rd_T88 x0 x5).f1) = (wrap64 (x1 + 1)) then (laws_heldCellS.l0 k x0 (wrap64 ((wrap64 (x1 + 1)) + 1)) (wrap64 (x5 + 1))) else (some (-1))) else (some (-1))) else (none)) else (some x1)
def laws_heldCellS.f (k:Nat) (l0:List (S88)) (a1:Int):Option (Int):=laws_heldCellS.l0 k l0 a1 0
theorem laws_heldCellS.calls (k:Nat) (A0:Option Addr) (c0:Nat) (l0:List (S88)) (a1:Int) (r:Int) (w:World) (hr0:Kd.C k88 w A0 l0.length l0) (hc0:l0.length ≤ c0) (h:laws_heldCellS.f k l0 a1 = some r) :
  Calls Try.prog 85 #[.slice A0 l0.length c0,.int .i64 a1] w fun e w'=>e = .returned (.int .i64 r)∧Drawn0 w w':=by
 have HR0:=Aside0.mk hr0;have HC0:=Aside0.mk hc0;clear hr0 hc0;have H:(laws_heldCellS.l0 k l0 a1 0) = some r:=h;clear h;have H':=Aside0.mk H;clear H;go_enter Try.func85,Try.ntmps85;go_wp2;go_loopg [1,5] k (fun kq v1 v5 w'=>∃ (x1_1:Int) (x5_1:Int),v1 = .int .i64 x1_1∧v5 = .int .i64 x5_1∧Aside0 (laws_heldCellS.l0 kq l0 x1_1 x5_1 = some r)∧Aside0 (kq ≤ k)∧Drawn0 w w')
 case atStart=>exact ⟨(a1),(0),(by first | rfl | (simp;done) | (simp [*];done)),(by first | rfl | (simp;done) | (simp [*];done)),H',⟨Nat.le_refl _⟩,by repeat (first | exact Drawn0.refl _ | apply Drawn0.step)⟩
 case round =>
  clear H';(try clear p2);obtain ⟨x1_1,x5_1,rfl,rfl,HA,HK1,⟨m1,rfl⟩⟩:=hrel;cases gk with
  | zero=>exact absurd HA.out (by simp [laws_heldCellS.l0])
  | succ k1 =>
   have H:=HA.out;clear HA;simp only [laws_heldCellS.l0] at H;by_cases c3:x5_1 < (l0.length:Int)
   ·rw [if_pos c3] at H;have c3b0:decide (x5_1 < (l0.length:Int)) = true:=decide_eq_true c3;clear c3;replace H:=np_ H;obtain ⟨c4,H⟩:=H;have c4b0:decide (0 ≤ x5_1) = true:=decide_eq_true c4;clear c4;by_cases c5:((rd_T88 l0 x5_1).f0) = x1_1
    ·rw [if_pos c5] at H;have c5b0:(((rd_T88 l0 x5_1).f0) == x1_1) = true:=beq_iff_eq.mpr c5;have c5b1:(((rd_T88 l0 x5_1).f0) != x1_1) = false:=bne_eq_false_iff_eq.mpr c5;clear c5;by_cases c6:((rd_T88 l0 x5_1).f1) = (wrap64 (x1_1 + 1))
     ·rw [if_pos c6] at H;have c6b0:(((rd_T88 l0 x5_1).f1) == (wrap64 (x1_1 + 1))) = true:=beq_iff_eq.mpr c6;have c6b1:(((rd_T88 l0 x5_1).f1) != (wrap64 (x1_1 + 1))) = false:=bne_eq_false_iff_eq.mpr c6;clear c6;have H':=Aside0.mk H;clear H;have p569:0 ≤ (x5_1:Int):=of_decide_eq_true (by first | (with_reducible assumption) | assumption);have q569:x5_1 < (l0.length:Int):=of_decide_eq_true (by first | (with_reducible assumption) | assumption);obtain ⟨ad569,e569,hx569_0,hx569_1⟩:=at_T88 HR0.out x5_1 p569 q569;cases e569;replace p569:=eq_true p569;replace q569:=eq_true q569;have p570:0 ≤ (x5_1:Int):=of_decide_eq_true (by first | (with_reducible assumption) | assumption);have q570:x5_1 < (l0.length:Int):=of_decide_eq_true (by first | (with_reducible assumption) | assumption);obtain ⟨ad570,e570,hx570_0,hx570_1⟩:=at_T88 HR0.out x5_1 p570 q570;obtain rfl:ad569 = ad570:=(by injection e570)
      replace p570:=eq_true p570;replace q570:=eq_true q570;go_wp2;go_roundg k1
      case measure=>have:=HK1.out;omega
      case rel=>exact ⟨(wrap64 ((wrap64 (x1_1 + 1)) + 1)),(wrap64 (x5_1 + 1)),(by first | rfl | (simp;done) | (simp [*];done)),(by first | rfl | (simp;done) | (simp [*];done)),H',⟨by have:=HK1.out;omega⟩,by repeat (first | exact Drawn0.refl _ | apply Drawn0.step)⟩
     ·rw [if_neg c6] at H;have c6b0:(((rd_T88 l0 x5_1).f1) == (wrap64 (x1_1 + 1))) = false:=beq_eq_false_iff_ne.mpr c6;have c6b1:(((rd_T88 l0 x5_1).f1) != (wrap64 (x1_1 + 1))) = true:=bne_iff_ne.mpr c6;obtain rfl:=Option.some.inj H;have p569:0 ≤ (x5_1:Int):=of_decide_eq_true (by first | (with_reducible assumption) | assumption);have q569:x5_1 < (l0.length:Int):=of_decide_eq_true (by first | (with_reducible assumption) | assumption);obtain ⟨ad569,e569,hx569_0,hx569_1⟩:=at_T88 HR0.out x5_1 p569 q569;cases e569;replace p569:=eq_true p569;replace q569:=eq_true q569;have p570:0 ≤ (x5_1:Int):=of_decide_eq_true (by first | (with_reducible assumption) | assumption);have q570:x5_1 < (l0.length:Int):=of_decide_eq_true (by first | (with_reducible assumption) | assumption);obtain ⟨ad570,e570,hx570_0,hx570_1⟩:=at_T88 HR0.out x5_1 p570 q570;obtain rfl:ad569 = ad570:=(by injection e570)
      replace p570:=eq_true p570;replace q570:=eq_true q570;go_wp2;go_ret;exact ⟨by first | rfl | (simp;done) | (simp [*];done),by repeat (first | exact Drawn0.refl _ | apply Drawn0.step)⟩
    ·rw [if_neg c5] at H;have c5b0:(((rd_T88 l0 x5_1).f0) == x1_1) = false:=beq_eq_false_iff_ne.mpr c5;have c5b1:(((rd_T88 l0 x5_1).f0) != x1_1) = true:=bne_iff_ne.mpr c5;obtain rfl:=Option.some.inj H;have p569:0 ≤ (x5_1:Int):=of_decide_eq_true (by first | (with_reducible assumption) | assumption);have q569:x5_1 < (l0.length:Int):=of_decide_eq_true (by first | (with_reducible assumption) | assumption);obtain ⟨ad569,e569,hx569_0,hx569_1⟩:=at_T88 HR0.out x5_1 p569 q569;cases e569;replace p569:=eq_true p569;replace q569:=eq_true q569;go_wp2;go_ret;exact ⟨by first | rfl | (simp;done) | (simp [*];done),by repeat (first | exact Drawn0.refl _ | apply Drawn0.step)⟩
   ·rw [if_neg c3] at H;have c3b0:decide (x5_1 < (l0.length:Int)) = false:=decide_eq_false c3;clear c3;obtain rfl:=Option.some.inj H;go_wp2;go_ret;exact ⟨by first | rfl | (simp;done) | (simp [*];done),by repeat (first | exact Drawn0.refl _ | apply Drawn0.step)⟩

/-! ### laws_heldChallenge: function 55 -/
def laws_heldChallenge.f (k:Nat) (a0_0:Int) (a0_1:Int) (l0_2:List (S88)) (l0_3:List Int) (l0_4:List Int) (a1:Int):Option (Int):=(laws_heldCellS.f k l0_2 a1).bind fun t572=>(if t572 < 0 then (some (-1)) else ((laws_heldIntS.f k l0_3 t572).bind fun t573=>(if t573 < 0 then (some (-1)) else ((laws_heldIntS.f k l0_4 t573).bind fun t574=>(if t574 < 0 then (some (-1)) else (some t574))))))
theorem laws_heldChallenge.calls (k:Nat) (a0_0:Int) (a0_1:Int) (A0_2:Option Addr) (c0_2:Nat) (l0_2:List (S88)) (A0_3:Option Addr) (c0_3:Nat) (l0_3:List Int) (A0_4:Option Addr) (c0_4:Nat) (l0_4:List Int) (a1:Int) (r:Int) (w:World) (hr0_2:Kd.C k88 w A0_2 l0_2.length l0_2) (hc0_2:l0_2.length ≤ c0_2) (hr0_3:Kd.C (Kd.int .i64) w A0_3 l0_3.length l0_3) (hc0_3:l0_3.length ≤ c0_3) (hr0_4:Kd.C (Kd.int .i64) w A0_4 l0_4.length l0_4) (hc0_4:l0_4.length ≤ c0_4) (h:laws_heldChallenge.f k a0_0 a0_1 l0_2 l0_3 l0_4 a1 = some r) :
    Calls Try.prog 55 #[.agg #[.int .i64 a0_0,.int .i64 a0_1,.slice A0_2 l0_2.length c0_2,.slice A0_3 l0_3.length c0_3,.slice A0_4 l0_4.length c0_4],.int .i64 a1] w fun e w'=>e = .returned (.int .i64 r)∧Below w.heap.size w w':=by
 have S:=St.init (w:=w) (dc k88_heap at88 hr0_2 hc0_2 (dc (Kd.heap_int .i64) (atI .i64) hr0_3 hc0_3 (dc (Kd.heap_int .i64) (atI .i64) hr0_4 hc0_4 dn)))
 clear hr0_2 hc0_2 hr0_3 hc0_3 hr0_4 hc0_4
 have F:=S.fc
 have H:=h;clear h;unfold laws_heldChallenge.f at H
 replace H:=Option.bind_eq_some_iff.mp H;obtain ⟨t572,A3,H⟩:=H;(try dsimp only at H)
 replace H:=sp_ H;rcases H with ⟨c4,H⟩ | ⟨c4,H⟩
 · skip
   obtain rfl:=Option.some.inj H
   go_enter Try.func55,Try.ntmps55
   go_wp2_with (first | ((with_reducible refine gd 2 rfl (L ?_));refine bo 2 (.agg #[_,_,_,_,_]) S ?_;clear S F;intro gb571 W S;have F:=S.fc) | ((with_reducible refine gate_callee (f:=85) rfl (L ?_));refine cl (some 8) Try.func85 (laws_heldCellS.calls _ _ _ _ _ _ _ S.c S.n A3) (hargs:=by (simp only [ma_,mb_,mc_,F] <;> rfl)) (h:=?_);rintro e W ⟨rfl,hb⟩;refine ⟨_,rfl,?_⟩;replace S:=S.gw hb;clear F hb;have F:=S.fc))
   go_ret
   exact ⟨(by first | rfl | (simp [e0_,e1_] <;> rfl) | (simp [*,e0_,e1_] <;> rfl)),S.below⟩
 · skip
   replace H:=Option.bind_eq_some_iff.mp H;obtain ⟨t573,A7,H⟩:=H;(try dsimp only at H)
   replace H:=sp_ H;rcases H with ⟨c8,H⟩ | ⟨c8,H⟩
   · skip
     obtain rfl:=Option.some.inj H
     go_enter Try.func55,Try.ntmps55
     go_wp2_with (first | ((with_reducible refine gd 2 rfl (L ?_));refine bo 2 (.agg #[_,_,_,_,_]) S ?_;clear S F;intro gb571 W S;have F:=S.fc) | ((with_reducible refine gate_callee (f:=85) rfl (L ?_));refine cl (some 8) Try.func85 (laws_heldCellS.calls _ _ _ _ _ _ _ S.c S.n A3) (hargs:=by (simp only [ma_,mb_,mc_,F] <;> rfl)) (h:=?_);rintro e W ⟨rfl,hb⟩;refine ⟨_,rfl,?_⟩;replace S:=S.gw hb;clear F hb;have F:=S.fc) | ((with_reducible refine gate_callee (f:=24) rfl (L ?_));refine cl (some 14) Try.func24 (laws_heldIntS.calls _ _ _ _ _ _ _ S.c S.n A7) (hargs:=by (simp only [ma_,mb_,mc_,F] <;> rfl)) (h:=?_);rintro e W ⟨rfl,hb⟩;refine ⟨_,rfl,?_⟩;replace S:=S.gw hb;clear F hb;have F:=S.fc))
     go_ret
     exact ⟨(by first | rfl | (simp [e0_,e1_] <;> rfl) | (simp [*,e0_,e1_] <;> rfl)),S.below⟩
   · skip
     replace H:=Option.bind_eq_some_iff.mp H;obtain ⟨t574,A11,H⟩:=H;(try dsimp only at H)
     replace H:=sp_ H;rcases H with ⟨c12,H⟩ | ⟨c12,H⟩
     · skip
       obtain rfl:=Option.some.inj H
       go_enter Try.func55,Try.ntmps55
       go_wp2_with (first | ((with_reducible refine gd 2 rfl (L ?_));refine bo 2 (.agg #[_,_,_,_,_]) S ?_;clear S F;intro gb571 W S;have F:=S.fc) | ((with_reducible refine gate_callee (f:=85) rfl (L ?_));refine cl (some 8) Try.func85 (laws_heldCellS.calls _ _ _ _ _ _ _ S.c S.n A3) (hargs:=by (simp only [ma_,mb_,mc_,F] <;> rfl)) (h:=?_);rintro e W ⟨rfl,hb⟩;refine ⟨_,rfl,?_⟩;replace S:=S.gw hb;clear F hb;have F:=S.fc) | ((with_reducible refine gate_callee (f:=24) rfl (L ?_));refine cl (some 14) Try.func24 (laws_heldIntS.calls _ _ _ _ _ _ _ S.c S.n A7) (hargs:=by (simp only [ma_,mb_,mc_,F] <;> rfl)) (h:=?_);rintro e W ⟨rfl,hb⟩;refine ⟨_,rfl,?_⟩;replace S:=S.gw hb;clear F hb;have F:=S.fc) | ((with_reducible refine gate_callee (f:=24) rfl (L ?_));refine cl (some 20) Try.func24 (laws_heldIntS.calls _ _ _ _ _ _ _ S.c S.n A11) (hargs:=by (simp only [ma_,mb_,mc_,F] <;> rfl)) (h:=?_);rintro e W ⟨rfl,hb⟩;refine ⟨_,rfl,?_⟩;replace S:=S.gw hb;clear F hb;have F:=S.fc))
       go_ret
       exact ⟨(by first | rfl | (simp [e0_,e1_] <;> rfl) | (simp [*,e0_,e1_] <;> rfl)),S.below⟩
     · skip
       obtain rfl:=Option.some.inj H
       go_enter Try.func55,Try.ntmps55
       go_wp2_with (first | ((with_reducible refine gd 2 rfl (L ?_));refine bo 2 (.agg #[_,_,_,_,_]) S ?_;clear S F;intro gb571 W S;have F:=S.fc) | ((with_reducible refine gate_callee (f:=85) rfl (L ?_));refine cl (some 8) Try.func85 (laws_heldCellS.calls _ _ _ _ _ _ _ S.c S.n A3) (hargs:=by (simp only [ma_,mb_,mc_,F] <;> rfl)) (h:=?_);rintro e W ⟨rfl,hb⟩;refine ⟨_,rfl,?_⟩;replace S:=S.gw hb;clear F hb;have F:=S.fc) | ((with_reducible refine gate_callee (f:=24) rfl (L ?_));refine cl (some 14) Try.func24 (laws_heldIntS.calls _ _ _ _ _ _ _ S.c S.n A7) (hargs:=by (simp only [ma_,mb_,mc_,F] <;> rfl)) (h:=?_);rintro e W ⟨rfl,hb⟩;refine ⟨_,rfl,?_⟩;replace S:=S.gw hb;clear F hb;have F:=S.fc) | ((with_reducible refine gate_callee (f:=24) rfl (L ?_));refine cl (some 20) Try.func24 (laws_heldIntS.calls _ _ _ _ _ _ _ S.c S.n A11) (hargs:=by (simp only [ma_,mb_,mc_,F] <;> rfl)) (h:=?_);rintro e W ⟨rfl,hb⟩;refine ⟨_,rfl,?_⟩;replace S:=S.gw hb;clear F hb;have F:=S.fc))
       go_ret
       exact ⟨(by first | rfl | (simp [e0_,e1_] <;> rfl) | (simp [*,e0_,e1_] <;> rfl)),S.below⟩

/-! ### spec_boParts: function 96 -/
def spec_boParts.l0:Nat→List Int→List (S88)→Int→Int→Option (List Int)
  | 0,_,_,_,_=>none
  | k + 1,x3,x8,x9,x10=>if x10 < x9 then (if 0 ≤ x10 then (if x10 < (x8.length:Int) then (if 0 ≤ ((rd_T88 x8 x10).f0) then (if ((rd_T88 x8 x10).f0) < (x3.length:Int) then (spec_boParts.l0 k (x3.set (((rd_T88 x8 x10).f0):Int).toNat (wrap64 ((rd x3 ((rd_T88 x8 x10).f0)) + 1))) x8 x9 (wrap64 (x10 + 1))) else (none)) else (none)) else (none)) else (none)) else (some x3)
def spec_boParts.f (k:Nat) (a0_0:Int) (a0_1:Int) (l0_2:List (S88)):Option (List Int):=if 8 ≤ 35184372088832 then (spec_boParts.l0 k (List.replicate 8 0) l0_2 (l0_2.length:Int) 0) else (none)
theorem spec_boParts.calls (k:Nat) (a0_0:Int) (a0_1:Int) (A0_2:Option Addr) (c0_2:Nat) (l0_2:List (S88)) (r:List Int) (w:World) (hr0_2:Kd.C k88 w A0_2 l0_2.length l0_2) (hc0_2:l0_2.length ≤ c0_2) (h:spec_boParts.f k a0_0 a0_1 l0_2 = some r) :
    Calls Try.prog 96 #[.agg #[.int .i64 a0_0,.int .i64 a0_1,.slice A0_2 l0_2.length c0_2]] w fun e w'=>∃ v0_:Value,e = .returned (v0_)∧Kd.R (Kd.int .i64) 3 w' w.heap.size (fun _=>True) v0_ r∧Below w.heap.size w w':=by
 have S:=St.init (w:=w) (dc k88_heap at88 hr0_2 hc0_2 dn)
 clear hr0_2 hc0_2
 have F:=S.fc
 have H:=h;clear h;unfold spec_boParts.f at H
 replace H:=np_ H;obtain ⟨c2,H⟩:=H;(try simp only [F] at c2)
 (first | (with_reducible replace H:=ob_ H;obtain ⟨y576,hy576,H⟩:=H;(try dsimp only at H)) | (obtain ⟨y576,hy576⟩:∃ y_:List Int,y_ = (List.replicate 8 0):=⟨_,rfl⟩;(try rw [← hy576] at H);(try simp only [Option.bind_some] at H)));have Ny576:=Aside0.mk hy576;clear hy576
 go_enter Try.func96,Try.ntmps96
 go_wp2_with (first | ((with_reducible refine gd 1 rfl (L ?_));refine bo 1 (.agg #[_,_,_]) S ?_;clear S F;intro gb575 W S;have F:=S.fc) | ((with_reducible refine gd 6 rfl (L ?_));refine mka 6 (atI .i64) S Try.underlying23 info3 ?_;clear S F;intro Ay576 cy576 W S;(try simp only [Int.reduceToNat] at S ⊢);(try rw [← Ny576.out] at S ⊢);have F:=S.fc) | ((with_reducible refine gs (t:=3) rfl (L ?_));(first | refine sb (.int _ _) S sz3 ?_ | refine ro (.int _ _) S sz3 ?_ (ho:=rfl) (hx:=rfl) (hy:=rfl));clear S F;intro W S;(try simp only [gd88] at S);(try rw [← Ny576.out] at S);have F:=S.fc) | ((with_reducible refine gs (t:=88) rfl (L ?_));(first | refine sb (.agg #[_,_]) S sz88 ?_ | refine ro (.agg #[_,_]) S sz88 ?_ (ho:=rfl) (hx:=rfl) (hy:=rfl));clear S F;intro W S;(try simp only [gd88] at S);(try rw [← Ny576.out] at S);have F:=S.fc))
 go_loopg [10] k (fun kq v10 w'=>∃ (x3_1:List Int) (x10_1:Int),v10 = .int .i64 x10_1∧spec_boParts.l0 kq x3_1 l0_2 (l0_2.length:Int) x10_1 = some r∧kq ≤ k∧St w w (fun _=>False) [bor at88 A0_2 c0_2 l0_2] w'  [row (atI .i64) 3 Ay576 y576.length cy576 x3_1,box gb575 50 [.int .i64 a0_0,.int .i64 a0_1,.slice A0_2 l0_2.length c0_2]])
 case atStart=>exact ⟨y576,0,(by first | rfl | (simp;done) | (simp [*];done) | (rw [w6_ (by omega) (by omega)])),(by first | exact H | (simp only [F];exact H)),Nat.le_refl _,S⟩
 case round =>
  clear H S F
  obtain ⟨x3_1,x10_1,rfl,HA,HK1,S⟩:=hrel
  have F:=S.fc
  cases gk with
  | zero=>exact absurd HA (by simp [spec_boParts.l0])
  | succ k1 =>
   have H:=HA;clear HA;simp only [spec_boParts.l0,F] at H
   replace H:=sp_ H;rcases H with ⟨c7,H⟩ | ⟨c7,H⟩
   · skip
     replace H:=np_ H;obtain ⟨c8,H⟩:=H;(try simp only [F] at c8)
     replace H:=np_ H;obtain ⟨c9,H⟩:=H;(try simp only [F] at c9)
     replace H:=np_ H;obtain ⟨c10,H⟩:=H;(try simp only [F] at c10)
     replace H:=np_ H;obtain ⟨c11,H⟩:=H;(try simp only [F] at c11)
     (first | (with_reducible replace H:=ob_ H;obtain ⟨y582,hy582,H⟩:=H;(try dsimp only at H)) | (obtain ⟨y582,hy582⟩:∃ y_:List Int,y_ = (x3_1.set (((rd_T88 l0_2 x10_1).f0):Int).toNat (wrap64 ((rd x3_1 ((rd_T88 l0_2 x10_1).f0)) + 1))):=⟨_,rfl⟩;(try rw [← hy582] at H);(try simp only [Option.bind_some] at H)));have Ny582:=Aside0.mk hy582;clear hy582
     go_wp2_with (first | ((with_reducible refine gd 5 rfl (L ?_));refine al 5 S zi88 ?_;clear S F;intro gb580 W S;have F:=S.fc) | ((with_reducible refine gs (t:=3) rfl (L ?_));(first | refine sb (.int _ _) S sz3 ?_ | refine ro (.int _ _) S sz3 ?_ (ho:=rfl) (hx:=rfl) (hy:=rfl));clear S F;intro W S;(try simp only [gd88] at S);(try rw [← Ny576.out] at S);(try rw [← Ny582.out] at S);have F:=S.fc) | ((with_reducible refine gs (t:=88) rfl (L ?_));(first | refine sb (.agg #[_,_]) S sz88 ?_ | refine ro (.agg #[_,_]) S sz88 ?_ (ho:=rfl) (hx:=rfl) (hy:=rfl));clear S F;intro W S;(try simp only [gd88] at S);(try rw [← Ny576.out] at S);(try rw [← Ny582.out] at S);have F:=S.fc))
     go_roundg k1
     case measure=>omega
     case rel=>exact ⟨y582,(wrap64 (x10_1 + 1)),(by first | rfl | (simp;done) | (simp [*];done) | (rw [w6_ (by omega) (by omega)])),(by first | exact H | (simp only [F];exact H)),(by first | omega | exact Nat.le_refl _),S.tl⟩
   · skip
     obtain rfl:=Option.some.inj H
     go_wp2_with (first | ((with_reducible refine gs (t:=3) rfl (L ?_));(first | refine sb (.int _ _) S sz3 ?_ | refine ro (.int _ _) S sz3 ?_ (ho:=rfl) (hx:=rfl) (hy:=rfl));clear S F;intro W S;(try simp only [gd88] at S);(try rw [← Ny576.out] at S);have F:=S.fc) | ((with_reducible refine gs (t:=88) rfl (L ?_));(first | refine sb (.agg #[_,_]) S sz88 ?_ | refine ro (.agg #[_,_]) S sz88 ?_ (ho:=rfl) (hx:=rfl) (hy:=rfl));clear S F;intro W S;(try simp only [gd88] at S);(try rw [← Ny576.out] at S);have F:=S.fc))
     go_ret
     exact ⟨_,(by first | rfl | (simp [e0_,e1_] <;> rfl) | (simp [*,e0_,e1_] <;> rfl)),(by first | exact S.r | exact Kd.R_nil _ _ _ _ _),S.below⟩

/-! ### spec_sySize: function 60 -/
def spec_sySize.f (k:Nat) (a0_0:Int) (a0_1:Int) (l0_2:List (S88)):Option (Int):=(spec_boParts.f k a0_0 a0_1 l0_2).bind fun t584=>(if 0 < (t584.length:Int) then (some (wrap64 ((l0_2.length:Int) - (rd t584 0)))) else (none))
theorem spec_sySize.calls (k:Nat) (a0_0:Int) (a0_1:Int) (A0_2:Option Addr) (c0_2:Nat) (l0_2:List (S88)) (r:Int) (w:World) (hr0_2:Kd.C k88 w A0_2 l0_2.length l0_2) (hc0_2:l0_2.length ≤ c0_2) (h:spec_sySize.f k a0_0 a0_1 l0_2 = some r) :
    Calls Try.prog 60 #[.agg #[.int .i64 a0_0,.int .i64 a0_1,.slice A0_2 l0_2.length c0_2]] w fun e w'=>e = .returned (.int .i64 r)∧Below w.heap.size w w':=by
 have S:=St.init (w:=w) (dc k88_heap at88 hr0_2 hc0_2 dn)
 clear hr0_2 hc0_2
 have F:=S.fc
 have H:=h;clear h;unfold spec_sySize.f at H
 replace H:=Option.bind_eq_some_iff.mp H;obtain ⟨t584,A2,H⟩:=H;(try dsimp only at H)
 replace H:=np_ H;obtain ⟨c3,H⟩:=H;(try have m_t584:0 < t584.length:=by omega)
 obtain rfl:=Option.some.inj H
 go_enter Try.func60,Try.ntmps60
 go_wp2_with (first | ((with_reducible refine gd 1 rfl (L ?_));refine bo 1 (.agg #[_,_,_]) S ?_;clear S F;intro gb583 W S;have F:=S.fc))
 refine rq S [(0,0),(1,1),(0,2),(1,3),(2,4),(0,5),(2,6),(0,7),(0,8)] [] (h:=?_);clear S F;intro W S;have S0:=S;have F:=S.fc
 repeat (first | (refine q0 (h:=?_)) | (refine q1 S0 (h:=?_)) | (refine q0n (h:=?_)) | (refine q1n S0 (h:=?_)) | (refine q2 S0 (h:=?_)))
 refine lk2 (by rfl) (by exact (Eq.refl true)) ?_;refine cl (some 7) Try.func96 (spec_boParts.calls _ _ _ _ _ _ _ _ S.c S.n A2) (hargs:=by (simp only [ma_,mb_,mc_,F] <;> rfl)) (h:=?_);rintro e W ⟨v585,rfl,ho0,hb⟩;refine ⟨_,rfl,?_⟩;replace S:=S.got (atI .i64) hb ho0;obtain ⟨At584,ct584,rfl,S⟩:=S;clear F hb ho0;have F:=S.fc;(try have z_:=rd0_ S m_t584)
 clear S0;have S0:=S.tl;refine ⟨S0,?_⟩
 repeat (first | (refine q0 (h:=?_)) | (refine q1 S0 (h:=?_)) | (refine q0n (h:=?_)) | (refine q1n S0 (h:=?_)) | (refine q2 S0 (h:=?_)))
 refine oz ?_
 try clear S0
 try go_wp2
 go_ret
 exact ⟨(by first | rfl | (simp [e0_,e1_] <;> rfl) | (simp [*,e0_,e1_] <;> rfl)),S.below⟩

/-! ### spec_chSmallest: function 81 -/
def spec_chSmallest.l0:Nat→List (S50)→Int→Int→Int→Int→List (S88)→Option (Int × Int × (List (S88)))
  | 0,_,_,_,_,_,_=>none
  | k + 1,x0,x10,x11,x591000,x591001,x591002=>if x11 < x10 then (if 0 ≤ x11 then (if x11 < (x0.length:Int) then ((spec_sySize.f k ((rd_T50 x0 x11).f0) ((rd_T50 x0 x11).f1) ((rd_T50 x0 x11).f2)).bind fun t593=>((spec_sySize.f k x591000 x591001 x591002).bind fun t594=>(if t593 < t594 then (spec_chSmallest.l0 k x0 x10 (wrap64 (x11 + 1)) ((rd_T50 x0 x11).f0) ((rd_T50 x0 x11).f1) ((rd_T50 x0 x11).f2)) else (spec_chSmallest.l0 k x0 x10 (wrap64 (x11 + 1)) x591000 x591001 x591002)))) else (none)) else (none)) else (some (x591000,x591001,x591002))
def spec_chSmallest.f (k:Nat) (l0:List (S50)):Option (Int × Int × (List (S88))):=if 0 < (l0.length:Int) then (spec_chSmallest.l0 k l0 (l0.length:Int) 0 ((rd_T50 l0 0).f0) ((rd_T50 l0 0).f1) ((rd_T50 l0 0).f2)) else (none)
theorem spec_chSmallest.calls (k:Nat) (A0:Option Addr) (c0:Nat) (l0:List (S50)) (r1:Int) (r2:Int) (r3:List (S88)) (P_:Nat→Prop) (w:World) (hs0:Vr k50 w P_ A0 c0 l0) (h:spec_chSmallest.f k l0 = some (r1,r2,r3)) :
    Calls Try.prog 81 #[.slice A0 l0.length c0] w fun e w'=>∃ (A2_:Option Addr) (c2_:Nat),e = .returned (.agg #[.int .i64 r1,.int .i64 r2,.slice A2_ r3.length c2_])∧Vr k88 w' (fun k_=>P_ k_∨w.heap.size ≤ k_) A2_ c2_ r3∧Below w.heap.size w w':=by
 have S:=St.initV (vc (atU (d:=k50)) hs0 vn)
 clear hs0
 have F:=S.fc
 have H:=h;clear h;unfold spec_chSmallest.f at H
 replace H:=np_ H;obtain ⟨c2,H⟩:=H;(try have m_l0:0 < l0.length:=by omega)
 go_enter Try.func81,Try.ntmps81
 obtain ⟨A589_2,c589_2,S⟩:=inn50z S l0 at88;clear F;have F:=S.fc
 go_wp2_with (first | ((with_reducible refine gd 2 rfl (L ?_));refine al 2 S zi50 ?_;clear S F;intro gb588 W S;have F:=S.fc) | ((with_reducible refine gd 3 rfl (L ?_));refine al 3 S zi50 ?_;clear S F;intro gb590 W S;have F:=S.fc) | ((with_reducible refine gs (t:=50) rfl (L ?_));(first | refine sb (.agg #[_,_,_]) S sz50 ?_ | refine ro (.agg #[_,_,_]) S sz50 ?_ (ho:=rfl) (hx:=rfl) (hy:=rfl));(clear S F;intro W S;have F:=S.fc)))
 go_loopg [11] k (fun kq v11 w'=>∃ (x11_1:Int) (x591000_1:Int) (x591001_1:Int) (x591002_1:List (S88)) (Ax591002_1:Option Addr) (cx591002_1:Nat),v11 = .int .i64 x11_1∧spec_chSmallest.l0 kq l0 (l0.length:Int) x11_1 x591000_1 x591001_1 x591002_1 = some (r1,r2,r3)∧kq ≤ k∧St w w (fun k=>¬ P_ k) [bor at88 Ax591002_1 cx591002_1 x591002_1,bcell (adr A0) (.int .i64 (rd_T50 l0 0).f0),bcell ((adr A0).add 0) (.int .i64 (rd_T50 l0 0).f0),bcell (⟨(adr A0).block,(adr A0).off + 1,none⟩) (.int .i64 (rd_T50 l0 0).f1),bcell (⟨((adr A0).add 0).block,((adr A0).add 0).off + 1,none⟩) (.int .i64 (rd_T50 l0 0).f1),bcell (⟨(adr A0).block,(adr A0).off + 2,none⟩) (.slice A589_2 (rd_T50 l0 0).f2.length c589_2),bcell (⟨((adr A0).add 0).block,((adr A0).add 0).off + 2,none⟩) (.slice A589_2 (rd_T50 l0 0).f2.length c589_2),bor at88 A589_2 c589_2 (rd_T50 l0 0).f2,bor (atU (d:=k50)) A0 c0 l0] w'  [box gb590 50 [.int .i64 x591000_1,.int .i64 x591001_1,.slice Ax591002_1 x591002_1.length cx591002_1],box gb588 50 [.int .i64 0,.int .i64 0,.slice none 0 0]])
 case atStart=>exact ⟨0,((rd_T50 l0 0).f0),((rd_T50 l0 0).f1),((rd_T50 l0 0).f2),_,_,(by first | rfl | (simp;done) | (simp [*];done) | (rw [w6_ (by omega) (by omega)])),H,Nat.le_refl _,(S.dk [6,0,1,2,3,4,5,6,7])⟩
 case round =>
  clear H S F
  obtain ⟨x11_1,x591000_1,x591001_1,x591002_1,Ax591002_1,cx591002_1,rfl,HA,HK1,S⟩:=hrel
  have F:=S.fc
  cases gk with
  | zero=>exact absurd HA (by simp [spec_chSmallest.l0])
  | succ k1 =>
   have H:=HA;clear HA;simp only [spec_chSmallest.l0,F] at H
   replace H:=sp_ H;rcases H with ⟨c7,H⟩ | ⟨c7,H⟩
   · skip
     replace H:=np_ H;obtain ⟨c8,H⟩:=H
     replace H:=np_ H;obtain ⟨c9,H⟩:=H
     replace H:=Option.bind_eq_some_iff.mp H;obtain ⟨t593,A10,H⟩:=H;(try dsimp only at H)
     replace H:=Option.bind_eq_some_iff.mp H;obtain ⟨t594,A11,H⟩:=H;(try dsimp only at H)
     replace H:=sp_ H;rcases H with ⟨c12,H⟩ | ⟨c12,H⟩
     · skip
       obtain ⟨A591_2,c591_2,S⟩:=inn50 S l0 at88 x11_1;clear F;have F:=S.fc
       go_wp2_with (first | ((with_reducible refine gd 5 rfl (L ?_));refine al 5 S zi50 ?_;clear S F;intro gb592 W S;have F:=S.fc) | ((with_reducible refine gs (t:=50) rfl (L ?_));(first | refine sb (.agg #[_,_,_]) S sz50 ?_ | refine ro (.agg #[_,_,_]) S sz50 ?_ (ho:=rfl) (hx:=rfl) (hy:=rfl));(clear S F;intro W S;have F:=S.fc)))
       refine rq S [(1,0),(1,2),(2,1),(2,3),(0,4)] [] (h:=?_);clear S F;intro W S;have S0:=S;have F:=S.fc
       repeat (first | (refine q0 (h:=?_)) | (refine q1 S0 (h:=?_)) | (refine q0n (h:=?_)) | (refine q1n S0 (h:=?_)))
       refine lk2 (by rfl) (by exact (Eq.refl true)) ?_;refine cl (some 16) Try.func60 (spec_sySize.calls _ _ _ _ _ _ _ _ S.c S.n A10) (hargs:=by (simp only [ma_,mb_,mc_,F] <;> rfl)) (h:=?_);rintro e W ⟨rfl,hb⟩;refine ⟨_,rfl,?_⟩;replace S:=S.go hb;clear F hb;have F:=S.fc
       clear S0;have S0:=S;refine ⟨S0,?_⟩
       refine lk2 (by rfl) (by exact (Eq.refl true)) ?_;refine cl (some 18) Try.func60 (spec_sySize.calls _ _ _ _ _ _ _ _ S.c S.n A11) (hargs:=by (simp only [ma_,mb_,mc_,F] <;> rfl)) (h:=?_);rintro e W ⟨rfl,hb⟩;refine ⟨_,rfl,?_⟩;replace S:=S.go hb;clear F hb;have F:=S.fc
       clear S0;have S0:=S;refine ⟨S0,?_⟩
       repeat (first | (refine q0 (h:=?_)) | (refine q1 S0 (h:=?_)) | (refine q0n (h:=?_)) | (refine q1n S0 (h:=?_)))
       refine oz ?_
       try clear S0
       go_wp2_with (first | ((with_reducible refine gs (t:=50) rfl (L ?_));(first | refine sb (.agg #[_,_,_]) S sz50 ?_ | refine ro (.agg #[_,_,_]) S sz50 ?_ (ho:=rfl) (hx:=rfl) (hy:=rfl));(clear S F;intro W S;have F:=S.fc)))
       go_roundg k1
       case measure=>omega
       case rel=>exact ⟨(wrap64 (x11_1 + 1)),((rd_T50 l0 x11_1).f0),((rd_T50 l0 x11_1).f1),((rd_T50 l0 x11_1).f2),_,_,(by first | rfl | (simp;done) | (simp [*];done) | (rw [w6_ (by omega) (by omega)])),H,(by first | omega | exact Nat.le_refl _),(S.dk [3,5,6,7,8,9,10,11,12]).tl⟩
     · skip
       obtain ⟨A591_2,c591_2,S⟩:=inn50 S l0 at88 x11_1;clear F;have F:=S.fc
       go_wp2_with (first | ((with_reducible refine gd 5 rfl (L ?_));refine al 5 S zi50 ?_;clear S F;intro gb592 W S;have F:=S.fc) | ((with_reducible refine gs (t:=50) rfl (L ?_));(first | refine sb (.agg #[_,_,_]) S sz50 ?_ | refine ro (.agg #[_,_,_]) S sz50 ?_ (ho:=rfl) (hx:=rfl) (hy:=rfl));(clear S F;intro W S;have F:=S.fc)))
       refine rq S [(1,0),(1,2),(2,1),(2,3),(0,4)] [] (h:=?_);clear S F;intro W S;have S0:=S;have F:=S.fc
       repeat (first | (refine q0 (h:=?_)) | (refine q1 S0 (h:=?_)) | (refine q0n (h:=?_)) | (refine q1n S0 (h:=?_)))
       refine lk2 (by rfl) (by exact (Eq.refl true)) ?_;refine cl (some 16) Try.func60 (spec_sySize.calls _ _ _ _ _ _ _ _ S.c S.n A10) (hargs:=by (simp only [ma_,mb_,mc_,F] <;> rfl)) (h:=?_);rintro e W ⟨rfl,hb⟩;refine ⟨_,rfl,?_⟩;replace S:=S.go hb;clear F hb;have F:=S.fc
       clear S0;have S0:=S;refine ⟨S0,?_⟩
       refine lk2 (by rfl) (by exact (Eq.refl true)) ?_;refine cl (some 18) Try.func60 (spec_sySize.calls _ _ _ _ _ _ _ _ S.c S.n A11) (hargs:=by (simp only [ma_,mb_,mc_,F] <;> rfl)) (h:=?_);rintro e W ⟨rfl,hb⟩;refine ⟨_,rfl,?_⟩;replace S:=S.go hb;clear F hb;have F:=S.fc
       clear S0;have S0:=S;refine ⟨S0,?_⟩
       repeat (first | (refine q0 (h:=?_)) | (refine q1 S0 (h:=?_)) | (refine q0n (h:=?_)) | (refine q1n S0 (h:=?_)))
       refine oz ?_
       try clear S0
       go_wp2_with (first | ((with_reducible refine gs (t:=50) rfl (L ?_));(first | refine sb (.agg #[_,_,_]) S sz50 ?_ | refine ro (.agg #[_,_,_]) S sz50 ?_ (ho:=rfl) (hx:=rfl) (hy:=rfl));(clear S F;intro W S;have F:=S.fc)))
       go_roundg k1
       case measure=>omega
       case rel=>exact ⟨(wrap64 (x11_1 + 1)),x591000_1,x591001_1,x591002_1,_,_,(by first | rfl | (simp;done) | (simp [*];done) | (rw [w6_ (by omega) (by omega)])),H,(by first | omega | exact Nat.le_refl _),(S.dk [4,5,6,7,8,9,10,11,12]).tl⟩
   · skip
     simp only [Option.some.injEq,Prod.mk.injEq] at H
     obtain ⟨rfl,rfl,rfl⟩:=H
     go_wp2_with (first | ((with_reducible refine gs (t:=50) rfl (L ?_));(first | refine sb (.agg #[_,_,_]) S sz50 ?_ | refine ro (.agg #[_,_,_]) S sz50 ?_ (ho:=rfl) (hx:=rfl) (hy:=rfl));(clear S F;intro W S;have F:=S.fc)))
     refine bodyPost_ret (results_cell_row rfl _ _ gb588 50 #[.int .i64 x591000_1,.int .i64 x591001_1,.slice Ax591002_1 x591002_1.length cx591002_1] (0,0) _ rfl S.hb Try.underlying50 rfl (by kernel_rfl)) rfl ?_
     exact ⟨_,_,(by first | rfl | (simp [e0_,e1_] <;> rfl) | (simp [*,e0_,e1_] <;> rfl)),(by first | exact S.v | exact Vr_nil),S.below⟩

/-! ### spec_l1Own: function 122 -/
def spec_l1Own.f (l0:List Int):Option (List Int):=(some (([]:List Int):List Int)).bind fun y595=>(if y595.length + l0.length < 17592186044416 then (some (y595 ++ l0)) else (none))
theorem spec_l1Own.calls (A0:Option Addr) (c0:Nat) (l0:List Int) (r:List Int) (w:World) (hr0:Kd.C (Kd.int .i64) w A0 l0.length l0) (hc0:l0.length ≤ c0) (h:spec_l1Own.f l0 = some r) :
    Calls Try.prog 122 #[.slice A0 l0.length c0] w fun e w'=>∃ v0_:Value,e = .returned (v0_)∧Kd.R (Kd.int .i64) 3 w' w.heap.size (fun _=>True) v0_ r∧Below w.heap.size w w':=by
 have S:=St.init (w:=w) (dc (Kd.heap_int .i64) (atI .i64) hr0 hc0 dn)
 clear hr0 hc0
 have F:=S.fc
 have H:=h;clear h;unfold spec_l1Own.f at H
 (first | (with_reducible replace H:=ob_ H;obtain ⟨y595,hy595,H⟩:=H;(try dsimp only at H)) | (obtain ⟨y595,hy595⟩:∃ y_:List Int,y_ = (([]:List Int)):=⟨_,rfl⟩;(try rw [← hy595] at H);(try simp only [Option.bind_some] at H)));have Ny595:=Aside0.mk hy595;clear hy595
 replace H:=np_ H;obtain ⟨c2,H⟩:=H
 (first | (with_reducible replace H:=ob_ H;obtain ⟨y598,hy598,H⟩:=H;(try dsimp only at H)) | (obtain ⟨y598,hy598⟩:∃ y_:List Int,y_ = (y595 ++ l0):=⟨_,rfl⟩;(try rw [← hy598] at H);(try simp only [Option.bind_some] at H)));have Ny598:=Aside0.mk hy598;clear hy598
 obtain rfl:=Option.some.inj H
 go_enter Try.func122,Try.ntmps122
 go_wp2_with (first | ((with_reducible refine gd 3 rfl (L ?_));refine lia 3 (atI .i64) 3 S ([]:List Int) (fun _ _=>(Reps.none _ _)) (by first | (go_simp;done) | (go_simp;rfl)) ?_;clear S F;intro Ay595 cy595 W S;(try rw [← Ny595.out] at S ⊢);(try rw [← Ny598.out] at S ⊢);have F:=S.fc) | ((with_reducible refine gd 5 rfl (L ?_));refine apr (A:=Ay595) (ys:=l0) 5 S Try.underlying23 info3 S.c ?_ (ho:=rfl) (hs:=rfl) (hx:=rfl);clear S F;intro Ay598 cy598 W S;(try rw [← Ny598.out] at S ⊢);have F:=S.fc))
 go_ret
 exact ⟨_,(by first | rfl | (simp [e0_,e1_] <;> rfl) | (simp [*,e0_,e1_] <;> rfl)),(by first | exact S.r | exact Kd.R_nil _ _ _ _ _),S.below⟩

/-! ### spec_chOwn: function 92 -/
def spec_chOwn.f (a0_0:Int) (a0_1:Int) (l0_2:List (S88)) (l0_3:List Int) (l0_4:List Int):Option (Int × Int × (List (S88)) × List Int × List Int):=(some (([]:List (S88)):List (S88))).bind fun y603=>(if y603.length + l0_2.length < 8796093022208 then ((spec_l1Own.f l0_3).bind fun t609=>((spec_l1Own.f l0_4).bind fun t612=>(some (a0_0,a0_1,(y603 ++ l0_2),t609,t612)))) else (none))
theorem spec_chOwn.calls (a0_0:Int) (a0_1:Int) (A0_2:Option Addr) (c0_2:Nat) (l0_2:List (S88)) (A0_3:Option Addr) (c0_3:Nat) (l0_3:List Int) (A0_4:Option Addr) (c0_4:Nat) (l0_4:List Int) (r1:Int) (r2:Int) (r3:List (S88)) (r4:List Int) (r5:List Int) (w:World) (hr0_2:Kd.C k88 w A0_2 l0_2.length l0_2) (hc0_2:l0_2.length ≤ c0_2) (hr0_3:Kd.C (Kd.int .i64) w A0_3 l0_3.length l0_3) (hc0_3:l0_3.length ≤ c0_3) (hr0_4:Kd.C (Kd.int .i64) w A0_4 l0_4.length l0_4) (hc0_4:l0_4.length ≤ c0_4) (h:spec_chOwn.f a0_0 a0_1 l0_2 l0_3 l0_4 = some (r1,r2,r3,r4,r5)) :
    Calls Try.prog 92 #[.agg #[.int .i64 a0_0,.int .i64 a0_1,.slice A0_2 l0_2.length c0_2,.slice A0_3 l0_3.length c0_3,.slice A0_4 l0_4.length c0_4]] w fun e w'=>∃ v2_ v3_ v4_:Value,e = .returned (.agg #[.int .i64 r1,.int .i64 r2,v2_,v3_,v4_])∧Kd.R k88 88 w' w.heap.size (fun _=>True) v2_ r3∧Kd.R (Kd.int .i64) 3 w' w.heap.size (fun k_=>some k_ ≠ (v4_:Value).ownBlock) v3_ r4∧Kd.R (Kd.int .i64) 3 w' w.heap.size (fun k_=>some k_ ≠ (v3_:Value).ownBlock) v4_ r5∧Below w.heap.size w w':=by
 have S:=St.init (w:=w) (dc k88_heap at88 hr0_2 hc0_2 (dc (Kd.heap_int .i64) (atI .i64) hr0_3 hc0_3 (dc (Kd.heap_int .i64) (atI .i64) hr0_4 hc0_4 dn)))
 clear hr0_2 hc0_2 hr0_3 hc0_3 hr0_4 hc0_4
 have F:=S.fc
 have H:=h;clear h;unfold spec_chOwn.f at H
 (first | (with_reducible replace H:=ob_ H;obtain ⟨y603,hy603,H⟩:=H;(try dsimp only at H)) | (obtain ⟨y603,hy603⟩:∃ y_:List (S88),y_ = (([]:List (S88))):=⟨_,rfl⟩;(try rw [← hy603] at H);(try simp only [Option.bind_some] at H)));have Ny603:=Aside0.mk hy603;clear hy603
 replace H:=np_ H;obtain ⟨c2,H⟩:=H
 (first | (with_reducible replace H:=ob_ H;obtain ⟨y606,hy606,H⟩:=H;(try dsimp only at H)) | (obtain ⟨y606,hy606⟩:∃ y_:List (S88),y_ = (y603 ++ l0_2):=⟨_,rfl⟩;(try rw [← hy606] at H);(try simp only [Option.bind_some] at H)));have Ny606:=Aside0.mk hy606;clear hy606
 replace H:=Option.bind_eq_some_iff.mp H;obtain ⟨t609,A3,H⟩:=H;(try dsimp only at H)
 replace H:=Option.bind_eq_some_iff.mp H;obtain ⟨t612,A4,H⟩:=H;(try dsimp only at H)
 simp only [Option.some.injEq,Prod.mk.injEq] at H
 obtain ⟨rfl,rfl,rfl,rfl,rfl⟩:=H
 go_enter Try.func92,Try.ntmps92
 go_wp2_with (first | ((with_reducible refine gd 1 rfl (L ?_));refine bo 1 (.agg #[_,_,_,_,_]) S ?_;clear S F;intro gb601 W S;have F:=S.fc) | ((with_reducible refine gd 2 rfl (L ?_));refine al 2 S zi31 ?_;clear S F;intro gb602 W S;have F:=S.fc) | ((with_reducible refine gs (t:=31) rfl (L ?_));(first | refine sb (.agg #[_,_,_,_,_]) S sz31 ?_ | refine ro (.agg #[_,_,_,_,_]) S sz31 ?_ (ho:=rfl) (hx:=rfl) (hy:=rfl));clear S F;intro W S;(try rw [← Ny606.out] at S);have F:=S.fc))
 refine rgP S (fun _ S=>S.tl) [(0,0),(0,2),(0,5),(0,8),(0,11),(1,1),(1,3),(1,6),(1,9),(1,12),(2,4),(2,7),(2,10),(2,13),(0,14),(2,15)] [] (by kernel_rfl) (by kernel_rfl) (fun _ d _ _ _ h=>by cases d <;> exact h) ?_;clear S F;intro W S;have S0:=S.tl;have F:=S.fc
 repeat (first | (refine q0 (h:=?_)) | (refine q1 S0 (h:=?_)) | (refine q0n (h:=?_)) | (refine q1n S0 (h:=?_)))
 refine lk2 (by rfl) (by exact (Eq.refl true)) ?_;refine lia 7 at88 88 S ([]:List (S88)) (fun _ _=>(Reps.none _ _)) (by first | (go_simp;done) | (go_simp;rfl)) ?_;clear S F;intro Ay603 cy603 W S;(try rw [← Ny603.out] at S ⊢);(try rw [← Ny606.out] at S ⊢);have F:=S.fc
 clear S0;have S0:=S.tl.tl;refine ⟨S0,?_⟩
 refine lk2 (by rfl) (by exact (Eq.refl true)) ?_;refine apr (A:=Ay603) (ys:=l0_2) 10 S Try.underlying29 info88 S.c ?_ (ho:=rfl) (hs:=rfl) (hx:=rfl);clear S F;intro Ay606 cy606 W S;(try rw [← Ny606.out] at S ⊢);have F:=S.fc
 clear S0;have S0:=S.tl.tl;refine ⟨S0,?_⟩
 refine lk2 (by rfl) (by exact (Eq.refl true)) ?_;refine cl (some 13) Try.func122 (spec_l1Own.calls _ _ _ _ _ S.c S.n A3) (hargs:=by (simp only [ma_,mb_,mc_,F] <;> rfl)) (h:=?_);rintro e W ⟨v610,rfl,ho0,hb⟩;refine ⟨_,rfl,?_⟩;replace S:=S.got (atI .i64) hb ho0;obtain ⟨At609,ct609,rfl,S⟩:=S;clear F hb ho0;(try rw [← Ny606.out] at S);have F:=S.fc
 clear S0;have S0:=S.tl.tl.tl;refine ⟨S0,?_⟩
 refine lk2 (by rfl) (by exact (Eq.refl true)) ?_;refine cl (some 16) Try.func122 (spec_l1Own.calls _ _ _ _ _ S.c S.n A4) (hargs:=by (simp only [ma_,mb_,mc_,F] <;> rfl)) (h:=?_);rintro e W ⟨v613,rfl,ho0,hb⟩;refine ⟨_,rfl,?_⟩;replace S:=S.got (atI .i64) hb ho0;obtain ⟨At612,ct612,rfl,S⟩:=S;clear F hb ho0;(try rw [← Ny606.out] at S);have F:=S.fc
 clear S0;have S0:=S.tl.tl.tl.tl;refine ⟨S0,?_⟩
 repeat (first | (refine q0 (h:=?_)) | (refine q1 S0 (h:=?_)) | (refine q0n (h:=?_)) | (refine q1n S0 (h:=?_)))
 refine lk2 (by rfl) (by exact (Eq.refl true)) ?_;(first | refine sb (.agg #[_,_,_,_,_]) S sz31 ?_ | refine ro (.agg #[_,_,_,_,_]) S sz31 ?_ (ho:=rfl) (hx:=rfl) (hy:=rfl));clear S F;intro W S;(try rw [← Ny606.out] at S);have F:=S.fc
 clear S0;have S0:=S.tl.tl.tl.tl;refine ⟨S0,?_⟩
 refine oz ?_
 try clear S0
 go_wp2_with (first | ((with_reducible refine gs (t:=31) rfl (L ?_));(first | refine sb (.agg #[_,_,_,_,_]) S sz31 ?_ | refine ro (.agg #[_,_,_,_,_]) S sz31 ?_ (ho:=rfl) (hx:=rfl) (hy:=rfl));clear S F;intro W S;(try rw [← Ny606.out] at S);have F:=S.fc))
 refine bodyPost_ret (results_cell_row rfl _ _ gb602 31 #[.int .i64 a0_0,.int .i64 a0_1,.slice Ay606 y606.length cy606,.slice At609 t609.length ct609,.slice At612 t612.length ct612] (0,0) _ rfl S.hb Try.underlying31 rfl (by kernel_rfl)) rfl ?_
 exact ⟨_,_,_,(by first | rfl | (simp [e0_,e1_] <;> rfl) | (simp [*,e0_,e1_] <;> rfl)),(by first | exact S.r | exact Kd.R_nil _ _ _ _ _),(by first | exact S.rn | exact Kd.R_nil _ _ _ _ _),(by first | exact S.rn | exact Kd.R_nil _ _ _ _ _),S.below⟩

/-! ### spec_chEndOn: function 94 -/
def spec_chEndOn.l0:Nat→Int→List Int→Int→Int→Int→Int→List (S88)→Option (Int)
  | 0,_,_,_,_,_,_,_=>none
  | k + 1,x2,x12,x13,x14,x617000,x617001,x617002=>if x14 < x13 then (if 0 ≤ x14 then (if x14 < (x12.length:Int) then ((spec_flRun.f k x617000 x617001 x617002 (rd x12 x14)).bind fun bt618=>(spec_chEndOn.l0 k x2 x12 x13 (wrap64 (x14 + 1)) bt618.2.2.2.1 bt618.2.2.2.2.1 bt618.2.2.2.2.2)) else (none)) else (none)) else ((spec_flRun.f k x617000 x617001 x617002 x2).bind fun bt626=>((spec_syEnd.f x617000 x617001 x617002 bt626.1 bt626.2.1 bt626.2.2.1).bind fun t636=>(some t636)))
def spec_chEndOn.f (k:Nat) (a0_0:Int) (a0_1:Int) (l0_2:List (S88)) (l0_3:List Int) (l0_4:List Int) (a1_0:Int) (a1_1:Int) (l1_2:List (S88)) (a2:Int):Option (Int):=spec_chEndOn.l0 k a2 l0_3 (l0_3.length:Int) 0 a1_0 a1_1 l1_2
theorem spec_chEndOn.calls (k:Nat) (a0_0:Int) (a0_1:Int) (A0_2:Option Addr) (c0_2:Nat) (l0_2:List (S88)) (A0_3:Option Addr) (c0_3:Nat) (l0_3:List Int) (A0_4:Option Addr) (c0_4:Nat) (l0_4:List Int) (a1_0:Int) (a1_1:Int) (A1_2:Option Addr) (c1_2:Nat) (l1_2:List (S88)) (a2:Int) (r:Int) (w:World) (hr0_2:Kd.C k88 w A0_2 l0_2.length l0_2) (hc0_2:l0_2.length ≤ c0_2) (hr0_3:Kd.C (Kd.int .i64) w A0_3 l0_3.length l0_3) (hc0_3:l0_3.length ≤ c0_3) (hr0_4:Kd.C (Kd.int .i64) w A0_4 l0_4.length l0_4) (hc0_4:l0_4.length ≤ c0_4) (hr1_2:Kd.C k88 w A1_2 l1_2.length l1_2) (hc1_2:l1_2.length ≤ c1_2) (h:spec_chEndOn.f k a0_0 a0_1 l0_2 l0_3 l0_4 a1_0 a1_1 l1_2 a2 = some r) :
    Calls Try.prog 94 #[.agg #[.int .i64 a0_0,.int .i64 a0_1,.slice A0_2 l0_2.length c0_2,.slice A0_3 l0_3.length c0_3,.slice A0_4 l0_4.length c0_4],.agg #[.int .i64 a1_0,.int .i64 a1_1,.slice A1_2 l1_2.length c1_2],.int .i64 a2] w fun e w'=>e = .returned (.int .i64 r)∧Below w.heap.size w w':=by
 have S:=St.init (w:=w) (dc k88_heap at88 hr0_2 hc0_2 (dc (Kd.heap_int .i64) (atI .i64) hr0_3 hc0_3 (dc (Kd.heap_int .i64) (atI .i64) hr0_4 hc0_4 (dc k88_heap at88 hr1_2 hc1_2 dn))))
 clear hr0_2 hc0_2 hr0_3 hc0_3 hr0_4 hc0_4 hr1_2 hc1_2
 have F:=S.fc
 have H:=h;clear h;unfold spec_chEndOn.f at H
 go_enter Try.func94,Try.ntmps94
 go_wp2_with (first | ((with_reducible refine gd 3 rfl (L ?_));refine bo 3 (.agg #[_,_,_,_,_]) S ?_;clear S F;intro gb615 W S;have F:=S.fc) | ((with_reducible refine gd 4 rfl (L ?_));refine bo 4 (.agg #[_,_,_]) S ?_;clear S F;intro gb616 W S;have F:=S.fc) | ((with_reducible refine gs (t:=50) rfl (L ?_));(first | refine sb (.agg #[_,_,_]) S sz50 ?_ | refine ro (.agg #[_,_,_]) S sz50 ?_ (ho:=rfl) (hx:=rfl) (hy:=rfl));(clear S F;intro W S;have F:=S.fc)) | ((with_reducible refine gs (t:=127) rfl (L ?_));(first | refine sb (.agg #[_,_,_]) S sz127 ?_ | refine ro (.agg #[_,_,_]) S sz127 ?_ (ho:=rfl) (hx:=rfl) (hy:=rfl));(clear S F;intro W S;have F:=S.fc)))
 go_loopg [14] k (fun kq v14 w'=>∃ (x14_1:Int) (x617000_1:Int) (x617001_1:Int) (x617002_1:List (S88)) (Ax617002_1:Option Addr) (cx617002_1:Nat),v14 = .int .i64 x14_1∧spec_chEndOn.l0 kq a2 l0_3 (l0_3.length:Int) x14_1 x617000_1 x617001_1 x617002_1 = some r∧kq ≤ k∧St w w (fun _=>False) [bor at88 Ax617002_1 cx617002_1 x617002_1,bor at88 A0_2 c0_2 l0_2,bor (atI .i64) A0_3 c0_3 l0_3,bor (atI .i64) A0_4 c0_4 l0_4,bor at88 A1_2 c1_2 l1_2] w'  [box gb616 50 [.int .i64 x617000_1,.int .i64 x617001_1,.slice Ax617002_1 x617002_1.length cx617002_1],box gb615 31 [.int .i64 a0_0,.int .i64 a0_1,.slice A0_2 l0_2.length c0_2,.slice A0_3 l0_3.length c0_3,.slice A0_4 l0_4.length c0_4]])
 case atStart=>exact ⟨0,a1_0,a1_1,l1_2,_,_,(by first | rfl | (simp;done) | (simp [*];done) | (rw [w6_ (by omega) (by omega)])),H,Nat.le_refl _,(S.dk [3,0,1,2,3])⟩
 case round =>
  clear H S F
  obtain ⟨x14_1,x617000_1,x617001_1,x617002_1,Ax617002_1,cx617002_1,rfl,HA,HK1,S⟩:=hrel
  have F:=S.fc
  cases gk with
  | zero=>exact absurd HA (by simp [spec_chEndOn.l0])
  | succ k1 =>
   have H:=HA;clear HA;simp only [spec_chEndOn.l0,F] at H
   replace H:=sp_ H;rcases H with ⟨c8,H⟩ | ⟨c8,H⟩
   · skip
     replace H:=np_ H;obtain ⟨c9,H⟩:=H
     replace H:=np_ H;obtain ⟨c10,H⟩:=H
     replace H:=Option.bind_eq_some_iff.mp H;obtain ⟨⟨t618,t619,t620,t621,t622,t623⟩,A11,H⟩:=H;(try dsimp only at H)
     go_wp2_with (first | ((with_reducible refine gate_callee (f:=123) rfl (L ?_));refine cl (some 21) Try.func123 (spec_flRun.calls _ _ _ _ _ _ _ _ _ _ _ _ _ _ S.c S.n A11) (hargs:=by (simp only [ma_,mb_,mc_,F] <;> rfl)) (h:=?_);rintro e W ⟨v624,rfl,ho0,hb⟩;refine ⟨_,rfl,?_⟩;replace S:=S.got at88 hb ho0;obtain ⟨At623,ct623,rfl,S⟩:=S;clear F hb ho0;have F:=S.fc) | ((with_reducible refine gs (t:=50) rfl (L ?_));(first | refine sb (.agg #[_,_,_]) S sz50 ?_ | refine ro (.agg #[_,_,_]) S sz50 ?_ (ho:=rfl) (hx:=rfl) (hy:=rfl));(clear S F;intro W S;have F:=S.fc)) | ((with_reducible refine gs (t:=127) rfl (L ?_));(first | refine sb (.agg #[_,_,_]) S sz127 ?_ | refine ro (.agg #[_,_,_]) S sz127 ?_ (ho:=rfl) (hx:=rfl) (hy:=rfl));(clear S F;intro W S;have F:=S.fc)))
     go_roundg k1
     case measure=>omega
     case rel=>exact ⟨(wrap64 (x14_1 + 1)),t621,t622,t623,_,_,(by first | rfl | (simp;done) | (simp [*];done) | (rw [w6_ (by omega) (by omega)])),H,(by first | omega | exact Nat.le_refl _),((S.fzr At623 rfl).dk [0,2,3,4,5]).tl⟩
   · skip
     replace H:=Option.bind_eq_some_iff.mp H;obtain ⟨⟨t626,t627,t628,t629,t630,t631⟩,A18,H⟩:=H;(try dsimp only at H)
     replace H:=Option.bind_eq_some_iff.mp H;obtain ⟨t636,A19,H⟩:=H;(try dsimp only at H)
     obtain rfl:=Option.some.inj H
     go_wp2_with (first | ((with_reducible refine gate_callee (f:=123) rfl (L ?_));refine cl (some 28) Try.func123 (spec_flRun.calls _ _ _ _ _ _ _ _ _ _ _ _ _ _ S.c S.n A18) (hargs:=by (simp only [ma_,mb_,mc_,F] <;> rfl)) (h:=?_);rintro e W ⟨v632,rfl,ho0,hb⟩;refine ⟨_,rfl,?_⟩;replace S:=S.got at88 hb ho0;obtain ⟨At631,ct631,rfl,S⟩:=S;clear F hb ho0;have F:=S.fc) | ((with_reducible refine gd 9 rfl (L ?_));refine al 9 S zi127 ?_;clear S F;intro gb634 W S;have F:=S.fc) | ((with_reducible refine gd 10 rfl (L ?_));refine al 10 S zi50 ?_;clear S F;intro gb635 W S;have F:=S.fc) | ((with_reducible refine gate_callee (f:=124) rfl (L ?_));refine cl (some 33) Try.func124 (spec_syEnd.calls _ _ _ _ _ _ _ _ _ _ S.c S.n A19) (hargs:=by (simp only [ma_,mb_,mc_,F] <;> rfl)) (h:=?_);rintro e W ⟨rfl,hb⟩;refine ⟨_,rfl,?_⟩;replace S:=S.go hb;clear F hb;have F:=S.fc) | ((with_reducible refine gs (t:=50) rfl (L ?_));(first | refine sb (.agg #[_,_,_]) S sz50 ?_ | refine ro (.agg #[_,_,_]) S sz50 ?_ (ho:=rfl) (hx:=rfl) (hy:=rfl));(clear S F;intro W S;have F:=S.fc)) | ((with_reducible refine gs (t:=127) rfl (L ?_));(first | refine sb (.agg #[_,_,_]) S sz127 ?_ | refine ro (.agg #[_,_,_]) S sz127 ?_ (ho:=rfl) (hx:=rfl) (hy:=rfl));(clear S F;intro W S;have F:=S.fc)))
     go_ret
     exact ⟨(by first | rfl | (simp [e0_,e1_] <;> rfl) | (simp [*,e0_,e1_] <;> rfl)),S.below⟩

/-! ### spec_chAdd: function 90 -/
def spec_chAdd.f (k:Nat) (a0_0:Int) (a0_1:Int) (l0_2:List (S88)) (l0_3:List Int) (l0_4:List Int) (a1_0:Int) (a1_1:Int) (l1_2:List (S88)) (a2:Int):Option (Int × Int × (List (S88)) × List Int × List Int):=(spec_chOwn.f a0_0 a0_1 l0_2 l0_3 l0_4).bind fun bt640=>((spec_chEndOn.f k a0_0 a0_1 l0_2 l0_3 l0_4 a1_0 a1_1 l1_2 a2).bind fun t652=>(if bt640.2.2.2.2.length < 17592186044416 then (if bt640.2.2.2.1.length < 17592186044416 then (some (bt640.1,bt640.2.1,bt640.2.2.1,(bt640.2.2.2.1 ++ [a2]),(bt640.2.2.2.2 ++ [t652]))) else (none)) else (none)))
theorem spec_chAdd.calls (k:Nat) (a0_0:Int) (a0_1:Int) (A0_2:Option Addr) (c0_2:Nat) (l0_2:List (S88)) (A0_3:Option Addr) (c0_3:Nat) (l0_3:List Int) (A0_4:Option Addr) (c0_4:Nat) (l0_4:List Int) (a1_0:Int) (a1_1:Int) (A1_2:Option Addr) (c1_2:Nat) (l1_2:List (S88)) (a2:Int) (r1:Int) (r2:Int) (r3:List (S88)) (r4:List Int) (r5:List Int) (w:World) (hr0_2:Kd.C k88 w A0_2 l0_2.length l0_2) (hc0_2:l0_2.length ≤ c0_2) (hr0_3:Kd.C (Kd.int .i64) w A0_3 l0_3.length l0_3) (hc0_3:l0_3.length ≤ c0_3) (hr0_4:Kd.C (Kd.int .i64) w A0_4 l0_4.length l0_4) (hc0_4:l0_4.length ≤ c0_4) (hr1_2:Kd.C k88 w A1_2 l1_2.length l1_2) (hc1_2:l1_2.length ≤ c1_2) (h:spec_chAdd.f k a0_0 a0_1 l0_2 l0_3 l0_4 a1_0 a1_1 l1_2 a2 = some (r1,r2,r3,r4,r5)) :
    Calls Try.prog 90 #[.agg #[.int .i64 a0_0,.int .i64 a0_1,.slice A0_2 l0_2.length c0_2,.slice A0_3 l0_3.length c0_3,.slice A0_4 l0_4.length c0_4],.agg #[.int .i64 a1_0,.int .i64 a1_1,.slice A1_2 l1_2.length c1_2],.int .i64 a2] w fun e w'=>∃ v2_ v3_ v4_:Value,e = .returned (.agg #[.int .i64 r1,.int .i64 r2,v2_,v3_,v4_])∧Kd.R k88 88 w' w.heap.size (fun _=>True) v2_ r3∧Kd.R (Kd.int .i64) 3 w' w.heap.size (fun k_=>some k_ ≠ (v4_:Value).ownBlock) v3_ r4∧Kd.R (Kd.int .i64) 3 w' w.heap.size (fun k_=>some k_ ≠ (v3_:Value).ownBlock) v4_ r5∧Below w.heap.size w w':=by
 have S:=St.init (w:=w) (dc k88_heap at88 hr0_2 hc0_2 (dc (Kd.heap_int .i64) (atI .i64) hr0_3 hc0_3 (dc (Kd.heap_int .i64) (atI .i64) hr0_4 hc0_4 (dc k88_heap at88 hr1_2 hc1_2 dn))))
 clear hr0_2 hc0_2 hr0_3 hc0_3 hr0_4 hc0_4 hr1_2 hc1_2
 have F:=S.fc
 have H:=h;clear h;unfold spec_chAdd.f at H
 replace H:=Option.bind_eq_some_iff.mp H;obtain ⟨⟨t640,t641,t642,t645,t648⟩,A4,H⟩:=H;(try dsimp only at H)
 replace H:=Option.bind_eq_some_iff.mp H;obtain ⟨t652,A5,H⟩:=H;(try dsimp only at H)
 replace H:=np_ H;obtain ⟨c6,H⟩:=H
 (first | (with_reducible replace H:=ob_ H;obtain ⟨y653,hy653,H⟩:=H;(try dsimp only at H)) | (obtain ⟨y653,hy653⟩:∃ y_:List Int,y_ = (t648 ++ [t652]):=⟨_,rfl⟩;(try rw [← hy653] at H);(try simp only [Option.bind_some] at H)));have Ny653:=Aside0.mk hy653;clear hy653
 replace H:=np_ H;obtain ⟨c7,H⟩:=H
 (first | (with_reducible replace H:=ob_ H;obtain ⟨y656,hy656,H⟩:=H;(try dsimp only at H)) | (obtain ⟨y656,hy656⟩:∃ y_:List Int,y_ = (t645 ++ [a2]):=⟨_,rfl⟩;(try rw [← hy656] at H);(try simp only [Option.bind_some] at H)));have Ny656:=Aside0.mk hy656;clear hy656
 simp only [Option.some.injEq,Prod.mk.injEq] at H
 obtain ⟨rfl,rfl,rfl,rfl,rfl⟩:=H
 go_enter Try.func90,Try.ntmps90
 go_wp2_with (first | ((with_reducible refine gd 3 rfl (L ?_));refine bo 3 (.agg #[_,_,_,_,_]) S ?_;clear S F;intro gb637 W S;have F:=S.fc) | ((with_reducible refine gd 4 rfl (L ?_));refine bo 4 (.agg #[_,_,_]) S ?_;clear S F;intro gb638 W S;have F:=S.fc) | ((with_reducible refine gd 6 rfl (L ?_));refine al 6 S zi31 ?_;clear S F;intro gb639 W S;have F:=S.fc) | ((with_reducible refine gate_callee (f:=92) rfl (L ?_));refine cl (some 9) Try.func92 (spec_chOwn.calls _ _ _ _ _ _ _ _ _ _ _ _ _ _ _ _ _ S.c S.n S.c S.n S.c S.n A4) (hargs:=by (simp only [ma_,mb_,mc_,F] <;> rfl)) (h:=?_);rintro e W ⟨v643,v646,v649,rfl,ho0,ho1,ho2,hb⟩;refine ⟨_,rfl,?_⟩;replace S:=S.got3i at88 (atI .i64) (atI .i64) hb ho0 ho1 ho2 (by decide);obtain ⟨At642,ct642,At645,ct645,At648,ct648,rfl,rfl,rfl,S⟩:=S;clear F hb ho0 ho1 ho2;(try rw [← Ny653.out] at S);(try rw [← Ny656.out] at S);have F:=S.fc) | ((with_reducible refine gd 7 rfl (L ?_));refine al 7 S zi31 ?_;clear S F;intro gb651 W S;have F:=S.fc) | ((with_reducible refine gs (t:=23) rfl (L ?_));(first | refine sb (.slice _ _ _) S sz23 ?_ | refine ro (.slice _ _ _) S sz23 ?_ (ho:=rfl) (hx:=rfl) (hy:=rfl));clear S F;intro W S;(try rw [← Ny653.out] at S);(try rw [← Ny656.out] at S);have F:=S.fc) | ((with_reducible refine gs (t:=31) rfl (L ?_));(first | refine sb (.agg #[_,_,_,_,_]) S sz31 ?_ | refine ro (.agg #[_,_,_,_,_]) S sz31 ?_ (ho:=rfl) (hx:=rfl) (hy:=rfl));clear S F;intro W S;(try rw [← Ny653.out] at S);(try rw [← Ny656.out] at S);have F:=S.fc))
 refine rgP S (fun _ S=>(S.ms [1,0])) [(0,0),(0,4),(1,1),(1,2),(1,3),(2,5),(2,6),(2,7),(0,8),(3,9)] [9] (by kernel_rfl) (by kernel_rfl) (fun _ d _ _ _ h=>by cases d <;> exact h) ?_;clear S F;intro W S;have S0:=(S.ms [1,0]);have F:=S.fc
 repeat (first | (refine q0 (h:=?_)) | (refine q1 S0 (h:=?_)) | (refine q0n (h:=?_)) | (refine q1n S0 (h:=?_)))
 refine lk2 (by rfl) (by exact (Eq.refl true)) ?_;refine cl (some 15) Try.func94 (spec_chEndOn.calls _ _ _ _ _ _ _ _ _ _ _ _ _ _ _ _ _ _ _ _ S.c S.n S.c S.n S.c S.n S.c S.n A5) (hargs:=by (simp only [ma_,mb_,mc_,F] <;> rfl)) (h:=?_);rintro e W ⟨rfl,hb⟩;refine ⟨_,rfl,?_⟩;replace S:=S.go hb;clear F hb;have F:=S.fc
 clear S0;have S0:=(S.ms [1,0]);refine ⟨S0,?_⟩
 refine lk2 (by rfl) (by exact (Eq.refl true)) ?_;refine lv 16 (cs:=[.int .i64 t652]) (e:=3) (by first | (go_simp;done) | (go_simp;rfl)) ?_
 clear S0;have S0:=St.al1 (S.ms [1,0]) (.cells (List.toArray [.int .i64 t652]) 3);refine ⟨S0,?_⟩
 refine lk2 (by rfl) (by exact (Eq.refl true)) ?_;refine apa (A:=At648) 17 S Try.underlying23 info3 ?_ (ho:=rfl) (hs:=rfl) (hx:=rfl);clear S F;intro Ay653 cy653 W S;(try rw [← Ny653.out] at S ⊢);(try rw [← Ny656.out] at S ⊢);have F:=S.fc
 clear S0;have S0:=(S.ms [1,0]);refine ⟨S0,?_⟩
 repeat (first | (refine q0 (h:=?_)) | (refine q1 S0 (h:=?_)) | (refine q0n (h:=?_)) | (refine q1n S0 (h:=?_)))
 refine lk3 (by rfl) (by exact (Eq.refl true)) ?_;(first | refine sb (.slice _ _ _) S sz23 ?_ | refine ro (.slice _ _ _) S sz23 ?_ (ho:=rfl) (hx:=rfl) (hy:=rfl) | refine sb (.agg #[_,_,_,_,_]) S sz31 ?_ | refine ro (.agg #[_,_,_,_,_]) S sz31 ?_ (ho:=rfl) (hx:=rfl) (hy:=rfl));clear S F;intro W S;(try rw [← Ny653.out] at S);(try rw [← Ny656.out] at S);have F:=S.fc
 refine oz ?_
 try clear S0
 go_wp2_with (first | ((with_reducible refine gd 23 rfl (L ?_));refine apa (A:=At645) 23 S Try.underlying23 info3 ?_ (ho:=rfl) (hs:=rfl) (hx:=rfl);clear S F;intro Ay656 cy656 W S;(try rw [← Ny653.out] at S ⊢);(try rw [← Ny656.out] at S ⊢);have F:=S.fc) | ((with_reducible refine gs (t:=23) rfl (L ?_));(first | refine sb (.slice _ _ _) S sz23 ?_ | refine ro (.slice _ _ _) S sz23 ?_ (ho:=rfl) (hx:=rfl) (hy:=rfl));clear S F;intro W S;(try rw [← Ny653.out] at S);(try rw [← Ny656.out] at S);have F:=S.fc) | ((with_reducible refine gs (t:=31) rfl (L ?_));(first | refine sb (.agg #[_,_,_,_,_]) S sz31 ?_ | refine ro (.agg #[_,_,_,_,_]) S sz31 ?_ (ho:=rfl) (hx:=rfl) (hy:=rfl));clear S F;intro W S;(try rw [← Ny653.out] at S);(try rw [← Ny656.out] at S);have F:=S.fc))
 refine bodyPost_ret (results_cell_row rfl _ _ gb639 31 #[.int .i64 t640,.int .i64 t641,.slice At642 t642.length ct642,.slice Ay656 y656.length cy656,.slice Ay653 y653.length cy653] (0,0) _ rfl S.hb Try.underlying31 rfl (by kernel_rfl)) rfl ?_
 exact ⟨_,_,_,(by first | rfl | (simp [e0_,e1_] <;> rfl) | (simp [*,e0_,e1_] <;> rfl)),(by first | exact S.r | exact Kd.R_nil _ _ _ _ _),(by first | exact S.rn | exact Kd.R_nil _ _ _ _ _),(by first | exact S.rn | exact Kd.R_nil _ _ _ _ _),S.below⟩

/-! ### spec_chStill: function 93 -/
def spec_chStill.l0:Nat→List (S50)→Int→Int→List (S50)→Int→Int→Int→Int→List (S88)→List Int→List Int→Option ((List (S50)))
  | 0,_,_,_,_,_,_,_,_,_,_,_=>none
  | k + 1,x1,x2,x3,x9,x13,x14,x660000,x660001,x660002,x660003,x660004=>if x14 < x13 then (if 0 ≤ x14 then (if x14 < (x1.length:Int) then ((spec_chEndOn.f k x660000 x660001 x660002 x660003 x660004 ((rd_T50 x1 x14).f0) ((rd_T50 x1 x14).f1) ((rd_T50 x1 x14).f2) x2).bind fun t662=>(if t662 = x3 then (if x9.length < 3518437208883 then (spec_chStill.l0 k x1 x2 x3 (x9 ++ [(⟨(rd_T50 x1 x14).f0,(rd_T50 x1 x14).f1,(rd_T50 x1 x14).f2⟩:S50)]) x13 (wrap64 (x14 + 1)) x660000 x660001 x660002 x660003 x660004) else (none)) else (spec_chStill.l0 k x1 x2 x3 x9 x13 (wrap64 (x14 + 1)) x660000 x660001 x660002 x660003 x660004))) else (none)) else (none)) else (some x9)
def spec_chStill.f (k:Nat) (a0_0:Int) (a0_1:Int) (l0_2:List (S88)) (l0_3:List Int) (l0_4:List Int) (l1:List (S50)) (a2:Int) (a3:Int):Option ((List (S50))):=spec_chStill.l0 k l1 a2 a3 ([]:List (S50)) (l1.length:Int) 0 a0_0 a0_1 l0_2 l0_3 l0_4
/-- A board's three cells, as they stand. -/
def spec_chStill.kB:Kd (Int × Int × (Option Addr × Nat × Nat)):=Kd.pair (Kd.int .i64) (Kd.pair (Kd.int .i64) (Kd.scalar (fun p:Option Addr × Nat × Nat=>Value.slice p.1 p.2.1 p.2.2) (fun _=>rfl)))
/-- What cells say of boards. -/
def spec_chStill.brs (ys:List (Int × Int × (Option Addr × Nat × Nat))) (xs:List S50) (W:World):Prop:=ys.length = xs.length∧∀ (j:Nat) (y:Int × Int × (Option Addr × Nat × Nat)) (x:S50),ys[j]? = some y→xs[j]? = some x→y.1 = x.f0∧y.2.1 = x.f1∧y.2.2.2.1 = x.f2.length∧x.f2.length ≤ y.2.2.2.2∧k88.C W y.2.2.1 x.f2.length x.f2
instance {ys:List (Int × Int × (Option Addr × Nat × Nat))} {xs:List S50} {D:List (World→Prop)} {w:World} {p:Prop} [h:Fy D w p]:Fy (spec_chStill.brs ys xs :: D) w p:=⟨fun k=>h.out k.2⟩
instance {a b:Int} {A:Option Addr} {n c:Nat}:MkM spec_chStill.kB [.int .i64 a,.int .i64 b,.slice A n c] (a,b,A,n,c):=⟨fun _ _=>⟨[.int .i64 a],[.int .i64 b,.slice A n c],rfl,rfl,⟨[.int .i64 b],[.slice A n c],rfl,rfl,rfl⟩⟩⟩
theorem spec_chStill.snoc {ys:List (Int × Int × (Option Addr × Nat × Nat))} {xs:List S50} {W:World} (h:spec_chStill.brs ys xs W) (x:S50) {A:Option Addr} {c:Nat} (hc:x.f2.length ≤ c) (hC:k88.C W A x.f2.length x.f2):spec_chStill.brs (ys ++ [(x.f0,x.f1,A,x.f2.length,c)]) (xs ++ [x]) W:=by
 refine ⟨by simp [h.1],fun j y z hy hz=>?_⟩
 by_cases hj:j < ys.length
 · rw [List.getElem?_append_left hj] at hy
   rw [List.getElem?_append_left (by have:=h.1;omega)] at hz
   exact h.2 j y z hy hz
 · rw [List.getElem?_append_right (by omega)] at hy
   rw [List.getElem?_append_right (by have:=h.1;omega)] at hz
   have e0:j - ys.length = 0:=by
    by_cases e:j - ys.length = 0
    · exact e
    · rw [List.getElem?_eq_none (by simp;omega)] at hy;cases hy
   have e1:j - xs.length = 0:=by have:=h.1;omega
   rw [e0] at hy;rw [e1] at hz
   cases hy;cases hz
   exact ⟨rfl,rfl,rfl,hc,hC⟩
theorem spec_chStill.bor_of {ys:List (Int × Int × (Option Addr × Nat × Nat))} {xs:List S50} {W:World} {A:Option Addr} {c:Nat} (h:spec_chStill.brs ys xs W) (hb:bor (atU (d:=spec_chStill.kB)) A c ys W):bor (atU (d:=k50)) A c xs W:=by
 have hl:=h.1
 refine bor_C (atU (d:=k50)) ?_ (by have:=hb.2.1;omega)
 obtain ⟨h1,h2,h3⟩:=hb.2.2.2
 refine ⟨rfl,by omega,fun hn=>?_⟩
 obtain ⟨ad,e,hc⟩:=h3 (by omega)
 refine ⟨ad,e,fun j p hp=>?_⟩
 have hj:j < ys.length:=by have:=(List.getElem?_eq_some_iff.1 hp).1;omega
 obtain ⟨cs,hs,hr,hcell⟩:=hc j _ (List.getElem?_eq_getElem hj)
 obtain ⟨q1,q2,q3,q4,q5⟩:=h.2 j _ p (List.getElem?_eq_getElem hj) hp
 obtain ⟨_,_,rfl,e1,⟨_,_,rfl,e2,e3⟩⟩:=hr
 cases e1;cases e2;cases e3
 refine ⟨_,hs,?_,hcell⟩
 dsimp only [List.cons_append,List.nil_append]
 rw [q1,q2,q3]
 exact k50_mk W p q4 q5
theorem spec_chStill.calls (k:Nat) (a0_0:Int) (a0_1:Int) (A0_2:Option Addr) (c0_2:Nat) (l0_2:List (S88)) (A0_3:Option Addr) (c0_3:Nat) (l0_3:List Int) (A0_4:Option Addr) (c0_4:Nat) (l0_4:List Int) (A1:Option Addr) (c1:Nat) (l1:List (S50)) (a2:Int) (a3:Int) (r:List (S50)) (P_:Nat→Prop) (w:World) (hr0_2:Kd.C k88 w A0_2 l0_2.length l0_2) (hc0_2:l0_2.length ≤ c0_2) (hr0_3:Kd.C (Kd.int .i64) w A0_3 l0_3.length l0_3) (hc0_3:l0_3.length ≤ c0_3) (hr0_4:Kd.C (Kd.int .i64) w A0_4 l0_4.length l0_4) (hc0_4:l0_4.length ≤ c0_4) (hs1:Vr k50 w P_ A1 c1 l1) (h:spec_chStill.f k a0_0 a0_1 l0_2 l0_3 l0_4 l1 a2 a3 = some r) :
    Calls Try.prog 93 #[.agg #[.int .i64 a0_0,.int .i64 a0_1,.slice A0_2 l0_2.length c0_2,.slice A0_3 l0_3.length c0_3,.slice A0_4 l0_4.length c0_4],.slice A1 l1.length c1,.int .i64 a2,.int .i64 a3] w fun e w'=>∃ (A0_:Option Addr) (c0_:Nat),e = .returned (.slice A0_ r.length c0_)∧Vr k50 w' (fun k_=>P_ k_∨w.heap.size ≤ k_) A0_ c0_ r∧Below w.heap.size w w':=by
 have S:=St.initV (vc (atU (d:=k50)) hs1 vn)
 clear hs1
 have F:=S.fc
 have H:=h;clear h;unfold spec_chStill.f at H
 go_enter Try.func93,Try.ntmps93
 go_wp2_with (first | ((with_reducible refine gd 4 rfl (L ?_));refine bo 4 (.agg #[_,_,_,_,_]) S ?_;clear S F;intro gb W S;have F:=S.fc))
 replace S:=S.ex [spec_chStill.brs [] []] (fun z hz q hq=>by
  rw [List.mem_singleton] at hq;subst hq
  exact fun W hs hW=>⟨rfl,fun j y x hy=>by simp at hy⟩)
 go_loopg [9,14] k (fun kq v9 v14 w'=>∃ (ys:List (Int × Int × (Option Addr × Nat × Nat))) (o:List S50) (i:Int) (A9:Option Addr) (c9:Nat),v14 = .int .i64 i∧v9 = .slice A9 ys.length c9∧Aside0 (ys.length = o.length)∧spec_chStill.l0 kq l1 a2 a3 o (l1.length:Int) i a0_0 a0_1 l0_2 l0_3 l0_4 = some r∧kq ≤ k∧St w w (fun k=>¬ P_ k) [spec_chStill.brs ys o,bor (atU (d:=k50)) A1 c1 l1] w' [row (atU (d:=spec_chStill.kB)) 50 A9 ys.length c9 ys,box gb 31 [.int .i64 a0_0,.int .i64 a0_1,.slice A0_2 l0_2.length c0_2,.slice A0_3 l0_3.length c0_3,.slice A0_4 l0_4.length c0_4]])
 case atStart=>exact ⟨[],[],0,none,0,(by first | rfl | (simp;done) | (simp [*];done) | (rw [w6_ (by omega) (by omega)])),rfl,⟨rfl⟩,H,Nat.le_refl _,(S.nl (e:=50) (atU (d:=spec_chStill.kB)))⟩
 case round =>
  clear H S F
  obtain ⟨ys,o,i,A9,c9,rfl,rfl,Hl,HA,HK1,S⟩:=hrel
  have F:=S.fc
  cases gk with
  | zero=>exact absurd HA (by simp [spec_chStill.l0])
  | succ k1 =>
   have H:=HA;clear HA;simp only [spec_chStill.l0] at H
   replace H:=sp_ H;rcases H with ⟨c7,H⟩ | ⟨c7,H⟩
   · skip
     replace H:=np_ H;obtain ⟨c8,H⟩:=H
     replace H:=np_ H;obtain ⟨c9',H⟩:=H
     replace H:=Option.bind_eq_some_iff.mp H;obtain ⟨t662,A10,H⟩:=H;(try dsimp only at H)
     obtain ⟨A7,c7_,S⟩:=inn50 S l1 at88 i;clear F;have F:=S.fc
     replace H:=sp_ H;rcases H with ⟨c12,H⟩ | ⟨c12,H⟩
     · skip
       replace H:=np_ H;obtain ⟨c13,H⟩:=H
       have c13':ys.length < 3518437208883:=by rw [Hl.out];exact c13
       go_wp2_with (first | ((with_reducible refine gd 11 rfl (L ?_));refine al 11 S zi50 ?_;clear S F;intro gy W S;have F:=S.fc) | ((with_reducible refine gs (t:=50) rfl (L ?_));(first | refine sb (.agg #[_,_,_]) S sz50 ?_ | refine ro (.agg #[_,_,_]) S sz50 ?_ (ho:=rfl) (hx:=rfl) (hy:=rfl));(clear S F;intro W S;have F:=S.fc)) | ((with_reducible refine gate_callee (f:=94) rfl (L ?_));refine cl (some 21) Try.func94 (spec_chEndOn.calls _ _ _ _ _ _ _ _ _ _ _ _ _ _ _ _ _ _ _ _ (Kd.C_below hr0_2 S.below) hc0_2 (Kd.C_below hr0_3 S.below) hc0_3 (Kd.C_below hr0_4 S.below) hc0_4 S.c S.n A10) (hargs:=by (simp only [ma_,mb_,mc_,F] <;> rfl)) (h:=?_);rintro e W ⟨rfl,hb⟩;refine ⟨_,rfl,?_⟩;replace S:=S.go hb;clear F hb;have F:=S.fc) | ((with_reducible refine gd 27 rfl (L ?_));refine apa (A:=A9) 27 S Try.underlying85 info50 ?_ (ho:=rfl) (hs:=rfl) (hx:=rfl);clear S F;intro Az cz W S;have F:=S.fc))
       obtain ⟨y2,hy2⟩:∃ y2,y2 = ys ++ [((rd_T50 l1 i).f0,(rd_T50 l1 i).f1,A7,(rd_T50 l1 i).f2.length,c7_)]:=⟨_,rfl⟩
       rw [← hy2] at S
       replace S:=S.ex [spec_chStill.brs y2 (o ++ [rd_T50 l1 i])] (fun z hz q hq=>by
        rw [List.mem_singleton] at hq;subst hq
        intro W hs hW
        have q1:=hz (spec_chStill.brs ys o) (by simp) W hs hW
        have q2:=hz (bor at88 A7 c7_ (rd_T50 l1 i).f2) (by simp) W hs hW
        rw [hy2]
        exact spec_chStill.snoc q1 (rd_T50 l1 i) q2.2.1 q2.2.2.2)
       simp only [List.cons_append,List.nil_append] at S
       go_roundg k1
       case measure=>omega
       case rel=>exact ⟨y2,(o ++ [rd_T50 l1 i]),(wrap64 (i + 1)),Az,cz,(by first | rfl | (simp;done) | (simp [*];done) | (rw [w6_ (by omega) (by omega)])),(by rw [hy2,List.length_append];rfl),⟨by have:=Hl.out;rw [hy2];simp;omega⟩,H,(by first | omega | exact Nat.le_refl _),(S.dk [0,6]).tl⟩
     · skip
       go_wp2_with (first | ((with_reducible refine gd 11 rfl (L ?_));refine al 11 S zi50 ?_;clear S F;intro gy W S;have F:=S.fc) | ((with_reducible refine gs (t:=50) rfl (L ?_));(first | refine sb (.agg #[_,_,_]) S sz50 ?_ | refine ro (.agg #[_,_,_]) S sz50 ?_ (ho:=rfl) (hx:=rfl) (hy:=rfl));(clear S F;intro W S;have F:=S.fc)) | ((with_reducible refine gate_callee (f:=94) rfl (L ?_));refine cl (some 21) Try.func94 (spec_chEndOn.calls _ _ _ _ _ _ _ _ _ _ _ _ _ _ _ _ _ _ _ _ (Kd.C_below hr0_2 S.below) hc0_2 (Kd.C_below hr0_3 S.below) hc0_3 (Kd.C_below hr0_4 S.below) hc0_4 S.c S.n A10) (hargs:=by (simp only [ma_,mb_,mc_,F] <;> rfl)) (h:=?_);rintro e W ⟨rfl,hb⟩;refine ⟨_,rfl,?_⟩;replace S:=S.go hb;clear F hb;have F:=S.fc))
       go_roundg k1
       case measure=>omega
       case rel=>exact ⟨ys,o,(wrap64 (i + 1)),_,_,(by first | rfl | (simp;done) | (simp [*];done) | (rw [w6_ (by omega) (by omega)])),rfl,Hl,H,(by first | omega | exact Nat.le_refl _),(S.dk [4,5]).tl⟩
   · skip
     obtain rfl:=Option.some.inj H
     go_wp2
     replace S:=S.fzr A9 rfl
     replace S:=S.ex [bor (atU (d:=k50)) A9 c9 o] (fun z hz q hq=>by
      rw [List.mem_singleton] at hq;subst hq
      exact fun W hs hW=>spec_chStill.bor_of (hz (spec_chStill.brs ys o) (by simp) W hs hW) (hz (bor (atU (d:=spec_chStill.kB)) A9 c9 ys) (by simp) W hs hW))
     simp only [List.cons_append,List.nil_append] at S
     go_ret
     exact ⟨A9,c9,(by rw [← Hl.out];first | done | first | rfl | (simp [e0_,e1_] <;> rfl) | (simp [*,e0_,e1_] <;> rfl)),S.v,S.below⟩

/-! ### spec_SharpenChallenge: function 56 -/
mutual
def spec_SharpenChallenge.l0:Nat→List (S50)→Int→Int→List (S88)→List Int→List Int→Int→Int→List (S88)→List Int→List Int→Option (Int × Int × (List (S88)) × List Int × List Int × Bool)
  | 0,_,_,_,_,_,_,_,_,_,_,_=>none
  | k + 1,x5,x667000,x667001,x667002,x667003,x667004,x684000,x684001,x684002,x684003,x684004=>if (x5.length:Int) > 1 then (spec_SharpenChallenge.j1 k x5 (decide ((x684003.length:Int) < 8)) x667000 x667001 x667002 x667003 x667004 x684000 x684001 x684002 x684003 x684004) else (spec_SharpenChallenge.j1 k x5 false x667000 x667001 x667002 x667003 x667004 x684000 x684001 x684002 x684003 x684004)
def spec_SharpenChallenge.j1:Nat→List (S50)→Bool→Int→Int→List (S88)→List Int→List Int→Int→Int→List (S88)→List Int→List Int→Option (Int × Int × (List (S88)) × List Int × List Int × Bool)
  | 0,_,_,_,_,_,_,_,_,_,_,_,_=>none
  | k + 1,x5,x30,x667000,x667001,x667002,x667003,x667004,x684000,x684001,x684002,x684003,x684004=>if x30 = true then (spec_SharpenChallenge.l1 k x5 (-1) x5 0 x667000 x667001 x667002 x667003 x667004 x684000 x684001 x684002 x684003 x684004) else (some (x684000,x684001,x684002,x684003,x684004,true))
def spec_SharpenChallenge.l1:Nat→List (S50)→Int→List (S50)→Int→Int→Int→List (S88)→List Int→List Int→Int→Int→List (S88)→List Int→List Int→Option (Int × Int × (List (S88)) × List Int × List Int × Bool)
  | 0,_,_,_,_,_,_,_,_,_,_,_,_,_,_=>none
  | k + 1,x5,x6,x7,x8,x667000,x667001,x667002,x667003,x667004,x684000,x684001,x684002,x684003,x684004=>if x8 < x667001 then ((spec_chSmallest.f k x5).bind fun bt684=>((spec_chEndOn.f k x684000 x684001 x684002 x684003 x684004 bt684.1 bt684.2.1 bt684.2.2 x8).bind fun t689=>((spec_chStill.f k x684000 x684001 x684002 x684003 x684004 x5 x8 t689).bind fun t690=>(if (t690.length:Int) < (x7.length:Int) then (spec_SharpenChallenge.l1 k x5 x8 t690 (wrap64 (x8 + 1)) x667000 x667001 x667002 x667003 x667004 x684000 x684001 x684002 x684003 x684004) else (spec_SharpenChallenge.l1 k x5 x6 x7 (wrap64 (x8 + 1)) x667000 x667001 x667002 x667003 x667004 x684000 x684001 x684002 x684003 x684004))))) else (if x6 < 0 then (some (x684000,x684001,x684002,x684003,x684004,true)) else ((spec_chSmallest.f k x5).bind fun bt693=>((spec_chAdd.f k x684000 x684001 x684002 x684003 x684004 bt693.1 bt693.2.1 bt693.2.2 x6).bind fun bt698=>(spec_SharpenChallenge.l0 k x7 x667000 x667001 x667002 x667003 x667004 bt698.1 bt698.2.1 bt698.2.2.1 bt698.2.2.2.1 bt698.2.2.2.2))))
end
def spec_SharpenChallenge.f (k:Nat) (a0_0:Int) (a0_1:Int) (l0_2:List (S88)) (l0_3:List Int) (l0_4:List Int):Option (Int × Int × (List (S88)) × List Int × List Int × Bool):=(spec_chGood.f k a0_0 a0_1 l0_2 l0_3 l0_4).bind fun t668=>(if t668 = true then ((spec_chOwn.f a0_0 a0_1 l0_2 l0_3 l0_4).bind fun bt669=>((spec_chSolutions.f k a0_0 a0_1 l0_2 l0_3 l0_4).bind fun t680=>(if (t680.length:Int) = 0 then (some (0,0,([]:List (S88)),([]:List Int),([]:List Int),false)) else (spec_SharpenChallenge.l0 k t680 a0_0 a0_1 l0_2 l0_3 l0_4 bt669.1 bt669.2.1 bt669.2.2.1 bt669.2.2.2.1 bt669.2.2.2.2)))) else (some (0,0,([]:List (S88)),([]:List Int),([]:List Int),false)))
theorem spec_SharpenChallenge.calls (k:Nat) (a0_0:Int) (a0_1:Int) (A0_2:Option Addr) (c0_2:Nat) (l0_2:List (S88)) (A0_3:Option Addr) (c0_3:Nat) (l0_3:List Int) (A0_4:Option Addr) (c0_4:Nat) (l0_4:List Int) (r1:Int) (r2:Int) (r3:List (S88)) (r4:List Int) (r5:List Int) (r6:Bool) (w:World) (hr0_2:Kd.C k88 w A0_2 l0_2.length l0_2) (hc0_2:l0_2.length ≤ c0_2) (hr0_3:Kd.C (Kd.int .i64) w A0_3 l0_3.length l0_3) (hc0_3:l0_3.length ≤ c0_3) (hr0_4:Kd.C (Kd.int .i64) w A0_4 l0_4.length l0_4) (hc0_4:l0_4.length ≤ c0_4) (h:spec_SharpenChallenge.f k a0_0 a0_1 l0_2 l0_3 l0_4 = some (r1,r2,r3,r4,r5,r6)) :
    Calls Try.prog 56 #[.agg #[.int .i64 a0_0,.int .i64 a0_1,.slice A0_2 l0_2.length c0_2,.slice A0_3 l0_3.length c0_3,.slice A0_4 l0_4.length c0_4]] w fun e w'=>∃ v2_ v3_ v4_:Value,e = .returned (.tuple #[.agg #[.int .i64 r1,.int .i64 r2,v2_,v3_,v4_],.bool r6])∧Kd.R k88 88 w' w.heap.size (fun _=>True) v2_ r3∧Kd.R (Kd.int .i64) 3 w' w.heap.size (fun k_=>some k_ ≠ (v4_:Value).ownBlock) v3_ r4∧Kd.R (Kd.int .i64) 3 w' w.heap.size (fun k_=>some k_ ≠ (v3_:Value).ownBlock) v4_ r5∧Below w.heap.size w w':=by
 have S:=St.init (w:=w) (dc k88_heap at88 hr0_2 hc0_2 (dc (Kd.heap_int .i64) (atI .i64) hr0_3 hc0_3 (dc (Kd.heap_int .i64) (atI .i64) hr0_4 hc0_4 dn)))
 clear hr0_2 hc0_2 hr0_3 hc0_3 hr0_4 hc0_4
 have F:=S.fc
 have H:=h;clear h;unfold spec_SharpenChallenge.f at H
 replace H:=Option.bind_eq_some_iff.mp H;obtain ⟨t668,A2,H⟩:=H;(try dsimp only at H)
 go_enter Try.func56,Try.ntmps56
 replace H:=sp_ H;rcases H with ⟨c3,H⟩ | ⟨c3,H⟩
 · skip
   subst c3
   replace H:=Option.bind_eq_some_iff.mp H;obtain ⟨⟨t1,t2,t3,t4,t5⟩,A4,H⟩:=H;(try dsimp only at H)
   replace H:=Option.bind_eq_some_iff.mp H;obtain ⟨ls,A5,H⟩:=H;(try dsimp only at H)
   go_wp2_with (first | ((with_reducible refine gd 1 rfl (L ?_));refine bo 1 (.agg #[_,_,_,_,_]) S ?_;clear S F;intro gb W S;have F:=S.fc) | ((with_reducible refine gd 2 rfl (L ?_));refine al 2 S zi31 ?_;clear S F;intro gz W S;have F:=S.fc) | ((with_reducible refine gate_callee (f:=73) rfl (L ?_));refine cl (some 11) Try.func73 (spec_chGood.calls _ _ _ _ _ _ _ _ _ _ _ _ _ _ S.c S.n S.c S.n S.c S.n A2) (hargs:=by (simp only [ma_,mb_,mc_,F] <;> rfl)) (h:=?_);rintro e W ⟨rfl,hb⟩;refine ⟨_,rfl,?_⟩;replace S:=S.go hb;clear F hb;have F:=S.fc) | ((with_reducible refine gs (t:=31) rfl (L ?_));(first | refine sb (.agg #[_,_,_,_,_]) S sz31 ?_ | refine ro (.agg #[_,_,_,_,_]) S sz31 ?_ (ho:=rfl) (hx:=rfl) (hy:=rfl));(clear S F;intro W S;have F:=S.fc)))
   refine rgF S (fun _ S=>S) (fkc 4 4 zi31 fk0) [(1,0),(1,2),(2,1),(2,3)] [(3,5),(0,6)] [5] (id:=3) (h:=?_);clear S F;intro W S;have S0:=S;have F:=S.fc
   repeat (first | (refine f0 (h:=?_)) | (refine f1 S0 (h:=?_)) | (refine f0n (h:=?_)) | (refine f1n S0 (h:=?_)))
   refine fe2 S (by rfl) ?_;intro x4_ X W S;simp only [List.cons_append,List.nil_append,putF,Act.put,za_,zb_,zc_] at S ⊢;clear F;have F:=S.fc;refine ⟨rfl,?_⟩;refine cl (some 15) Try.func92 (spec_chOwn.calls _ _ _ _ _ _ _ _ _ _ _ _ _ _ _ _ _ S.c S.n S.c S.n S.c S.n A4) (hargs:=by (simp only [ma_,mb_,mc_,F] <;> rfl)) (h:=?_);rintro e W ⟨v1,v2,v3,rfl,ho0,ho1,ho2,hb⟩;refine ⟨_,rfl,?_⟩;replace S:=S.got3i at88 (atI .i64) (atI .i64) hb ho0 ho1 ho2 (by decide);obtain ⟨B2,b2,B3,b3,B4,b4,rfl,rfl,rfl,S⟩:=S;clear F hb ho0 ho1 ho2;have F:=S.fc
   clear S0;have S0:=(S.nx X).tl.tl.tl;refine ⟨S0,?_⟩
   repeat (first | (refine f0 (h:=?_)) | (refine f1 S0 (h:=?_)) | (refine f0n (h:=?_)) | (refine f1n S0 (h:=?_)))
   refine fe2 S (by rfl) ?_;intro x4_ X W S;simp only [List.cons_append,List.nil_append,putF,Act.put,za_,zb_,zc_] at S ⊢;clear F;have F:=S.fc;refine ⟨rfl,?_⟩;refine cl (some 17) Try.func74 (spec_chSolutions.calls _ _ _ _ _ _ _ _ _ _ _ _ _ _ S.c S.n S.c S.n S.c S.n A5) (hargs:=by (simp only [ma_,mb_,mc_,F] <;> rfl)) (h:=?_);rintro e W ⟨v1,rfl,ho0,hb⟩;refine ⟨_,rfl,?_⟩;replace S:=S.got (atU (d:=k50)) hb ho0;obtain ⟨At,ct,rfl,S⟩:=S;clear F hb ho0;have F:=S.fc
   clear S0;have S0:=(S.nx X).tl.tl.tl.tl;refine ⟨S0,?_⟩
   repeat (first | (refine f0 (h:=?_)) | (refine f1 S0 (h:=?_)) | (refine f0n (h:=?_)) | (refine f1n S0 (h:=?_)))
   refine fz S ?_;intro gq W S;simp only [bxs,fbox,ptr,List.map_cons,List.map_nil,List.cons_append,List.nil_append,putF,Act.put,za_,zb_,zc_] at S ⊢;clear F S0;have S0:=S.tl.tl.tl.tl.tl;have F:=S.fc
   refine lk3 (by rfl) (by exact (Eq.refl true)) ?_;refine sb (.agg #[_,_,_,_,_]) S sz31 ?_;(clear S F;intro W S;have F:=S.fc)
   repeat (first | (refine q0 (h:=?_)) | (refine q1 S0 (h:=?_)) | (refine q0n (h:=?_)) | (refine q1n S0 (h:=?_)))
   refine oz ?_
   try clear S0
   replace S:=S.fzr At rfl
   clear F;have F:=S.fc
   replace H:=sp_ H;rcases H with ⟨c5,H⟩ | ⟨c5,H⟩
   · skip
     replace c5:=ceq c5
     simp only [Option.some.injEq,Prod.mk.injEq] at H
     obtain ⟨rfl,rfl,rfl,rfl,rfl,rfl⟩:=H
     go_wp2_with (first | ((with_reducible refine gs (t:=31) rfl (L ?_));(first | refine sb (.agg #[_,_,_,_,_]) S sz31 ?_ | refine ro (.agg #[_,_,_,_,_]) S sz31 ?_ (ho:=rfl) (hx:=rfl) (hy:=rfl));(clear S F;intro W S;have F:=S.fc)))
     refine bodyPost_ret (results_ct rfl _ _ gz 31 #[.int .i64 0,.int .i64 0,.slice none 0 0,.slice none 0 0,.slice none 0 0] (0,0) _ rfl S.hb Try.underlying31 rfl (by kernel_rfl)) rfl ?_
     exact ⟨_,_,_,(by first | rfl | (simp [e0_,e1_] <;> rfl) | (simp [*,e0_,e1_] <;> rfl)),(by first | exact S.r | exact Kd.R_nil _ _ _ _ _),(by first | exact S.rn | exact Kd.R_nil _ _ _ _ _),(by first | exact S.rn | exact Kd.R_nil _ _ _ _ _),S.below⟩
   · skip
     replace c5:=cne c5
     go_wp2
     go_loopg [5] k (fun kq v5 w'=>∃ (ls:List S50) (f0 f1:Int) (f2:List S88) (f3 f4:List Int) (Al:Option Addr) (kl:Nat) (B2:Option Addr) (b2:Nat) (B3:Option Addr) (b3:Nat) (B4:Option Addr) (b4:Nat),v5 = .slice Al ls.length kl∧spec_SharpenChallenge.l0 kq ls a0_0 a0_1 l0_2 l0_3 l0_4 f0 f1 f2 f3 f4 = some (r1,r2,r3,r4,r5,r6)∧kq ≤ k∧St w w (fun _=>False) [bor (atU (d:=k50)) Al kl ls] w' [box gq 31 [.int .i64 f0,.int .i64 f1,.slice B2 f2.length b2,.slice B3 f3.length b3,.slice B4 f4.length b4],row (atI .i64) 3 B4 f4.length b4 f4,row (atI .i64) 3 B3 f3.length b3 f3,row at88 88 B2 f2.length b2 f2,box gz 31 [.int .i64 0,.int .i64 0,.slice none 0 0,.slice none 0 0,.slice none 0 0],box gb 31 [.int .i64 a0_0,.int .i64 a0_1,.slice A0_2 l0_2.length c0_2,.slice A0_3 l0_3.length c0_3,.slice A0_4 l0_4.length c0_4]])
     case atStart=>exact ⟨ls,t1,t2,t3,t4,t5,At,ct,_,_,_,_,_,_,(by first | rfl | (simp;done) | (simp [*];done) | (rw [w6_ (by omega) (by omega)])),H,Nat.le_refl _,((S.dk [0]).pm [0,2,3,4,5,6])⟩
     case round =>
      clear H S F A2 A4 A5 c5
      obtain ⟨ls,f0,f1,f2,f3,f4,Al,kl,B2,b2,B3,b3,B4,b4,rfl,HA,HK1,S⟩:=hrel
      have F:=S.fc
      cases gk with
      | zero=>exact absurd HA (by simp [spec_SharpenChallenge.l0])
      | succ k1 =>
       have H:=HA;clear HA;simp only [spec_SharpenChallenge.l0] at H
       go_upto_region 6 with (fail)
       go_cut [30] (fun v30 wc=>∃ (kq:Nat) (b:Bool),v30 = .bool b∧spec_SharpenChallenge.j1 kq ls b a0_0 a0_1 l0_2 l0_3 l0_4 f0 f1 f2 f3 f4 = some (r1,r2,r3,r4,r5,r6)∧kq ≤ k1∧St w w (fun _=>False) [bor (atU (d:=k50)) Al kl ls] wc [box gq 31 [.int .i64 f0,.int .i64 f1,.slice B2 f2.length b2,.slice B3 f3.length b3,.slice B4 f4.length b4],row (atI .i64) 3 B4 f4.length b4 f4,row (atI .i64) 3 B3 f3.length b3 f3,row at88 88 B2 f2.length b2 f2,box gz 31 [.int .i64 0,.int .i64 0,.slice none 0 0,.slice none 0 0,.slice none 0 0],box gb 31 [.int .i64 a0_0,.int .i64 a0_1,.slice A0_2 l0_2.length c0_2,.slice A0_3 l0_3.length c0_3,.slice A0_4 l0_4.length c0_4]])
       case first =>
        replace H:=sp_ H;rcases H with ⟨c32,H⟩ | ⟨c32,H⟩
        · skip
          go_wp2
          go_meet
          case rel=>exact ⟨_,(decide ((f3.length:Int) < 8)),(by first | rfl | (simp;done) | (simp [*];done) | (rw [w6_ (by omega) (by omega)])),H,(by first | omega | exact Nat.le_refl _),S⟩
        · skip
          go_wp2
          go_meet
          case rel=>exact ⟨_,false,(by first | rfl | (simp;done) | (simp [*];done) | (rw [w6_ (by omega) (by omega)])),H,(by first | omega | exact Nat.le_refl _),S⟩
       case rest =>
        clear H S F
        obtain ⟨kq,b,rfl,HA,HJ30,S⟩:=hcut
        have F:=S.fc
        cases kq with
        | zero=>exact absurd HA (by simp [spec_SharpenChallenge.j1])
        | succ kj =>
         have H:=HA;clear HA;simp only [spec_SharpenChallenge.j1] at H
         replace H:=sp_ H;rcases H with ⟨c37,H⟩ | ⟨c37,H⟩
         · skip
           subst c37
           go_wp2
           go_loopg [6,7,8] kj (fun kq v6 v7 v8 w'=>∃ (b6:Int) (lf:List S50) (i:Int) (Af:Option Addr) (cf:Nat),v6 = .int .i64 b6∧v7 = .slice Af lf.length cf∧v8 = .int .i64 i∧spec_SharpenChallenge.l1 kq ls b6 lf i a0_0 a0_1 l0_2 l0_3 l0_4 f0 f1 f2 f3 f4 = some (r1,r2,r3,r4,r5,r6)∧kq ≤ kj∧St w w (fun _=>False) [bor (atU (d:=k50)) Af cf lf,bor (atU (d:=k50)) Al kl ls] w' [box gq 31 [.int .i64 f0,.int .i64 f1,.slice B2 f2.length b2,.slice B3 f3.length b3,.slice B4 f4.length b4],row (atI .i64) 3 B4 f4.length b4 f4,row (atI .i64) 3 B3 f3.length b3 f3,row at88 88 B2 f2.length b2 f2,box gz 31 [.int .i64 0,.int .i64 0,.slice none 0 0,.slice none 0 0,.slice none 0 0],box gb 31 [.int .i64 a0_0,.int .i64 a0_1,.slice A0_2 l0_2.length c0_2,.slice A0_3 l0_3.length c0_3,.slice A0_4 l0_4.length c0_4]])
           case atStart=>exact ⟨-1,ls,0,Al,kl,(by first | rfl | (simp;done) | (simp [*];done) | (rw [w6_ (by omega) (by omega)])),(by first | rfl | (simp;done) | (simp [*];done) | (rw [w6_ (by omega) (by omega)])),(by first | rfl | (simp;done) | (simp [*];done) | (rw [w6_ (by omega) (by omega)])),H,Nat.le_refl _,(S.dk [0,0])⟩
           case round =>
            clear H S F
            obtain ⟨b6,lf,i,Af,cf,rfl,rfl,rfl,HA,HK3,S⟩:=hrel
            have F:=S.fc
            cases gk with
            | zero=>exact absurd HA (by simp [spec_SharpenChallenge.l1])
            | succ k3 =>
             have H:=HA;clear HA;simp only [spec_SharpenChallenge.l1] at H
             replace H:=sp_ H;rcases H with ⟨c58,H⟩ | ⟨c58,H⟩
             · skip
               replace H:=Option.bind_eq_some_iff.mp H;obtain ⟨⟨m1,m2,m3⟩,A7,H⟩:=H;(try dsimp only at H)
               replace H:=Option.bind_eq_some_iff.mp H;obtain ⟨en,A8,H⟩:=H;(try dsimp only at H)
               replace H:=Option.bind_eq_some_iff.mp H;obtain ⟨stl,A9,H⟩:=H;(try dsimp only at H)
               go_wp2
               refine rq S [(1,0),(0,1),(0,2),(1,3),(0,4),(0,6),(2,5),(2,7),(2,8),(0,9)] [] (h:=?_);clear S F;intro W S;have S0:=S;have F:=S.fc
               repeat (first | (refine q0 (h:=?_)) | (refine q1 S0 (h:=?_)) | (refine q0n (h:=?_)) | (refine q1n S0 (h:=?_)))
               refine lk2 (by rfl) (by exact (Eq.refl true)) ?_;obtain ⟨z_,k_⟩:=S.vl;refine cl (some 43) Try.func81 (spec_chSmallest.calls _ _ _ _ _ _ _ z_ _ k_.v A7) (hargs:=by simp only [ma_,mb_,mc_,F] <;> rfl) (h:=?_);rintro e W ⟨Am,cm,rfl,hv,hb⟩;refine ⟨_,rfl,?_⟩;replace S:=k_.back hb (hv.bor at88);clear F hb hv k_ z_;have F:=S.fc
               clear S0;have S0:=S.dk [1,2];refine ⟨S0,?_⟩
               repeat (first | (refine q0 (h:=?_)) | (refine q1 S0 (h:=?_)) | (refine q0n (h:=?_)) | (refine q1n S0 (h:=?_)))
               refine lk2 (by rfl) (by exact (Eq.refl true)) ?_;refine cl (some 45) Try.func94 (spec_chEndOn.calls _ _ _ _ _ _ _ _ _ _ _ _ _ _ _ _ _ _ _ _ S.c S.n S.c S.n S.c S.n S.c S.n A8) (hargs:=by (simp only [ma_,mb_,mc_,F] <;> rfl)) (h:=?_);rintro e W ⟨rfl,hb⟩;refine ⟨_,rfl,?_⟩;replace S:=S.go hb;clear F hb;have F:=S.fc
               clear S0;have S0:=S.dk [1,2];refine ⟨S0,?_⟩
               repeat (first | (refine q0 (h:=?_)) | (refine q1 S0 (h:=?_)) | (refine q0n (h:=?_)) | (refine q1n S0 (h:=?_)))
               refine lk2 (by rfl) (by exact (Eq.refl true)) ?_;obtain ⟨z_,k_⟩:=S.vl;refine cl (some 46) Try.func93 (spec_chStill.calls _ _ _ _ _ _ _ _ _ _ _ _ _ _ _ _ _ _ z_ _ S.c S.n S.c S.n S.c S.n k_.v A9) (hargs:=by simp only [ma_,mb_,mc_,F] <;> rfl) (h:=?_);rintro e W ⟨As,cs_,rfl,hv,hb⟩;refine ⟨_,rfl,?_⟩;replace S:=k_.back hb (hv.bor (atU (d:=k50)));clear F hb hv k_ z_;have F:=S.fc
               clear S0;have S0:=S.dk [2,3];refine ⟨S0,?_⟩
               repeat (first | (refine q0 (h:=?_)) | (refine q1 S0 (h:=?_)) | (refine q0n (h:=?_)) | (refine q1n S0 (h:=?_)))
               refine oz ?_
               try clear S0
               replace H:=sp_ H;rcases H with ⟨c60,H⟩ | ⟨c60,H⟩
               · skip
                 go_wp2
                 go_roundg k3
                 case measure=>omega
                 case rel=>exact ⟨i,stl,(wrap64 (i + 1)),As,cs_,(by first | rfl | (simp;done) | (simp [*];done) | (rw [w6_ (by omega) (by omega)])),(by first | rfl | (simp;done) | (simp [*];done) | (rw [w6_ (by omega) (by omega)])),(by first | rfl | (simp;done) | (simp [*];done) | (rw [w6_ (by omega) (by omega)])),H,(by first | omega | exact Nat.le_refl _),(S.dk [0,3])⟩
               · skip
                 go_wp2
                 go_roundg k3
                 case measure=>omega
                 case rel=>exact ⟨b6,lf,(wrap64 (i + 1)),Af,cf,(by first | rfl | (simp;done) | (simp [*];done) | (rw [w6_ (by omega) (by omega)])),(by first | rfl | (simp;done) | (simp [*];done) | (rw [w6_ (by omega) (by omega)])),(by first | rfl | (simp;done) | (simp [*];done) | (rw [w6_ (by omega) (by omega)])),H,(by first | omega | exact Nat.le_refl _),(S.dk [2,3])⟩
             · skip
               replace H:=sp_ H;rcases H with ⟨c113,H⟩ | ⟨c113,H⟩
               · skip
                 simp only [Option.some.injEq,Prod.mk.injEq] at H
                 obtain ⟨rfl,rfl,rfl,rfl,rfl,rfl⟩:=H
                 go_wp2_with (first | ((with_reducible refine gs (t:=31) rfl (L ?_));(first | refine sb (.agg #[_,_,_,_,_]) S sz31 ?_ | refine ro (.agg #[_,_,_,_,_]) S sz31 ?_ (ho:=rfl) (hx:=rfl) (hy:=rfl));(clear S F;intro W S;have F:=S.fc)))
                 refine bodyPost_ret (results_ct rfl _ _ gz 31 #[.int .i64 f0,.int .i64 f1,.slice B2 f2.length b2,.slice B3 f3.length b3,.slice B4 f4.length b4] (0,0) _ rfl S.hb Try.underlying31 rfl (by kernel_rfl)) rfl ?_
                 exact ⟨_,_,_,(by first | rfl | (simp [e0_,e1_] <;> rfl) | (simp [*,e0_,e1_] <;> rfl)),(by first | exact S.r | exact Kd.R_nil _ _ _ _ _),(by first | exact S.rn | exact Kd.R_nil _ _ _ _ _),(by first | exact S.rn | exact Kd.R_nil _ _ _ _ _),S.below⟩
               · skip
                 replace H:=Option.bind_eq_some_iff.mp H;obtain ⟨⟨m1,m2,m3⟩,A11,H⟩:=H;(try dsimp only at H)
                 replace H:=Option.bind_eq_some_iff.mp H;obtain ⟨⟨g1,g2,g3,g4,g5⟩,A12,H⟩:=H;(try dsimp only at H)
                 go_wp2
                 refine rq S [(1,0),(0,1),(0,3),(2,2),(2,4),(3,5)] [5] (h:=?_);clear S F;intro W S;have S0:=S;have F:=S.fc
                 repeat (first | (refine q0 (h:=?_)) | (refine q1 S0 (h:=?_)) | (refine q0n (h:=?_)) | (refine q1n S0 (h:=?_)))
                 refine lk2 (by rfl) (by exact (Eq.refl true)) ?_;obtain ⟨z_,k_⟩:=S.vl;refine cl (some 58) Try.func81 (spec_chSmallest.calls _ _ _ _ _ _ _ z_ _ k_.v A11) (hargs:=by simp only [ma_,mb_,mc_,F] <;> rfl) (h:=?_);rintro e W ⟨Am,cm,rfl,hv,hb⟩;refine ⟨_,rfl,?_⟩;replace S:=k_.back hb (hv.bor at88);clear F hb hv k_ z_;have F:=S.fc
                 clear S0;have S0:=S.dk [1,2];refine ⟨S0,?_⟩
                 repeat (first | (refine q0 (h:=?_)) | (refine q1 S0 (h:=?_)) | (refine q0n (h:=?_)) | (refine q1n S0 (h:=?_)))
                 refine lk2 (by rfl) (by exact (Eq.refl true)) ?_;refine cl (some 60) Try.func90 (spec_chAdd.calls _ _ _ _ _ _ _ _ _ _ _ _ _ _ _ _ _ _ _ _ _ _ _ _ S.c S.n S.c S.n S.c S.n S.c S.n A12) (hargs:=by (simp only [ma_,mb_,mc_,F] <;> rfl)) (h:=?_);rintro e W ⟨v1,v2,v3,rfl,ho0,ho1,ho2,hb⟩;refine ⟨_,rfl,?_⟩;replace S:=S.got3i at88 (atI .i64) (atI .i64) hb ho0 ho1 ho2 (by decide);obtain ⟨C2,d2,C3,d3,C4,d4,rfl,rfl,rfl,S⟩:=S;clear F hb ho0 ho1 ho2;have F:=S.fc
                 clear S0;have S0:=(S.dk [1,2]).tl.tl.tl;refine ⟨S0,?_⟩
                 repeat (first | (refine q0 (h:=?_)) | (refine q1 S0 (h:=?_)) | (refine q0n (h:=?_)) | (refine q1n S0 (h:=?_)))
                 refine lk3 (by rfl) (by exact (Eq.refl true)) ?_;refine sb (.agg #[_,_,_,_,_]) S sz31 ?_;(clear S F;intro W S;have F:=S.fc)
                 refine oz ?_
                 try clear S0
                 go_wp2
                 go_roundg k3
                 case measure=>omega
                 case rel=>exact ⟨lf,g1,g2,g3,g4,g5,_,_,_,_,_,_,_,_,(by first | rfl | (simp;done) | (simp [*];done) | (rw [w6_ (by omega) (by omega)])),H,(by first | omega | exact Nat.le_refl _),((S.dk [1]).pm [3,0,1,2,7,8])⟩
         · skip
           replace c37:=cbf c37;subst c37
           simp only [Option.some.injEq,Prod.mk.injEq] at H
           obtain ⟨rfl,rfl,rfl,rfl,rfl,rfl⟩:=H
           go_wp2_with (first | ((with_reducible refine gs (t:=31) rfl (L ?_));(first | refine sb (.agg #[_,_,_,_,_]) S sz31 ?_ | refine ro (.agg #[_,_,_,_,_]) S sz31 ?_ (ho:=rfl) (hx:=rfl) (hy:=rfl));(clear S F;intro W S;have F:=S.fc)))
           refine bodyPost_ret (results_ct rfl _ _ gz 31 #[.int .i64 f0,.int .i64 f1,.slice B2 f2.length b2,.slice B3 f3.length b3,.slice B4 f4.length b4] (0,0) _ rfl S.hb Try.underlying31 rfl (by kernel_rfl)) rfl ?_
           exact ⟨_,_,_,(by first | rfl | (simp [e0_,e1_] <;> rfl) | (simp [*,e0_,e1_] <;> rfl)),(by first | exact S.r | exact Kd.R_nil _ _ _ _ _),(by first | exact S.rn | exact Kd.R_nil _ _ _ _ _),(by first | exact S.rn | exact Kd.R_nil _ _ _ _ _),S.below⟩
 · skip
   replace c3:=cbf c3;subst c3
   simp only [Option.some.injEq,Prod.mk.injEq] at H
   obtain ⟨rfl,rfl,rfl,rfl,rfl,rfl⟩:=H
   go_wp2_with (first | ((with_reducible refine gd 1 rfl (L ?_));refine bo 1 (.agg #[_,_,_,_,_]) S ?_;clear S F;intro gb W S;have F:=S.fc) | ((with_reducible refine gd 2 rfl (L ?_));refine al 2 S zi31 ?_;clear S F;intro gz W S;have F:=S.fc) | ((with_reducible refine gate_callee (f:=73) rfl (L ?_));refine cl (some 11) Try.func73 (spec_chGood.calls _ _ _ _ _ _ _ _ _ _ _ _ _ _ S.c S.n S.c S.n S.c S.n A2) (hargs:=by (simp only [ma_,mb_,mc_,F] <;> rfl)) (h:=?_);rintro e W ⟨rfl,hb⟩;refine ⟨_,rfl,?_⟩;replace S:=S.go hb;clear F hb;have F:=S.fc) | ((with_reducible refine gs (t:=31) rfl (L ?_));(first | refine sb (.agg #[_,_,_,_,_]) S sz31 ?_ | refine ro (.agg #[_,_,_,_,_]) S sz31 ?_ (ho:=rfl) (hx:=rfl) (hy:=rfl));(clear S F;intro W S;have F:=S.fc)))
   refine bodyPost_ret (results_ct rfl _ _ gz 31 #[.int .i64 0,.int .i64 0,.slice none 0 0,.slice none 0 0,.slice none 0 0] (0,0) _ rfl S.hb Try.underlying31 rfl (by kernel_rfl)) rfl ?_
   exact ⟨_,_,_,(by first | rfl | (simp [e0_,e1_] <;> rfl) | (simp [*,e0_,e1_] <;> rfl)),(by first | exact S.r | exact Kd.R_nil _ _ _ _ _),(by first | exact S.rn | exact Kd.R_nil _ _ _ _ _),(by first | exact S.rn | exact Kd.R_nil _ _ _ _ _),S.below⟩

/-! ### impl_partsOf: function 65 -/
def impl_partsOf.l0:Nat→Int→List (S88)→Int→Int→Option (Int)
  | 0,_,_,_,_=>none
  | k + 1,x3,x7,x8,x9=>if x9 < x8 then (if 0 ≤ x9 then (if x9 < (x7.length:Int) then (if ((rd_T88 x7 x9).f0) = 0 then (impl_partsOf.l0 k x3 x7 x8 (wrap64 (x9 + 1))) else (impl_partsOf.l0 k (wrap64 (x3 + 1)) x7 x8 (wrap64 (x9 + 1)))) else (none)) else (none)) else (some x3)
def impl_partsOf.f (k:Nat) (a0_0:Int) (a0_1:Int) (l0_2:List (S88)):Option (Int):=impl_partsOf.l0 k 0 l0_2 (l0_2.length:Int) 0
theorem impl_partsOf.calls (k:Nat) (a0_0:Int) (a0_1:Int) (A0_2:Option Addr) (c0_2:Nat) (l0_2:List (S88)) (r:Int) (w:World) (hr0_2:Kd.C k88 w A0_2 l0_2.length l0_2) (hc0_2:l0_2.length ≤ c0_2) (h:impl_partsOf.f k a0_0 a0_1 l0_2 = some r) :
    Calls Try.prog 65 #[.agg #[.int .i64 a0_0,.int .i64 a0_1,.slice A0_2 l0_2.length c0_2]] w fun e w'=>e = .returned (.int .i64 r)∧Below w.heap.size w w':=by
 have S:=St.init (w:=w) (dc k88_heap at88 hr0_2 hc0_2 dn)
 clear hr0_2 hc0_2
 have F:=S.fc
 have H:=h;clear h;unfold impl_partsOf.f at H
 go_enter Try.func65,Try.ntmps65
 go_wp2_with (first | ((with_reducible refine gd 1 rfl (L ?_));refine bo 1 (.agg #[_,_,_]) S ?_;clear S F;intro gb709 W S;have F:=S.fc) | ((with_reducible refine gs (t:=88) rfl (L ?_));(first | refine sb (.agg #[_,_]) S sz88 ?_ | refine ro (.agg #[_,_]) S sz88 ?_ (ho:=rfl) (hx:=rfl) (hy:=rfl));(clear S F;intro W S;have F:=S.fc)))
 go_loopg [3,9] k (fun kq v3 v9 w'=>∃ (x3_1:Int) (x9_1:Int),v3 = .int .i64 x3_1∧v9 = .int .i64 x9_1∧impl_partsOf.l0 kq x3_1 l0_2 (l0_2.length:Int) x9_1 = some r∧kq ≤ k∧St w w (fun _=>False) [bor at88 A0_2 c0_2 l0_2] w'  [box gb709 50 [.int .i64 a0_0,.int .i64 a0_1,.slice A0_2 l0_2.length c0_2]])
 case atStart=>exact ⟨0,0,(by first | rfl | (simp;done) | (simp [*];done) | (rw [w6_ (by omega) (by omega)])),(by first | rfl | (simp;done) | (simp [*];done) | (rw [w6_ (by omega) (by omega)])),H,Nat.le_refl _,S⟩
 case round =>
  clear H S F
  obtain ⟨x3_1,x9_1,rfl,rfl,HA,HK1,S⟩:=hrel
  have F:=S.fc
  cases gk with
  | zero=>exact absurd HA (by simp [impl_partsOf.l0])
  | succ k1 =>
   have H:=HA;clear HA;simp only [impl_partsOf.l0,F] at H
   replace H:=sp_ H;rcases H with ⟨c4,H⟩ | ⟨c4,H⟩
   · skip
     replace H:=np_ H;obtain ⟨c5,H⟩:=H
     replace H:=np_ H;obtain ⟨c6,H⟩:=H
     replace H:=sp_ H;rcases H with ⟨c7,H⟩ | ⟨c7,H⟩
     · skip
       replace c7:=ceq c7
       go_wp2_with (first | ((with_reducible refine gd 5 rfl (L ?_));refine al 5 S zi88 ?_;clear S F;intro gb711 W S;have F:=S.fc) | ((with_reducible refine gs (t:=88) rfl (L ?_));(first | refine sb (.agg #[_,_]) S sz88 ?_ | refine ro (.agg #[_,_]) S sz88 ?_ (ho:=rfl) (hx:=rfl) (hy:=rfl));(clear S F;intro W S;have F:=S.fc)))
       go_roundg k1
       case measure=>omega
       case rel=>exact ⟨x3_1,(wrap64 (x9_1 + 1)),(by first | rfl | (simp;done) | (simp [*];done) | (rw [w6_ (by omega) (by omega)])),(by first | rfl | (simp;done) | (simp [*];done) | (rw [w6_ (by omega) (by omega)])),H,(by first | omega | exact Nat.le_refl _),S.tl⟩
     · skip
       replace c7:=cne c7
       go_wp2_with (first | ((with_reducible refine gd 5 rfl (L ?_));refine al 5 S zi88 ?_;clear S F;intro gb711 W S;have F:=S.fc) | ((with_reducible refine gs (t:=88) rfl (L ?_));(first | refine sb (.agg #[_,_]) S sz88 ?_ | refine ro (.agg #[_,_]) S sz88 ?_ (ho:=rfl) (hx:=rfl) (hy:=rfl));(clear S F;intro W S;have F:=S.fc)))
       go_roundg k1
       case measure=>omega
       case rel=>exact ⟨(wrap64 (x3_1 + 1)),(wrap64 (x9_1 + 1)),(by first | rfl | (simp;done) | (simp [*];done) | (rw [w6_ (by omega) (by omega)])),(by first | rfl | (simp;done) | (simp [*];done) | (rw [w6_ (by omega) (by omega)])),H,(by first | omega | exact Nat.le_refl _),S.tl⟩
   · skip
     obtain rfl:=Option.some.inj H
     go_wp2_with (first | ((with_reducible refine gs (t:=88) rfl (L ?_));(first | refine sb (.agg #[_,_]) S sz88 ?_ | refine ro (.agg #[_,_]) S sz88 ?_ (ho:=rfl) (hx:=rfl) (hy:=rfl));(clear S F;intro W S;have F:=S.fc)))
     go_ret
     exact ⟨(by first | rfl | (simp [e0_,e1_] <;> rfl) | (simp [*,e0_,e1_] <;> rfl)),S.below⟩
end Go.Proofs.Ytipaimgpmgbkiaa.F
