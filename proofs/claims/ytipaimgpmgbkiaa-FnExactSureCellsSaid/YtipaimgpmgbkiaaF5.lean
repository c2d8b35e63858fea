-- Printed by a program; checked here.
import Derived.Test.YtipaimgpmgbkiaaF0
import Derived.Test.YtipaimgpmgbkiaaF1
import Derived.Test.YtipaimgpmgbkiaaF2
import Derived.Test.YtipaimgpmgbkiaaF3
import Derived.Test.YtipaimgpmgbkiaaF4
namespace Go.Proofs.Ytipaimgpmgbkiaa.F
open Go.RowKit Go.Proofs.YtipaimgpmgbkiaaV.PrintWords Go.Proofs.YtipaimgpmgbkiaaV.PrintLast Go.Proofs.YtipaimgpmgbkiaaV.PrintMore Go.Proofs.YtipaimgpmgbkiaaV.Sl Go.Proofs.YtipaimgpmgbkiaaV.Rf
attribute [local go_sem] max2_int min2_int max_two min_two max_three min_three max_four min_four ia_opt it_opt
attribute [local go_sem] Try.underlying23 Try.underlying25 Try.underlying29 Try.underlying31 Try.underlying42 Try.underlying50 Try.underlying85 Try.underlying88 Try.underlying89 Try.underlying106 Try.underlying122 Try.underlying127
set_option maxHeartbeats 8000000
set_option maxRecDepth 100000
set_option linter.unusedVariables false
set_option linter.unusedSimpArgs false

attribute [local go_sem high] eqA88
/-! ### impl_drop: function 129 -/
mutual
def impl_drop.l0:Nat→List Int→Int→List Int→Int→Int→Int→Int→List (S88)→Option (Int × Int × Int × List Int × (List (S88)))
 | 0,_,_,_,_,_,_,_,_=>none
 | k + 1,x1,x2,x8,x9,x10,x436000,x436001,x436002=>if x10 < x436000 then (if x8.length < 17592186044416 then ((some (x8 ++ [wrap64 ((wrap64 (x10 * x436001)) + x2)]:List Int)).bind fun y440=>(if 0 ≤ (wrap64 ((wrap64 (x10 * x436001)) + x2)) then (if (wrap64 ((wrap64 (x10 * x436001)) + x2)) < (x436002.length:Int) then ((impl_GoesTo.f k ((rd_T88 x436002 (wrap64 ((wrap64 (x10 * x436001)) + x2))).f0) ((rd_T88 x436002 (wrap64 ((wrap64 (x10 * x436001)) + x2))).f1) x9).bind fun bt445=>(if bt445.2 = true then (if ((rd_T88 x436002 (wrap64 ((wrap64 (x10 * x436001)) + x2))).f0) = 3 then (impl_drop.j1 k x1 x2 y440 x10 (wrap64 ((wrap64 (x10 * x436001)) + x2)) bt445.1 x436000 x436001 (x436002.set ((wrap64 ((wrap64 (x10 * x436001)) + x2)):Int).toNat (⟨(rd_T88 x436002 (wrap64 ((wrap64 (x10 * x436001)) + x2))).f0,wrap64 (1 - ((rd_T88 x436002 (wrap64 ((wrap64 (x10 * x436001)) + x2))).f1))⟩:S88)) ((rd_T88 x436002 (wrap64 ((wrap64 (x10 * x436001)) + x2))).f0) ((rd_T88 x436002 (wrap64 ((wrap64 (x10 * x436001)) + x2))).f1)) else (impl_drop.j1 k x1 x2 y440 x10 (wrap64 ((wrap64 (x10 * x436001)) + x2)) bt445.1 x436000 x436001 x436002 ((rd_T88 x436002 (wrap64 ((wrap64 (x10 * x436001)) + x2))).f0) ((rd_T88 x436002 (wrap64 ((wrap64 (x10 * x436001)) + x2))).f1))) else (some (2,x10,x2,y440,x436002)))) else (none)) else (none))) else (none)) else (some (1,x436000,x2,x8,x436002))
def impl_drop.j1:Nat→List Int→Int→List Int→Int→Int→Int→Int→Int→List (S88)→Int→Int→Option (Int × Int × Int × List Int × (List (S88)))
 | 0,_,_,_,_,_,_,_,_,_,_,_=>none
 | k + 1,x1,x2,x8,x10,x11,x13,x436000,x436001,x436002,x445000,x445001=>if x445000 = 6 then ((impl_turnGroup.f k x436000 x436001 x436002 x1 x11).bind fun t448=>(if (wrap64 (x2 + x13)) < 0 then (some (3,x10,wrap64 (x2 + x13),x8,t448)) else (if (wrap64 (x2 + x13)) ≥ x436001 then (some (3,x10,wrap64 (x2 + x13),x8,t448)) else (impl_drop.l0 k x1 (wrap64 (x2 + x13)) x8 (wrap64 (-x13)) (wrap64 (x10 + 1)) x436000 x436001 t448)))) else (if (wrap64 (x2 + x13)) < 0 then (some (3,x10,wrap64 (x2 + x13),x8,x436002)) else (if (wrap64 (x2 + x13)) ≥ x436001 then (some (3,x10,wrap64 (x2 + x13),x8,x436002)) else (impl_drop.l0 k x1 (wrap64 (x2 + x13)) x8 (wrap64 (-x13)) (wrap64 (x10 + 1)) x436000 x436001 x436002)))
end
def impl_drop.f (k:Nat) (a0_0:Int) (a0_1:Int) (l0_2:List (S88)) (l1:List Int) (a2:Int):Option (Int × Int × Int × List Int × (List (S88))):=impl_drop.l0 k l1 a2 (([]:List Int)) 0 0 a0_0 a0_1 l0_2
theorem impl_drop.calls (k:Nat) (a0_0:Int) (a0_1:Int) (P0_2_:Nat→Prop) (u9000_:Value) (l0_2:List (S88)) (A1:Option Addr) (c1:Nat) (l1:List Int) (a2:Int) (r1:Int) (r2:Int) (r3:Int) (r4:List Int) (r5:List (S88)) (w0 w:World) (hB:Below w0.heap.size w0 w) (ho0_2:Kd.R k88 88 w w0.heap.size P0_2_ u9000_ l0_2) (hr1:∀ W_,Kept w W_ (fun k_=>P0_2_ k_)→Kd.C (Kd.int .i64) W_ A1 l1.length l1) (hc1:l1.length ≤ c1) (h:impl_drop.f k a0_0 a0_1 l0_2 l1 a2 = some (r1,r2,r3,r4,r5)) :
  Calls Try.prog 129 #[.agg #[.int .i64 a0_0,.int .i64 a0_1,u9000_],.slice A1 l1.length c1,.int .i64 a2] w fun e w'=>∃ v3_:Value,e = .returned (.tuple #[.agg #[.int .i64 r1,.int .i64 r2,.int .i64 r3],v3_])∧Kd.R (Kd.int .i64) 3 w' w0.heap.size (fun k_=>(P0_2_ k_∨w.heap.size ≤ k_)) v3_ r4∧Kd.R k88 88 w' w0.heap.size (fun k_=>(P0_2_ k_∨w.heap.size ≤ k_)) u9000_ r5∧Below w0.heap.size w0 w'∧Kept w w' (fun k_=>P0_2_ k_):=by
 have HO0_2:=Aside0.mk (show Kd.R k88 88 w w0.heap.size (fun k_=>(P0_2_ k_∨w.heap.size ≤ k_)) u9000_ l0_2 from Kd.R_mono ho0_2 (fun k_ hk=>(.inl hk)));have HR1:=Aside0.mk hr1;have HC1:=Aside0.mk hc1;clear hr1 hc1;have HK:=Aside0.mk (Kept.refl w (fun k_=>P0_2_ k_));have HW0:=Aside0.mk hB.size;have HB:=Aside0.mk hB;clear hB;have H:(impl_drop.l0 k l1 a2 (([]:List Int)) 0 0 a0_0 a0_1 l0_2) = some (r1,r2,r3,r4,r5):=h;clear h;obtain ⟨y437,hy437⟩:∃ y_:List Int,y_ = (([]:List Int)):=⟨_,rfl⟩
 replace H:(impl_drop.l0 k l1 a2 y437 0 0 a0_0 a0_1 l0_2) = some (r1,r2,r3,r4,r5):=by first | (rw [hy437];with_reducible exact H) | (have H2_:=(Option.bind_some _ _).symm.trans H;rw [hy437];with_reducible exact H2_) | (have H2_:=(Option.bind_some _ _).symm.trans H;with_reducible exact H2_) | with_reducible exact H | (rw [hy437];exact H) | exact H
 have Ny437:=Aside0.mk hy437;clear hy437;have H':=Aside0.mk H;clear H;obtain ⟨Ao4,co4,eo4⟩:=Kd.R_slice HO0_2.out;subst eo4;go_enter Try.func129,Try.ntmps129;go_wp2_with (first | ((with_reducible refine gate_dst (N:=3) rfl ?_);refine box_event ?hg (N:=3) ?hd (cs:=#[.int .i64 a0_0,.int .i64 a0_1,.slice Ao4 l0_2.length co4]) (t:=50) ?hr ?_;(case hd=>rfl);(case hg=>rfl);(case hr=>first | (go_simp;done) | (go_simp;rfl));intro gb435 hg w5 hbox hb;refine ev6 (Kd.R_below (Kd.R_mv HO0_2.out) hb) (Kept.below (S:=(fun k_=>P0_2_ k_)) (km HK) hb) (bs HB hb) (hbox) ((by rw [hg];exact (by first | exact HK.out.1 | exact (show Kept w _ (fun k_=>P0_2_ k_) from km HK).1):w.heap.size ≤ gb435)) (gle hg HB) ?_;clear HO0_2 HK HB;intro HO0_2 HK HB BK435 GW435 GE435;clear hb hbox hg) | ((with_reducible refine gate_dst (N:=6) rfl ?_);refine box_event ?hg (N:=6) ?hd (cs:=#[.int .i64 0,.int .i64 0,.int .i64 0]) (t:=127) ?hr ?_;(case hd=>rfl);(case hg=>rfl);(case hr=>first | (go_simp;done) | (go_simp;rfl));intro gb436 hg w6 hbox hb;refine ev9 (Kd.R_below (Kd.R_mv HO0_2.out) hb) (kb BK435 hb) (Kept.below (S:=(fun k_=>P0_2_ k_)) (km HK) hb) (bs HB hb) (hbox) ((by rw [hg];exact (by first | exact HK.out.1 | exact (show Kept w _ (fun k_=>P0_2_ k_) from km HK).1):w.heap.size ≤ gb436)) (gle hg HB) (gnf hg BK435) (gne hg BK435) ?_;clear HO0_2 BK435 HK HB;intro HO0_2 BK435 HK HB BK436 GW436 GE436 NB435_436 NB436_435;clear hb hbox hg) | ((with_reducible refine gate_dst (N:=15) rfl ?_);refine Kd.R_lit (Kd.int .i64) _ 3 ?hg (N:=15) ?hd (xs:=([]:List Int)) (inner:=[]) (ok:=fun _=>True) (okp:=fun _=>True) ?hr ?hp (fun _ hk=>hk) trivial (Below.refl _ _) (Nat.le_refl _) (by simp) ?_;(case hd=>rfl);(case hg=>rfl);(case hr=>first | (go_simp;done) | (go_simp;rfl));(case hp=>exact (Reps.none _ _));intro v438 w7 ho8 hb hg_ hnew_;clear hg_ hnew_;(first | rw [← Ny437.out] at ho8 | (simp only [Int.reduceToNat] at ho8;rw [← Ny437.out] at ho8));refine ev6 (Kd.R_below (Kd.R_mv HO0_2.out) hb) (Kd.R_lower (Kd.R_newM (M:=fun k_=>(P0_2_ k_∨w.heap.size ≤ k_)) ho8 (by first | exact HK.out.1 | exact (show Kept w _ (fun k_=>P0_2_ k_) from km HK).1) (fun k_ h_=>.inr h_)) (below_size (bm HB))) (kb BK435 hb) (kb BK436 hb) (Kept.below (S:=(fun k_=>P0_2_ k_)) (km HK) hb) (bs HB hb) ?_;clear HO0_2 BK435 BK436 HK HB;intro HO0_2 HO439 BK435 BK436 HK HB;clear hb ho8))
 go_loopg [2,8,9,10] k (fun kq v2 v8 v9 v10 w'=>∃ (x2_1:Int) (x8_1:List Int) (x9_1:Int) (x10_1:Int) (x436002_1:List (S88)) (x437000_1:Int) (x437001_1:Int) (x437002_1:Int),v2 = .int .i64 x2_1∧v9 = .int .i64 x9_1∧v10 = .int .i64 x10_1∧Aside0 (impl_drop.l0 kq l1 x2_1 x8_1 x9_1 x10_1 a0_0 a0_1 x436002_1 = some (r1,r2,r3,r4,r5))∧Aside0 (kq ≤ k)∧Aside0 (Kd.R (Kd.int .i64) 3 w' w0.heap.size (fun k_=>(P0_2_ k_∨w.heap.size ≤ k_)) v8 x8_1)∧Aside0 (Kd.R k88 88 w' w0.heap.size (fun k_=>(P0_2_ k_∨w.heap.size ≤ k_)) (.slice Ao4 l0_2.length co4) x436002_1)∧Aside0 (w'.heap[gb435]? = some (.cells #[.int .i64 a0_0,.int .i64 a0_1,(.slice Ao4 l0_2.length co4)] 50 (0,0)))∧Aside0 (w'.heap[gb436]? = some (.cells #[.int .i64 x437000_1,.int .i64 x437001_1,.int .i64 x437002_1] 127 (0,0)))∧Aside0 (Kept w w' (fun k_=>P0_2_ k_))∧Aside0 (Below w0.heap.size w0 w'))
 case atStart=>exact ⟨(a2),(y437),(0),(0),(l0_2),(0),(0),(0),(by first | rfl | (simp;done) | (simp [*];done)),(by first | rfl | (simp;done) | (simp [*];done)),(by first | rfl | (simp;done) | (simp [*];done)),H',⟨Nat.le_refl _⟩,⟨Kd.R_mv (Kd.R_mono (ok':=fun k_=>((P0_2_ k_∨w.heap.size ≤ k_))) HO439.out (fun _ hk=>hk.1))⟩,⟨Kd.R_mv HO0_2.out⟩,⟨km_ BK435⟩,⟨km_ BK436⟩,⟨km HK⟩,⟨bm HB⟩⟩
 case round =>
  clear H';(try clear c1);(try clear p2);obtain ⟨x2_1,x8_1,x9_1,x10_1,x436002_1,x437000_1,x437001_1,x437002_1,rfl,rfl,rfl,HA,HK1,HO_8,HO_436002,BK435,BK436,HK,HB⟩:=hrel;have hl436002_1:=(Kd.R_reads' HO_436002.out).1;rw [hl436002_1] at HO_436002;(try simp only [hl436002_1])
  (try simp only [hl436002_1] at BK435)
  (try simp only [hl436002_1] at BK436)
  (try simp only [hl436002_1] at HO_8)
  cases gk with
  | zero=>exact absurd HA.out (by simp [impl_drop.l0])
  | succ k1 =>
   have H:=HA.out;clear HA;simp only [impl_drop.l0] at H;by_cases c9:x10_1 < a0_0
   ·rw [if_pos c9] at H;have c9b0:decide (x10_1 < a0_0) = true:=decide_eq_true c9;clear c9;replace H:=np_ H;obtain ⟨c10,H⟩:=H;have LMc10:=Aside0.mk c10;clear c10;obtain ⟨y440,hy440⟩:∃ y_:List Int,y_ = (x8_1 ++ [wrap64 ((wrap64 (x10_1 * a0_1)) + x2_1)]):=⟨_,rfl⟩
    replace H:(if 0 ≤ (wrap64 ((wrap64 (x10_1 * a0_1)) + x2_1)) then (if (wrap64 ((wrap64 (x10_1 * a0_1)) + x2_1)) < (x436002_1.length:Int) then ((impl_GoesTo.f k1 ((rd_T88 x436002_1 (wrap64 ((wrap64 (x10_1 * a0_1)) + x2_1))).f0) ((rd_T88 x436002_1 (wrap64 ((wrap64 (x10_1 * a0_1)) + x2_1))).f1) x9_1).bind fun bt445=>(if bt445.2 = true then (if ((rd_T88 x436002_1 (wrap64 ((wrap64 (x10_1 * a0_1)) + x2_1))).f0) = 3 then (impl_drop.j1 k1 l1 x2_1 y440 x10_1 (wrap64 ((wrap64 (x10_1 * a0_1)) + x2_1)) bt445.1 a0_0 a0_1 (x436002_1.set ((wrap64 ((wrap64 (x10_1 * a0_1)) + x2_1)):Int).toNat (⟨(rd_T88 x436002_1 (wrap64 ((wrap64 (x10_1 * a0_1)) + x2_1))).f0,wrap64 (1 - ((rd_T88 x436002_1 (wrap64 ((wrap64 (x10_1 * a0_1)) + x2_1))).f1))⟩:S88)) ((rd_T88 x436002_1 (wrap64 ((wrap64 (x10_1 * a0_1)) + x2_1))).f0) ((rd_T88 x436002_1 (wrap64 ((wrap64 (x10_1 * a0_1)) + x2_1))).f1)) else (impl_drop.j1 k1 l1 x2_1 y440 x10_1 (wrap64 ((wrap64 (x10_1 * a0_1)) + x2_1)) bt445.1 a0_0 a0_1 x436002_1 ((rd_T88 x436002_1 (wrap64 ((wrap64 (x10_1 * a0_1)) + x2_1))).f0) ((rd_T88 x436002_1 (wrap64 ((wrap64 (x10_1 * a0_1)) + x2_1))).f1))) else (some (2,x10_1,x2_1,y440,x436002_1)))) else (none)) else (none)) = some (r1,r2,r3,r4,r5):=by first | (rw [hy440];with_reducible exact H) | (have H2_:=(Option.bind_some _ _).symm.trans H;rw [hy440];with_reducible exact H2_) | (have H2_:=(Option.bind_some _ _).symm.trans H;with_reducible exact H2_) | with_reducible exact H | (rw [hy440];exact H) | exact H
    have Ny440:=Aside0.mk hy440;clear hy440;obtain ⟨ji11,hji11⟩:∃ j_:Int,(wrap64 ((wrap64 (x10_1 * a0_1)) + x2_1)) = j_:=⟨_,rfl⟩
    replace H:(if 0 ≤ (ji11) then (if (ji11) < (x436002_1.length:Int) then ((impl_GoesTo.f k1 ((rd_T88 x436002_1 (ji11)).f0) ((rd_T88 x436002_1 (ji11)).f1) x9_1).bind fun bt445=>(if bt445.2 = true then (if ((rd_T88 x436002_1 (ji11)).f0) = 3 then (impl_drop.j1 k1 l1 x2_1 y440 x10_1 ji11 bt445.1 a0_0 a0_1 (x436002_1.set ((ji11):Int).toNat (⟨(rd_T88 x436002_1 (ji11)).f0,wrap64 (1 - ((rd_T88 x436002_1 (ji11)).f1))⟩:S88)) ((rd_T88 x436002_1 (ji11)).f0) ((rd_T88 x436002_1 (ji11)).f1)) else (impl_drop.j1 k1 l1 x2_1 y440 x10_1 ji11 bt445.1 a0_0 a0_1 x436002_1 ((rd_T88 x436002_1 (ji11)).f0) ((rd_T88 x436002_1 (ji11)).f1))) else (some (2,x10_1,x2_1,y440,x436002_1)))) else (none)) else (none)) = some (r1,r2,r3,r4,r5):=by first | (rw [hji11] at H;exact H) | (simp only [hji11] at H ⊢;exact H)
    (try rw [hji11] at Ny440)
    have hji11w:(IntKind.i64.wrap ((wrap64 (x10_1 * a0_1)) + x2_1)) = ji11:=(i64_w _).trans hji11;replace H:=np_ H;obtain ⟨c12,H⟩:=H;have c12b0:decide (0 ≤ (ji11)) = true:=decide_eq_true c12;clear c12;replace H:=np_ H;obtain ⟨c13,H⟩:=H;have c13b0:decide ((ji11) < (x436002_1.length:Int)) = true:=decide_eq_true c13;(try simp only [hl436002_1] at c13b0)
    clear c13;replace H:=Option.bind_eq_some_iff.mp H;obtain ⟨⟨t445,t446⟩,A140,H⟩:=H;(try dsimp only at H)
    have A14:=Aside0.mk A140;clear A140;by_cases c15:t446 = true
    ·subst c15;have H1:(if ((rd_T88 x436002_1 (ji11)).f0) = 3 then (impl_drop.j1 k1 l1 x2_1 y440 x10_1 ji11 t445 a0_0 a0_1 (x436002_1.set ((ji11):Int).toNat (⟨(rd_T88 x436002_1 (ji11)).f0,wrap64 (1 - ((rd_T88 x436002_1 (ji11)).f1))⟩:S88)) ((rd_T88 x436002_1 (ji11)).f0) ((rd_T88 x436002_1 (ji11)).f1)) else (impl_drop.j1 k1 l1 x2_1 y440 x10_1 ji11 t445 a0_0 a0_1 x436002_1 ((rd_T88 x436002_1 (ji11)).f0) ((rd_T88 x436002_1 (ji11)).f1))) = some (r1,r2,r3,r4,r5):=by rw [if_pos rfl] at H;exact H
     clear H;have H:=H1;clear H1;have HC16:=Aside0.mk H;clear H;have hnb17:=NB435_436.out;have hnc17:=NB436_435.out;obtain ⟨hcz18_0,hcz18_1,hcz18_2,hfz18_0,hfz18_1,hfz18_2⟩:=bt3 BK435;go_upto_if 51 with (first | ((with_reducible refine gate_builtin (b:=.append) (xs:=#[.tmp 28,.tmp 30]) rfl ?_);at_builtin;refine Kd.R_append (Kd.int .i64) (w0:=w0) w0.heap.size rfl (.tmp 28) (.tmp 30) 23 3 (.int .i64 0) 8 rfl Try.underlying23 info3 rfl (by decide) (by omega) u8 x8_1 ji11 [.int .i64 ji11] (fun k_=>(P0_2_ k_∨w.heap.size ≤ k_)) (fun _=>False) rfl rfl ?aP (fun _ hk=>hk.elim) ?aF ?aO ?aB ?aS ?aL ?_;(case aP=>exact rfl);(case aB=>exact (bm HB));(case aF=>exact (fun k_ hk=>(.inr (Nat.le_trans (by first | exact HK.out.1 | exact (show Kept w _ (fun k_=>P0_2_ k_) from km HK).1) hk))));(case aO=>exact (Kd.R_mv HO_8.out));(case aS=>exact (below_size (bm HB)));(case aL=>have:=LMc10.out;omega);intro v441 w19 ho hb hg hat;rw [← Ny440.out] at ho;refine ev6 (Kd.R_over' (Kd.R_mv HO_436002.out) (Kd.R_typed (Kd.R_mv HO_8.out)) (by decide) hg) (blk_grown (km_ BK435) hg (Kd.R_ne HO_8.out BK435.out (by decide))) (blk_grown (km_ BK436) hg (Kd.R_ne HO_8.out BK436.out (by decide))) (hb) (Kept.of_grown (S:=(fun k_=>P0_2_ k_)) hg (km HK) (fun k_ e_=>(HO_8.out.1 k_ e_))) (ho) ?_;clear HO_436002 BK435 BK436 HB HK HO_8;intro HO_436002 BK435 BK436 HB HK HO442;clear ho hb hg hat;obtain ⟨hcz20_0,hcz20_1,hcz20_2,hfz20_0,hfz20_1,hfz20_2⟩:=bt3 BK435;have p443:0 ≤ ((ji11):Int):=of_decide_eq_true (by first | (with_reducible assumption) | assumption);have q443:(ji11) < (x436002_1.length:Int):=of_decide_eq_true (by first | (with_reducible assumption) | assumption);obtain ⟨ad443,e443,hx443_0,hx443_1⟩:=at_T88 (Kd.R_reads' HO_436002.out).2.2 (ji11) p443 q443;cases e443;replace p443:=eq_true p443;replace q443:=eq_true q443) | ((with_reducible refine gate_dst (N:=12) rfl ?_);refine box_event ?hg (N:=12) ?hd (cs:=#[.int .i64 0,.int .i64 0]) (t:=88) ?hr ?_;(case hd=>rfl);(case hg=>rfl);(case hr=>first | (go_simp;done) | (go_simp;rfl));intro gb444 hg w21 hbox hb;refine ev12 (Kd.R_below (Kd.R_elderB (Kd.R_mv HO_436002.out) gb444 (Nat.le_of_eq hg.symm)) hb) (Kd.R_below (Kd.R_mv HO442.out) hb) (kb BK435 hb) (kb BK436 hb) (Kept.below (S:=(fun k_=>P0_2_ k_)) (km HK) hb) (bs HB hb) (hbox) ((by rw [hg];exact (by first | exact HK.out.1 | exact (show Kept w _ (fun k_=>P0_2_ k_) from km HK).1):w.heap.size ≤ gb444)) (gle hg HB) (gnf hg BK435) (gne hg BK435) (gnf hg BK436) ?_;intro n0_ n1_ n2_ n3_ n4_ n5_ n6_ n7_ n8_ n9_ n10_ n11_;refine ev1 (gne hg BK436) ?_;intro n12_;clear HO_436002 HO442 BK435 BK436 HK HB;revert n0_ n1_ n2_ n3_ n4_ n5_ n6_ n7_ n8_ n9_ n10_ n11_ n12_;intro HO_436002 HO442 BK435 BK436 HK HB BK444 GW444 GE444 NB435_444 NB444_435 NB436_444 NB444_436;clear hb hbox hg;have hnb22:=NB444_435.out;have hnc22:=NB435_444.out;have hnb23:=NB444_436.out;have hnc23:=NB436_444.out;obtain ⟨hcz24_0,hcz24_1,hfz24_0,hfz24_1⟩:=bt2 BK444) | ((with_reducible refine gate_callee (f:=139) rfl ?_);refine goesL_ (some 40) rfl rfl Try.func139 (by kernel_rfl) rfl #[.agg #[.int .i64 ((rd_T88 x436002_1 (ji11)).f0),.int .i64 ((rd_T88 x436002_1 (ji11)).f1)],.int .i64 x9_1] rfl (by (try simp only [ma_,mb_,mc_]);first | done | (simp only [hji11];rfl) | rfl | (simp only [List.length_drop,List.length_take];rfl)) ?_;(with_reducible refine (impl_GoesTo.calls k1 ((rd_T88 x436002_1 (ji11)).f0) ((rd_T88 x436002_1 (ji11)).f1) x9_1 t445 true _ A14.out).mono ?_);rintro e w25 ⟨rfl,hb⟩;refine ⟨_,rfl,?_⟩;refine ev7 (Kd.R_below (Kd.R_mv (Kd.R_mono (Kd.R_far (p:=⟨gb444,1,none⟩) (Kd.R_far (p:=⟨gb444,0,none⟩) (Kd.R_mono HO_436002.out (fun k_ hk=>(⟨hk,hk.2⟩:_∧k_ ≠ gb444))) (fun _ hk=>hk.2) (.int .i64 ((rd_T88 x436002_1 (ji11)).f0))) (fun _ hk=>hk.2) (.int .i64 ((rd_T88 x436002_1 (ji11)).f1))) (fun _ h_=>h_.1))) hb) (Kd.R_below (Kd.R_ft HO442.out BK444.out (by decide)) hb) (blk_below (g:=gb435) (o:=.cells #[.int .i64 a0_0,.int .i64 a0_1,.slice (some ad443) x436002_1.length co4] 50 (0,0)) (fp BK435 rfl) hb) (blk_below (g:=gb436) (o:=.cells #[.int .i64 x437000_1,.int .i64 x437001_1,.int .i64 x437002_1] 127 (0,0)) (fp BK436 rfl) hb) (blk_below (g:=gb444) (o:=.cells #[.int .i64 ((rd_T88 x436002_1 (ji11)).f0),.int .i64 ((rd_T88 x436002_1 (ji11)).f1)] 88 (0,0)) (fp BK444 rfl) hb) (Kept.below (S:=(fun k_=>P0_2_ k_)) (km HK) hb) (bs HB hb) ?_;clear HO_436002 HO442 BK435 BK436 BK444 HK HB;intro HO_436002 HO442 BK435 BK436 BK444 HK HB;(try clear hb);obtain ⟨hcz26_0,hcz26_1,hfz26_0,hfz26_1⟩:=bt2 BK444))
     (try simp only [Act.put,za_,zb_,zc_])
     go_cut [] (fun wc=>∃ (kq:Nat) (x436002_15:List (S88)) (x445001_15:Int),Aside0 (impl_drop.j1 kq l1 x2_1 y440 x10_1 ji11 t445 a0_0 a0_1 x436002_15 ((rd_T88 x436002_1 (ji11)).f0) x445001_15 = some (r1,r2,r3,r4,r5))∧Aside0 (kq ≤ k1)∧Aside0 (Kd.R (Kd.int .i64) 3 wc w0.heap.size (fun k_=>(P0_2_ k_∨w.heap.size ≤ k_)) v441 y440)∧Aside0 (Kd.R k88 88 wc w0.heap.size (fun k_=>(P0_2_ k_∨w.heap.size ≤ k_)∧k_ ≠ gb444) (.slice (some ad443) x436002_1.length co4) x436002_15)∧Aside0 (wc.heap[gb435]? = some (.cells #[.int .i64 a0_0,.int .i64 a0_1,(.slice (some ad443) x436002_1.length co4)] 50 (0,0)))∧Aside0 (wc.heap[gb436]? = some (.cells #[.int .i64 x437000_1,.int .i64 x437001_1,.int .i64 x437002_1] 127 (0,0)))∧Aside0 (wc.heap[gb444]? = some (.cells #[.int .i64 ((rd_T88 x436002_1 (ji11)).f0),.int .i64 x445001_15] 88 (0,0)))∧Aside0 (Kept w wc (fun k_=>P0_2_ k_))∧Aside0 (Below w0.heap.size w0 wc))
     case first =>
      have H:=HC16.out;clear HC16;by_cases c27:((rd_T88 x436002_1 (ji11)).f0) = 3
      ·rw [if_pos c27] at H;have c27b0:(((rd_T88 x436002_1 (ji11)).f0) == 3) = true:=beq_iff_eq.mpr c27;have c27b1:(((rd_T88 x436002_1 (ji11)).f0) != 3) = false:=bne_eq_false_iff_eq.mpr c27;clear c27;(first | rw [c27b0] | (simp only [i64_w,i32_w];rw [c27b0]) | skip)
       obtain ⟨y447,hy447⟩:∃ y_:List (S88),y_ = (x436002_1.set ((ji11):Int).toNat (⟨(rd_T88 x436002_1 (ji11)).f0,wrap64 (1 - ((rd_T88 x436002_1 (ji11)).f1))⟩:S88)):=⟨_,rfl⟩
       replace H:(impl_drop.j1 k1 l1 x2_1 y440 x10_1 ji11 t445 a0_0 a0_1 y447 ((rd_T88 x436002_1 (ji11)).f0) ((rd_T88 x436002_1 (ji11)).f1)) = some (r1,r2,r3,r4,r5):=by first | (rw [hy447];with_reducible exact H) | (have H2_:=(Option.bind_some _ _).symm.trans H;rw [hy447];with_reducible exact H2_) | (have H2_:=(Option.bind_some _ _).symm.trans H;with_reducible exact H2_) | with_reducible exact H | (rw [hy447];exact H) | exact H
       have Ny447:=Aside0.mk hy447;clear hy447;have H':=Aside0.mk H;clear H;have hnb29:=NB435_436.out;have hnc29:=NB436_435.out;have hnb30:=NB435_444.out;have hnc30:=NB444_435.out;obtain ⟨hcz31_0,hcz31_1,hcz31_2,hfz31_0,hfz31_1,hfz31_2⟩:=bt3 BK435;have hnb32:=NB444_436.out;have hnc32:=NB436_444.out;obtain ⟨hcz33_0,hcz33_1,hfz33_0,hfz33_1⟩:=bt2 BK444;have p28:0 ≤ ((ji11):Int):=of_decide_eq_true (by first | (with_reducible assumption) | assumption);have q28:((ji11):Int) < ((x436002_1.length:Int):Int):=of_decide_eq_true (by first | (with_reducible assumption) | assumption);obtain ⟨go28,co28,eo28,gb28,gl28,cl28,HG28⟩:=Kd.R_form HO_436002.out (by omega);(first | cases eo28 | (injection eo28 with ea_ en_ ec_;(first | subst ea_ | (injection ea_ with ea_;subst ea_));subst ec_;clear en_))
       have GB28:=Aside0.mk gb28;have GG28:=Aside0.mk HG28;clear gb28 gl28 HG28;have HMgo28:=Aside0.mk (show (P0_2_ go28∨w.heap.size ≤ go28) from (HO_436002.out.1 _ rfl).1);(first | simp only [add_plain] at hx443_0 | skip)
       (first | simp only [add_plain] at hx443_1 | skip)
       obtain ⟨ce28,hcl28,hM28,hcc28,hfr28⟩:=Kd.R_elem HO_436002.out z88 ((ji11):Int) p28 q28;obtain rfl:=k88_openM hM28;have hx28_0:w25.cell? ⟨go28,((ji11):Int).toNat * 2,none⟩ = some (.int .i64 ((rd_T88 x436002_1 (ji11)).f0)):=hcc28 0 _ rfl;have hx28_1:w25.cell? ⟨go28,((ji11):Int).toNat * 2 + 1,none⟩ = some (.int .i64 ((rd_T88 x436002_1 (ji11)).f1)):=hcc28 1 _ rfl;have hf28_0:w25.frozen? ⟨go28,((ji11):Int).toNat * 2,none⟩ = false:=hfr28 0;have hf28_1:w25.frozen? ⟨go28,((ji11):Int).toNat * 2 + 1,none⟩ = false:=hfr28 1;clear hcl28 hcc28 hfr28 hM28;replace p28:=eq_true p28;replace q28:=eq_true q28;have HX34:=Aside0.mk (show Kd.R k88 88 w25 w0.heap.size (fun k_=>(P0_2_ k_∨w.heap.size ≤ k_)∧k_ ≠ gb444) (.slice (some ⟨go28,0,none⟩) x436002_1.length co4) x436002_1 from (Kd.R_mv HO_436002.out));obtain ⟨ce34,hcl34,hM34,hcc34,hfr34⟩:=Kd.R_elem HX34.out z88 ((ji11):Int) (of_decide_eq_true (by first | (with_reducible assumption) | assumption)) (by have h_:((ji11):Int) < ((x436002_1.length:Int):Int):=of_decide_eq_true (by first | (with_reducible assumption) | assumption);first | exact h_ | (have e_:=(Kd.R_reads' HO_436002.out).1;omega) | simpa using h_);obtain rfl:=k88_openM hM34;have HP34:=Kd.R_seg HX34.out ((ji11):Int) (of_decide_eq_true (by first | (with_reducible assumption) | assumption)) (by have h_:((ji11):Int) < ((x436002_1.length:Int):Int):=of_decide_eq_true (by first | (with_reducible assumption) | assumption);first | exact h_ | (have e_:=(Kd.R_reads' HO_436002.out).1;omega) | simpa using h_) (seg:=[.int .i64 (wrap64 (1 - ((rd_T88 x436002_1 (ji11)).f1)))]) (j:=1) hcl34 hcc34 (show 2 ≤ 2 from by decide) (x':=(⟨(rd_T88 x436002_1 (ji11)).f0,wrap64 (1 - ((rd_T88 x436002_1 (ji11)).f1))⟩:S88)) (k88_mkM _ _ _ (⟨(rd_T88 x436002_1 (ji11)).f0,wrap64 (1 - ((rd_T88 x436002_1 (ji11)).f1))⟩:S88) ) (fun _ hk=>hk);have hx34_1:=hcc34 1 _ rfl;(try simp only [show (k88).sz = 2 from rfl,Nat.mul_one,Nat.add_zero] at hx34_1)
       have hf34_1:=hfr34 1;(try simp only [show (k88).sz = 2 from rfl,Nat.mul_one,Nat.add_zero] at hf34_1)
       clear hcl34 hcc34 hfr34 hM34;go_wp2_with (first | ((with_reducible refine gate_store (t:=3) (p:=59) rfl ?_);refine store_event (t:=3) (p:=59) (v:=?vo_w35) (w1:=(w25.setCell ⟨go28,((ji11):Int).toNat * 2 + 1,none⟩ (.int .i64 (wrap64 (1 - ((rd_T88 x436002_1 (ji11)).f1)))))) ?hg ?ho ?hn ?hr ?_;(case ho=>rfl);(case hg=>rfl);(case hn=>rfl);(case hr=>first | (go_simp;done) | (go_simp;rfl));intro w35 hw;have hg:w25.grownBy w35 (some go28):=(by rw [hw];exact HP34.2);have hp_:Kd.R k88 88 w35 w0.heap.size (fun k_=>(P0_2_ k_∨w.heap.size ≤ k_)∧k_ ≠ gb444) (.slice (some ⟨go28,0,none⟩) x436002_1.length co4) y447:=(by rw [hw,Ny447.out];exact HP34.1);clear HP34;refine ev7 (hp_) (blk_grown (km_ BK435) hg (Kd.R_ne HO_436002.out BK435.out (by decide))) (blk_grown (km_ BK436) hg (Kd.R_ne HO_436002.out BK436.out (by decide))) (Kd.R_over' (v:=(.slice (some ⟨go28,0,none⟩) x436002_1.length co4)) (Kd.R_mv HO442.out) (Kd.R_typed HO_436002.out) (by decide) hg) (blk_grown (km_ BK444) hg (Kd.R_away HO_436002.out (fun _ hk=>hk.2))) ((by rw [hw];exact below_set (HB.out) GB28.out:Below w0.heap.size w0 w35)) (Kept.of_grown (S:=(fun k_=>P0_2_ k_)) hg (km HK) (fun k_ e_=>(HO_436002.out.1 k_ e_).1)) ?_;clear HO_436002 BK435 BK436 HO442 BK444 HB HK;intro HO_436002 BK435 BK436 HO442 BK444 HB HK;clear hg hw hp_))
       go_meet
       case rel=>exact ⟨_,(y447),((rd_T88 x436002_1 (ji11)).f1),H',⟨by have:=HK1.out;first | omega | exact Nat.le_refl _⟩,⟨by (try simp only [hl436002_1]);exact Kd.R_mv HO442.out⟩,⟨by (try simp only [hl436002_1]);exact Kd.R_mv HO_436002.out⟩,⟨by (try simp only [hl436002_1]);exact km_ BK435⟩,⟨by (try simp only [hl436002_1]);exact km_ BK436⟩,⟨by (try simp only [hl436002_1]);exact km_ BK444⟩,⟨km HK⟩,⟨bm HB⟩⟩
      ·rw [if_neg c27] at H;have c27b0:(((rd_T88 x436002_1 (ji11)).f0) == 3) = false:=beq_eq_false_iff_ne.mpr c27;have c27b1:(((rd_T88 x436002_1 (ji11)).f0) != 3) = true:=bne_iff_ne.mpr c27;(first | rw [c27b0] | (simp only [i64_w,i32_w];rw [c27b0]) | skip)
       have H':=Aside0.mk H;clear H;go_wp2;go_meet
       case rel=>exact ⟨_,(x436002_1),((rd_T88 x436002_1 (ji11)).f1),H',⟨by have:=HK1.out;first | omega | exact Nat.le_refl _⟩,⟨by (try simp only [hl436002_1]);exact Kd.R_mv HO442.out⟩,⟨by (try simp only [hl436002_1]);exact Kd.R_mv HO_436002.out⟩,⟨by (try simp only [hl436002_1]);exact km_ BK435⟩,⟨by (try simp only [hl436002_1]);exact km_ BK436⟩,⟨by (try simp only [hl436002_1]);exact km_ BK444⟩,⟨km HK⟩,⟨bm HB⟩⟩
     case rest =>
      clear HC16;(try clear c1);(try clear c2);(try clear p2);(try clear p4);(try clear q4);(try clear hx4);(try clear p6);(try clear c9);(try clear c9b0);(try clear c10);(try clear c12);(try clear c12b0);(try clear c13);(try clear c13b0);(try clear c15);(try clear c17);(try clear c22);(try clear c23);(try clear hcz18_0 hcz18_1 hcz18_2 hfz18_0 hfz18_1 hfz18_2);(try clear hcz20_0 hcz20_1 hcz20_2 hfz20_0 hfz20_1 hfz20_2);(try clear hcz24_0 hcz24_1 hfz24_0 hfz24_1);(try clear hcz26_0 hcz26_1 hfz26_0 hfz26_1);(try clear hx443_0);(try clear hx443_1);(try clear p2);(try clear p443);(try clear q443);obtain ⟨kq,x436002_15,x445001_15,HA,HJ15,HO_8,HO_436002,BK435,BK436,BK444,HK,HB⟩:=hcut;have hl436002_15:=(Kd.R_reads' HO_436002.out).1;rw [hl436002_15] at HO_436002;(try simp only [hl436002_15])
      (try simp only [hl436002_15] at BK435)
      (try simp only [hl436002_15] at BK436)
      (try simp only [hl436002_15] at BK444)
      (try simp only [hl436002_15] at HO_8)
      cases kq with
      | zero=>exact absurd HA.out (by simp [impl_drop.j1])
      | succ kj15 =>
       have H:=HA.out;clear HA;simp only [impl_drop.j1] at H;by_cases c36:((rd_T88 x436002_1 (ji11)).f0) = 6
       ·rw [if_pos c36] at H;have c36b0:(((rd_T88 x436002_1 (ji11)).f0) == 6) = true:=beq_iff_eq.mpr c36;have c36b1:(((rd_T88 x436002_1 (ji11)).f0) != 6) = false:=bne_eq_false_iff_eq.mpr c36;clear c36;replace H:=Option.bind_eq_some_iff.mp H;obtain ⟨t448,A370,H⟩:=H;(try dsimp only at H)
        have A37:=Aside0.mk A370;clear A370;by_cases c38:(wrap64 (x2_1 + t445)) < 0
        ·rw [if_pos c38] at H;have c38b0:decide ((wrap64 (x2_1 + t445)) < 0) = true:=decide_eq_true c38;clear c38;simp only [Option.some.injEq,Prod.mk.injEq] at H;obtain ⟨rfl,rfl,rfl,rfl,rfl⟩:=H;have hnb39:=NB444_435.out;have hnc39:=NB435_444.out;have hnb40:=NB444_436.out;have hnc40:=NB436_444.out;obtain ⟨hcz41_0,hcz41_1,hfz41_0,hfz41_1⟩:=bt2 BK444;have hnb42:=NB435_436.out;have hnc42:=NB436_435.out;obtain ⟨hcz43_0,hcz43_1,hcz43_2,hfz43_0,hfz43_1,hfz43_2⟩:=bt3 BK435;go_wp2_with (first | ((with_reducible refine gate_callee (f:=140) rfl ?_);refine goesL_ (some 66) rfl rfl Try.func140 (by kernel_rfl) rfl #[.agg #[.int .i64 a0_0,.int .i64 a0_1,.slice (some ad443) x436002_15.length co4],.slice A1 l1.length c1,.int .i64 ji11] rfl (by (try simp only [ma_,mb_,mc_]);first | done | (simp only [hji11];rfl) | rfl | (simp only [List.length_drop,List.length_take];rfl)) ?_;(with_reducible refine (impl_turnGroup.calls kj15 a0_0 a0_1 (fun k_=>some k_ = (.slice (some ad443) x436002_15.length co4:Value).ownBlock) (.slice (some ad443) x436002_15.length co4) x436002_15 _ _ l1 ji11 t448 w0 _ (bm HB) ?side2 ?side3 HC1.out A37.out).mono ?_);(case side2=>exact Kd.R_tight rfl HO_436002.out);(case side3=>exact Kd.C_kept_call HR1.out (km HK) (fun k_ hs_=>(fun e_=>(HO_436002.out.1 k_ e_.symm).1) hs_));rintro e w44 ⟨rfl,hy0,hb,hkp⟩;refine ⟨_,rfl,?_⟩;refine ev7 (Kd.R_mono (ok':=fun k_=>(P0_2_ k_∨w.heap.size ≤ k_)) (Kd.R_keptB ((Kd.R_apart' HO_8.out (Kd.R_typed HO_436002.out) (by decide))) hkp (fun k_ hk_ hs_=>(hk_.2) hs_)) (fun k_ hk_=>hk_.1.1)) (Kd.R_reok rfl hy0 (fun k_ e_=>HO_436002.out.1 k_ e_)) (blk_kept (km_ BK435) hkp (fun hs_=>(fun e_=>(Kd.R_ne HO_436002.out BK435.out (by decide)) e_) hs_)) (blk_kept (km_ BK436) hkp (fun hs_=>(fun e_=>(Kd.R_ne HO_436002.out BK436.out (by decide)) e_) hs_)) (blk_kept (km_ BK444) hkp (fun hs_=>(fun e_=>(Kd.R_away HO_436002.out (fun _ hk=>hk.2)) e_) hs_)) (Kept.then_ (S:=(fun k_=>P0_2_ k_)) (km HK) hkp (fun k_ hs_=>(fun e_=>(HO_436002.out.1 k_ e_.symm).1) hs_)) (hb) ?_;clear HO_8 HO_436002 BK435 BK436 BK444 HK HB;intro HO_8 HO_436002 BK435 BK436 BK444 HK HB;(try clear hb);(try clear hkp);(try clear hy0);obtain ⟨hcz45_0,hcz45_1,hcz45_2,hfz45_0,hfz45_1,hfz45_2⟩:=bt3 BK436))
         refine bodyPost_ret (results_ct rfl _ _ gb436 127 #[.int .i64 3,.int .i64 x10_1,.int .i64 (wrap64 (x2_1 + t445))] (0,0) _ rfl (fp BK436 rfl) Try.underlying127 rfl (by kernel_rfl)) rfl ?_;exact ⟨_,by first | rfl | (simp [e0_,e1_] <;> rfl) | (simp only [← hji11];first | rfl | (simp [e0_,e1_] <;> rfl)) | (simp [*,e0_,e1_] <;> rfl),Kd.R_mv (Kd.R_mono (ok':=fun k_=>((P0_2_ k_∨w.heap.size ≤ k_))) (Kd.R_far (p:=⟨gb436,2,none⟩) (Kd.R_far (p:=⟨gb436,1,none⟩) (Kd.R_far (p:=⟨gb436,0,none⟩) (Kd.R_types HO_8.out BK436.out (by decide)) (fun _ hk=>hk.2) (.int .i64 3)) (fun _ hk=>hk.2) (.int .i64 x10_1)) (fun _ hk=>hk.2) (.int .i64 (wrap64 (x2_1 + t445)))) (fun _ hk=>hk.1)),(by first | exact (Kd.R_mv (Kd.R_mono (ok':=fun k_=>((P0_2_ k_∨w.heap.size ≤ k_))) (Kd.R_far (p:=⟨gb436,2,none⟩) (Kd.R_far (p:=⟨gb436,1,none⟩) (Kd.R_far (p:=⟨gb436,0,none⟩) (Kd.R_types HO_436002.out BK436.out (by decide)) (fun _ hk=>hk.2) (.int .i64 3)) (fun _ hk=>hk.2) (.int .i64 x10_1)) (fun _ hk=>hk.2) (.int .i64 (wrap64 (x2_1 + t445)))) (fun _ hk=>hk.1.1))) | (simp only [hl436002_1,hl436002_15];exact (Kd.R_mv (Kd.R_mono (ok':=fun k_=>((P0_2_ k_∨w.heap.size ≤ k_))) (Kd.R_far (p:=⟨gb436,2,none⟩) (Kd.R_far (p:=⟨gb436,1,none⟩) (Kd.R_far (p:=⟨gb436,0,none⟩) (Kd.R_types HO_436002.out BK436.out (by decide)) (fun _ hk=>hk.2) (.int .i64 3)) (fun _ hk=>hk.2) (.int .i64 x10_1)) (fun _ hk=>hk.2) (.int .i64 (wrap64 (x2_1 + t445)))) (fun _ hk=>hk.1.1))))),bm HB,km HK⟩
        ·rw [if_neg c38] at H;have c38b0:decide ((wrap64 (x2_1 + t445)) < 0) = false:=decide_eq_false c38;clear c38;by_cases c46:(wrap64 (x2_1 + t445)) ≥ a0_1
         ·rw [if_pos c46] at H;have c46b0:decide (a0_1 ≤ (wrap64 (x2_1 + t445))) = true:=decide_eq_true c46;clear c46;simp only [Option.some.injEq,Prod.mk.injEq] at H;obtain ⟨rfl,rfl,rfl,rfl,rfl⟩:=H;have hnb47:=NB444_435.out;have hnc47:=NB435_444.out;have hnb48:=NB444_436.out;have hnc48:=NB436_444.out;obtain ⟨hcz49_0,hcz49_1,hfz49_0,hfz49_1⟩:=bt2 BK444;have hnb50:=NB435_436.out;have hnc50:=NB436_435.out;obtain ⟨hcz51_0,hcz51_1,hcz51_2,hfz51_0,hfz51_1,hfz51_2⟩:=bt3 BK435;go_wp2_with (first | ((with_reducible refine gate_callee (f:=140) rfl ?_);refine goesL_ (some 66) rfl rfl Try.func140 (by kernel_rfl) rfl #[.agg #[.int .i64 a0_0,.int .i64 a0_1,.slice (some ad443) x436002_15.length co4],.slice A1 l1.length c1,.int .i64 ji11] rfl (by (try simp only [ma_,mb_,mc_]);first | done | (simp only [hji11];rfl) | rfl | (simp only [List.length_drop,List.length_take];rfl)) ?_;(with_reducible refine (impl_turnGroup.calls kj15 a0_0 a0_1 (fun k_=>some k_ = (.slice (some ad443) x436002_15.length co4:Value).ownBlock) (.slice (some ad443) x436002_15.length co4) x436002_15 _ _ l1 ji11 t448 w0 _ (bm HB) ?side2 ?side3 HC1.out A37.out).mono ?_);(case side2=>exact Kd.R_tight rfl HO_436002.out);(case side3=>exact Kd.C_kept_call HR1.out (km HK) (fun k_ hs_=>(fun e_=>(HO_436002.out.1 k_ e_.symm).1) hs_));rintro e w52 ⟨rfl,hy0,hb,hkp⟩;refine ⟨_,rfl,?_⟩;refine ev7 (Kd.R_mono (ok':=fun k_=>(P0_2_ k_∨w.heap.size ≤ k_)) (Kd.R_keptB ((Kd.R_apart' HO_8.out (Kd.R_typed HO_436002.out) (by decide))) hkp (fun k_ hk_ hs_=>(hk_.2) hs_)) (fun k_ hk_=>hk_.1.1)) (Kd.R_reok rfl hy0 (fun k_ e_=>HO_436002.out.1 k_ e_)) (blk_kept (km_ BK435) hkp (fun hs_=>(fun e_=>(Kd.R_ne HO_436002.out BK435.out (by decide)) e_) hs_)) (blk_kept (km_ BK436) hkp (fun hs_=>(fun e_=>(Kd.R_ne HO_436002.out BK436.out (by decide)) e_) hs_)) (blk_kept (km_ BK444) hkp (fun hs_=>(fun e_=>(Kd.R_away HO_436002.out (fun _ hk=>hk.2)) e_) hs_)) (Kept.then_ (S:=(fun k_=>P0_2_ k_)) (km HK) hkp (fun k_ hs_=>(fun e_=>(HO_436002.out.1 k_ e_.symm).1) hs_)) (hb) ?_;clear HO_8 HO_436002 BK435 BK436 BK444 HK HB;intro HO_8 HO_436002 BK435 BK436 BK444 HK HB;(try clear hb);(try clear hkp);(try clear hy0);obtain ⟨hcz53_0,hcz53_1,hcz53_2,hfz53_0,hfz53_1,hfz53_2⟩:=bt3 BK435;obtain ⟨hcz54_0,hcz54_1,hcz54_2,hfz54_0,hfz54_1,hfz54_2⟩:=bt3 BK436))
          refine bodyPost_ret (results_ct rfl _ _ gb436 127 #[.int .i64 3,.int .i64 x10_1,.int .i64 (wrap64 (x2_1 + t445))] (0,0) _ rfl (fp BK436 rfl) Try.underlying127 rfl (by kernel_rfl)) rfl ?_;exact ⟨_,by first | rfl | (simp [e0_,e1_] <;> rfl) | (simp only [← hji11];first | rfl | (simp [e0_,e1_] <;> rfl)) | (simp [*,e0_,e1_] <;> rfl),Kd.R_mv (Kd.R_mono (ok':=fun k_=>((P0_2_ k_∨w.heap.size ≤ k_))) (Kd.R_far (p:=⟨gb436,2,none⟩) (Kd.R_far (p:=⟨gb436,1,none⟩) (Kd.R_far (p:=⟨gb436,0,none⟩) (Kd.R_types HO_8.out BK436.out (by decide)) (fun _ hk=>hk.2) (.int .i64 3)) (fun _ hk=>hk.2) (.int .i64 x10_1)) (fun _ hk=>hk.2) (.int .i64 (wrap64 (x2_1 + t445)))) (fun _ hk=>hk.1)),(by first | exact (Kd.R_mv (Kd.R_mono (ok':=fun k_=>((P0_2_ k_∨w.heap.size ≤ k_))) (Kd.R_far (p:=⟨gb436,2,none⟩) (Kd.R_far (p:=⟨gb436,1,none⟩) (Kd.R_far (p:=⟨gb436,0,none⟩) (Kd.R_types HO_436002.out BK436.out (by decide)) (fun _ hk=>hk.2) (.int .i64 3)) (fun _ hk=>hk.2) (.int .i64 x10_1)) (fun _ hk=>hk.2) (.int .i64 (wrap64 (x2_1 + t445)))) (fun _ hk=>hk.1.1))) | (simp only [hl436002_1,hl436002_15];exact (Kd.R_mv (Kd.R_mono (ok':=fun k_=>((P0_2_ k_∨w.heap.size ≤ k_))) (Kd.R_far (p:=⟨gb436,2,none⟩) (Kd.R_far (p:=⟨gb436,1,none⟩) (Kd.R_far (p:=⟨gb436,0,none⟩) (Kd.R_types HO_436002.out BK436.out (by decide)) (fun _ hk=>hk.2) (.int .i64 3)) (fun _ hk=>hk.2) (.int .i64 x10_1)) (fun _ hk=>hk.2) (.int .i64 (wrap64 (x2_1 + t445)))) (fun _ hk=>hk.1.1))))),bm HB,km HK⟩
         ·rw [if_neg c46] at H;have c46b0:decide (a0_1 ≤ (wrap64 (x2_1 + t445))) = false:=decide_eq_false c46;clear c46;have H':=Aside0.mk H;clear H;have hnb55:=NB444_435.out;have hnc55:=NB435_444.out;have hnb56:=NB444_436.out;have hnc56:=NB436_444.out;obtain ⟨hcz57_0,hcz57_1,hfz57_0,hfz57_1⟩:=bt2 BK444;have hnb58:=NB435_436.out;have hnc58:=NB436_435.out;obtain ⟨hcz59_0,hcz59_1,hcz59_2,hfz59_0,hfz59_1,hfz59_2⟩:=bt3 BK435;go_wp2_with (first | ((with_reducible refine gate_callee (f:=140) rfl ?_);refine goesL_ (some 66) rfl rfl Try.func140 (by kernel_rfl) rfl #[.agg #[.int .i64 a0_0,.int .i64 a0_1,.slice (some ad443) x436002_15.length co4],.slice A1 l1.length c1,.int .i64 ji11] rfl (by (try simp only [ma_,mb_,mc_]);first | done | (simp only [hji11];rfl) | rfl | (simp only [List.length_drop,List.length_take];rfl)) ?_;(with_reducible refine (impl_turnGroup.calls kj15 a0_0 a0_1 (fun k_=>some k_ = (.slice (some ad443) x436002_15.length co4:Value).ownBlock) (.slice (some ad443) x436002_15.length co4) x436002_15 _ _ l1 ji11 t448 w0 _ (bm HB) ?side2 ?side3 HC1.out A37.out).mono ?_);(case side2=>exact Kd.R_tight rfl HO_436002.out);(case side3=>exact Kd.C_kept_call HR1.out (km HK) (fun k_ hs_=>(fun e_=>(HO_436002.out.1 k_ e_.symm).1) hs_));rintro e w60 ⟨rfl,hy0,hb,hkp⟩;refine ⟨_,rfl,?_⟩;refine ev7 (Kd.R_mono (ok':=fun k_=>(P0_2_ k_∨w.heap.size ≤ k_)) (Kd.R_keptB ((Kd.R_apart' HO_8.out (Kd.R_typed HO_436002.out) (by decide))) hkp (fun k_ hk_ hs_=>(hk_.2) hs_)) (fun k_ hk_=>hk_.1.1)) (Kd.R_reok rfl hy0 (fun k_ e_=>HO_436002.out.1 k_ e_)) (blk_kept (km_ BK435) hkp (fun hs_=>(fun e_=>(Kd.R_ne HO_436002.out BK435.out (by decide)) e_) hs_)) (blk_kept (km_ BK436) hkp (fun hs_=>(fun e_=>(Kd.R_ne HO_436002.out BK436.out (by decide)) e_) hs_)) (blk_kept (km_ BK444) hkp (fun hs_=>(fun e_=>(Kd.R_away HO_436002.out (fun _ hk=>hk.2)) e_) hs_)) (Kept.then_ (S:=(fun k_=>P0_2_ k_)) (km HK) hkp (fun k_ hs_=>(fun e_=>(HO_436002.out.1 k_ e_.symm).1) hs_)) (hb) ?_;clear HO_8 HO_436002 BK435 BK436 BK444 HK HB;intro HO_8 HO_436002 BK435 BK436 BK444 HK HB;(try clear hb);(try clear hkp);(try clear hy0);obtain ⟨hcz61_0,hcz61_1,hcz61_2,hfz61_0,hfz61_1,hfz61_2⟩:=bt3 BK435))
          (try simp only [← hl436002_1,← hl436002_15])
          go_roundg kj15
          case measure=>have:=HK1.out;have:=HJ15.out;omega
          case rel=>exact ⟨(wrap64 (x2_1 + t445)),(y440),(wrap64 (-t445)),(wrap64 (x10_1 + 1)),(t448),(x437000_1),(x437001_1),(x437002_1),(by first | rfl | (simp;done) | (simp [*];done)),(by first | rfl | (simp;done) | (simp [*];done)),(by first | rfl | (simp;done) | (simp [*];done)),H',⟨by have:=HK1.out;have:=HJ15.out;omega⟩,⟨by (try simp only [hl436002_1]);(try simp only [hl436002_15]);exact Kd.R_mv HO_8.out⟩,⟨by (try simp only [hl436002_1]);(try simp only [hl436002_15]);exact Kd.R_mv (Kd.R_mono (ok':=fun k_=>((P0_2_ k_∨w.heap.size ≤ k_))) HO_436002.out (fun _ hk=>hk.1))⟩,⟨by (try simp only [hl436002_1]);(try simp only [hl436002_15]);exact km_ BK435⟩,⟨by (try simp only [hl436002_1]);(try simp only [hl436002_15]);exact km_ BK436⟩,⟨km HK⟩,⟨bm HB⟩⟩
       ·rw [if_neg c36] at H;have c36b0:(((rd_T88 x436002_1 (ji11)).f0) == 6) = false:=beq_eq_false_iff_ne.mpr c36;have c36b1:(((rd_T88 x436002_1 (ji11)).f0) != 6) = true:=bne_iff_ne.mpr c36;by_cases c62:(wrap64 (x2_1 + t445)) < 0
        ·rw [if_pos c62] at H;have c62b0:decide ((wrap64 (x2_1 + t445)) < 0) = true:=decide_eq_true c62;clear c62;simp only [Option.some.injEq,Prod.mk.injEq] at H;obtain ⟨rfl,rfl,rfl,rfl,rfl⟩:=H;have hnb63:=NB444_435.out;have hnc63:=NB435_444.out;have hnb64:=NB444_436.out;have hnc64:=NB436_444.out;obtain ⟨hcz65_0,hcz65_1,hfz65_0,hfz65_1⟩:=bt2 BK444;have hnb66:=NB436_435.out;have hnc66:=NB435_436.out;obtain ⟨hcz67_0,hcz67_1,hcz67_2,hfz67_0,hfz67_1,hfz67_2⟩:=bt3 BK436;go_wp2;refine bodyPost_ret (results_ct rfl _ _ gb436 127 #[.int .i64 3,.int .i64 x10_1,.int .i64 (wrap64 (x2_1 + t445))] (0,0) _ rfl (fp BK436 rfl) Try.underlying127 rfl (by kernel_rfl)) rfl ?_;exact ⟨_,by first | rfl | (simp [e0_,e1_] <;> rfl) | (simp only [← hji11];first | rfl | (simp [e0_,e1_] <;> rfl)) | (simp [*,e0_,e1_] <;> rfl),Kd.R_mv (Kd.R_mono (ok':=fun k_=>((P0_2_ k_∨w.heap.size ≤ k_))) (Kd.R_far (p:=⟨gb436,2,none⟩) (Kd.R_far (p:=⟨gb436,1,none⟩) (Kd.R_far (p:=⟨gb436,0,none⟩) (Kd.R_types HO_8.out BK436.out (by decide)) (fun _ hk=>hk.2) (.int .i64 3)) (fun _ hk=>hk.2) (.int .i64 x10_1)) (fun _ hk=>hk.2) (.int .i64 (wrap64 (x2_1 + t445)))) (fun _ hk=>hk.1)),(by first | exact (Kd.R_mv (Kd.R_mono (ok':=fun k_=>((P0_2_ k_∨w.heap.size ≤ k_))) (Kd.R_far (p:=⟨gb436,2,none⟩) (Kd.R_far (p:=⟨gb436,1,none⟩) (Kd.R_far (p:=⟨gb436,0,none⟩) (Kd.R_types HO_436002.out BK436.out (by decide)) (fun _ hk=>hk.2) (.int .i64 3)) (fun _ hk=>hk.2) (.int .i64 x10_1)) (fun _ hk=>hk.2) (.int .i64 (wrap64 (x2_1 + t445)))) (fun _ hk=>hk.1.1))) | (simp only [hl436002_1,hl436002_15];exact (Kd.R_mv (Kd.R_mono (ok':=fun k_=>((P0_2_ k_∨w.heap.size ≤ k_))) (Kd.R_far (p:=⟨gb436,2,none⟩) (Kd.R_far (p:=⟨gb436,1,none⟩) (Kd.R_far (p:=⟨gb436,0,none⟩) (Kd.R_types HO_436002.out BK436.out (by decide)) (fun _ hk=>hk.2) (.int .i64 3)) (fun _ hk=>hk.2) (.int .i64 x10_1)) (fun _ hk=>hk.2) (.int .i64 (wrap64 (x2_1 + t445)))) (fun _ hk=>hk.1.1))))),bm HB,km HK⟩
        ·rw [if_neg c62] at H;have c62b0:decide ((wrap64 (x2_1 + t445)) < 0) = false:=decide_eq_false c62;clear c62;by_cases c68:(wrap64 (x2_1 + t445)) ≥ a0_1
         ·rw [if_pos c68] at H;have c68b0:decide (a0_1 ≤ (wrap64 (x2_1 + t445))) = true:=decide_eq_true c68;clear c68;simp only [Option.some.injEq,Prod.mk.injEq] at H;obtain ⟨rfl,rfl,rfl,rfl,rfl⟩:=H;have hnb69:=NB444_435.out;have hnc69:=NB435_444.out;have hnb70:=NB444_436.out;have hnc70:=NB436_444.out;obtain ⟨hcz71_0,hcz71_1,hfz71_0,hfz71_1⟩:=bt2 BK444;have hnb72:=NB435_436.out;have hnc72:=NB436_435.out;obtain ⟨hcz73_0,hcz73_1,hcz73_2,hfz73_0,hfz73_1,hfz73_2⟩:=bt3 BK435;obtain ⟨hcz74_0,hcz74_1,hcz74_2,hfz74_0,hfz74_1,hfz74_2⟩:=bt3 BK436;go_wp2;refine bodyPost_ret (results_ct rfl _ _ gb436 127 #[.int .i64 3,.int .i64 x10_1,.int .i64 (wrap64 (x2_1 + t445))] (0,0) _ rfl (fp BK436 rfl) Try.underlying127 rfl (by kernel_rfl)) rfl ?_;exact ⟨_,by first | rfl | (simp [e0_,e1_] <;> rfl) | (simp only [← hji11];first | rfl | (simp [e0_,e1_] <;> rfl)) | (simp [*,e0_,e1_] <;> rfl),Kd.R_mv (Kd.R_mono (ok':=fun k_=>((P0_2_ k_∨w.heap.size ≤ k_))) (Kd.R_far (p:=⟨gb436,2,none⟩) (Kd.R_far (p:=⟨gb436,1,none⟩) (Kd.R_far (p:=⟨gb436,0,none⟩) (Kd.R_types HO_8.out BK436.out (by decide)) (fun _ hk=>hk.2) (.int .i64 3)) (fun _ hk=>hk.2) (.int .i64 x10_1)) (fun _ hk=>hk.2) (.int .i64 (wrap64 (x2_1 + t445)))) (fun _ hk=>hk.1)),(by first | exact (Kd.R_mv (Kd.R_mono (ok':=fun k_=>((P0_2_ k_∨w.heap.size ≤ k_))) (Kd.R_far (p:=⟨gb436,2,none⟩) (Kd.R_far (p:=⟨gb436,1,none⟩) (Kd.R_far (p:=⟨gb436,0,none⟩) (Kd.R_types HO_436002.out BK436.out (by decide)) (fun _ hk=>hk.2) (.int .i64 3)) (fun _ hk=>hk.2) (.int .i64 x10_1)) (fun _ hk=>hk.2) (.int .i64 (wrap64 (x2_1 + t445)))) (fun _ hk=>hk.1.1))) | (simp only [hl436002_1,hl436002_15];exact (Kd.R_mv (Kd.R_mono (ok':=fun k_=>((P0_2_ k_∨w.heap.size ≤ k_))) (Kd.R_far (p:=⟨gb436,2,none⟩) (Kd.R_far (p:=⟨gb436,1,none⟩) (Kd.R_far (p:=⟨gb436,0,none⟩) (Kd.R_types HO_436002.out BK436.out (by decide)) (fun _ hk=>hk.2) (.int .i64 3)) (fun _ hk=>hk.2) (.int .i64 x10_1)) (fun _ hk=>hk.2) (.int .i64 (wrap64 (x2_1 + t445)))) (fun _ hk=>hk.1.1))))),bm HB,km HK⟩
         ·rw [if_neg c68] at H;have c68b0:decide (a0_1 ≤ (wrap64 (x2_1 + t445))) = false:=decide_eq_false c68;clear c68;have H':=Aside0.mk H;clear H;have hnb75:=NB444_435.out;have hnc75:=NB435_444.out;have hnb76:=NB444_436.out;have hnc76:=NB436_444.out;obtain ⟨hcz77_0,hcz77_1,hfz77_0,hfz77_1⟩:=bt2 BK444;have hnb78:=NB435_436.out;have hnc78:=NB436_435.out;obtain ⟨hcz79_0,hcz79_1,hcz79_2,hfz79_0,hfz79_1,hfz79_2⟩:=bt3 BK435;go_wp2;(try simp only [← hl436002_1,← hl436002_15])
          go_roundg kj15
          case measure=>have:=HK1.out;have:=HJ15.out;omega
          case rel=>exact ⟨(wrap64 (x2_1 + t445)),(y440),(wrap64 (-t445)),(wrap64 (x10_1 + 1)),(x436002_15),(x437000_1),(x437001_1),(x437002_1),(by first | rfl | (simp;done) | (simp [*];done)),(by first | rfl | (simp;done) | (simp [*];done)),(by first | rfl | (simp;done) | (simp [*];done)),H',⟨by have:=HK1.out;have:=HJ15.out;omega⟩,⟨by (try simp only [hl436002_1]);(try simp only [hl436002_15]);exact Kd.R_mv HO_8.out⟩,⟨by (try simp only [hl436002_1]);(try simp only [hl436002_15]);exact Kd.R_mv (Kd.R_mono (ok':=fun k_=>((P0_2_ k_∨w.heap.size ≤ k_))) HO_436002.out (fun _ hk=>hk.1))⟩,⟨by (try simp only [hl436002_1]);(try simp only [hl436002_15]);exact km_ BK435⟩,⟨by (try simp only [hl436002_1]);(try simp only [hl436002_15]);exact km_ BK436⟩,⟨km HK⟩,⟨bm HB⟩⟩
    ·replace c15:=Bool.eq_false_iff.mpr c15;subst c15;have H1:(some (2,x10_1,x2_1,y440,x436002_1)) = some (r1,r2,r3,r4,r5):=by rw [if_neg (show ¬ (false = true) by decide)] at H;exact H
     clear H;have H:=H1;clear H1;simp only [Option.some.injEq,Prod.mk.injEq] at H;obtain ⟨rfl,rfl,rfl,rfl,rfl⟩:=H;have hnb80:=NB435_436.out;have hnc80:=NB436_435.out;obtain ⟨hcz81_0,hcz81_1,hcz81_2,hfz81_0,hfz81_1,hfz81_2⟩:=bt3 BK435;go_wp2_with (first | ((with_reducible refine gate_builtin (b:=.append) (xs:=#[.tmp 28,.tmp 30]) rfl ?_);at_builtin;refine Kd.R_append (Kd.int .i64) (w0:=w0) w0.heap.size rfl (.tmp 28) (.tmp 30) 23 3 (.int .i64 0) 8 rfl Try.underlying23 info3 rfl (by decide) (by omega) u8 x8_1 ji11 [.int .i64 ji11] (fun k_=>(P0_2_ k_∨w.heap.size ≤ k_)) (fun _=>False) rfl rfl ?aP (fun _ hk=>hk.elim) ?aF ?aO ?aB ?aS ?aL ?_;(case aP=>exact rfl);(case aB=>exact (bm HB));(case aF=>exact (fun k_ hk=>(.inr (Nat.le_trans (by first | exact HK.out.1 | exact (show Kept w _ (fun k_=>P0_2_ k_) from km HK).1) hk))));(case aO=>exact (Kd.R_mv HO_8.out));(case aS=>exact (below_size (bm HB)));(case aL=>have:=LMc10.out;omega);intro v441 w82 ho hb hg hat;rw [← Ny440.out] at ho;refine ev6 (Kd.R_over' (Kd.R_mv HO_436002.out) (Kd.R_typed (Kd.R_mv HO_8.out)) (by decide) hg) (blk_grown (km_ BK435) hg (Kd.R_ne HO_8.out BK435.out (by decide))) (blk_grown (km_ BK436) hg (Kd.R_ne HO_8.out BK436.out (by decide))) (hb) (Kept.of_grown (S:=(fun k_=>P0_2_ k_)) hg (km HK) (fun k_ e_=>(HO_8.out.1 k_ e_))) (ho) ?_;clear HO_436002 BK435 BK436 HB HK HO_8;intro HO_436002 BK435 BK436 HB HK HO442;clear ho hb hg hat;obtain ⟨hcz83_0,hcz83_1,hcz83_2,hfz83_0,hfz83_1,hfz83_2⟩:=bt3 BK435;have p443:0 ≤ ((ji11):Int):=of_decide_eq_true (by first | (with_reducible assumption) | assumption);have q443:(ji11) < (x436002_1.length:Int):=of_decide_eq_true (by first | (with_reducible assumption) | assumption);obtain ⟨ad443,e443,hx443_0,hx443_1⟩:=at_T88 (Kd.R_reads' HO_436002.out).2.2 (ji11) p443 q443;cases e443;replace p443:=eq_true p443;replace q443:=eq_true q443) | ((with_reducible refine gate_dst (N:=12) rfl ?_);refine box_event ?hg (N:=12) ?hd (cs:=#[.int .i64 0,.int .i64 0]) (t:=88) ?hr ?_;(case hd=>rfl);(case hg=>rfl);(case hr=>first | (go_simp;done) | (go_simp;rfl));intro gb444 hg w84 hbox hb;refine ev12 (Kd.R_below (Kd.R_elderB (Kd.R_mv HO_436002.out) gb444 (Nat.le_of_eq hg.symm)) hb) (Kd.R_below (Kd.R_mv HO442.out) hb) (kb BK435 hb) (kb BK436 hb) (Kept.below (S:=(fun k_=>P0_2_ k_)) (km HK) hb) (bs HB hb) (hbox) ((by rw [hg];exact (by first | exact HK.out.1 | exact (show Kept w _ (fun k_=>P0_2_ k_) from km HK).1):w.heap.size ≤ gb444)) (gle hg HB) (gnf hg BK435) (gne hg BK435) (gnf hg BK436) ?_;intro n0_ n1_ n2_ n3_ n4_ n5_ n6_ n7_ n8_ n9_ n10_ n11_;refine ev1 (gne hg BK436) ?_;intro n12_;clear HO_436002 HO442 BK435 BK436 HK HB;revert n0_ n1_ n2_ n3_ n4_ n5_ n6_ n7_ n8_ n9_ n10_ n11_ n12_;intro HO_436002 HO442 BK435 BK436 HK HB BK444 GW444 GE444 NB435_444 NB444_435 NB436_444 NB444_436;clear hb hbox hg;have hnb85:=NB444_435.out;have hnc85:=NB435_444.out;have hnb86:=NB444_436.out;have hnc86:=NB436_444.out;obtain ⟨hcz87_0,hcz87_1,hfz87_0,hfz87_1⟩:=bt2 BK444) | ((with_reducible refine gate_callee (f:=139) rfl ?_);refine goesL_ (some 40) rfl rfl Try.func139 (by kernel_rfl) rfl #[.agg #[.int .i64 ((rd_T88 x436002_1 (ji11)).f0),.int .i64 ((rd_T88 x436002_1 (ji11)).f1)],.int .i64 x9_1] rfl (by (try simp only [ma_,mb_,mc_]);first | done | (simp only [hji11];rfl) | rfl | (simp only [List.length_drop,List.length_take];rfl)) ?_;(with_reducible refine (impl_GoesTo.calls k1 ((rd_T88 x436002_1 (ji11)).f0) ((rd_T88 x436002_1 (ji11)).f1) x9_1 t445 false _ A14.out).mono ?_);rintro e w88 ⟨rfl,hb⟩;refine ⟨_,rfl,?_⟩;refine ev7 (Kd.R_below (Kd.R_mv (Kd.R_mono (Kd.R_far (p:=⟨gb444,1,none⟩) (Kd.R_far (p:=⟨gb444,0,none⟩) (Kd.R_mono HO_436002.out (fun k_ hk=>(⟨hk,hk.2⟩:_∧k_ ≠ gb444))) (fun _ hk=>hk.2) (.int .i64 ((rd_T88 x436002_1 (ji11)).f0))) (fun _ hk=>hk.2) (.int .i64 ((rd_T88 x436002_1 (ji11)).f1))) (fun _ h_=>h_.1))) hb) (Kd.R_below (Kd.R_ft HO442.out BK444.out (by decide)) hb) (blk_below (g:=gb435) (o:=.cells #[.int .i64 a0_0,.int .i64 a0_1,.slice (some ad443) x436002_1.length co4] 50 (0,0)) (fp BK435 rfl) hb) (blk_below (g:=gb436) (o:=.cells #[.int .i64 x437000_1,.int .i64 x437001_1,.int .i64 x437002_1] 127 (0,0)) (fp BK436 rfl) hb) (blk_below (g:=gb444) (o:=.cells #[.int .i64 ((rd_T88 x436002_1 (ji11)).f0),.int .i64 ((rd_T88 x436002_1 (ji11)).f1)] 88 (0,0)) (fp BK444 rfl) hb) (Kept.below (S:=(fun k_=>P0_2_ k_)) (km HK) hb) (bs HB hb) ?_;clear HO_436002 HO442 BK435 BK436 BK444 HK HB;intro HO_436002 HO442 BK435 BK436 BK444 HK HB;(try clear hb);obtain ⟨hcz89_0,hcz89_1,hcz89_2,hfz89_0,hfz89_1,hfz89_2⟩:=bt3 BK436))
     refine bodyPost_ret (results_ct rfl _ _ gb436 127 #[.int .i64 2,.int .i64 x10_1,.int .i64 x2_1] (0,0) _ rfl (fp BK436 rfl) Try.underlying127 rfl (by kernel_rfl)) rfl ?_;exact ⟨_,by first | rfl | (simp [e0_,e1_] <;> rfl) | (simp only [← hji11];first | rfl | (simp [e0_,e1_] <;> rfl)) | (simp [*,e0_,e1_] <;> rfl),Kd.R_mv (Kd.R_mono (ok':=fun k_=>((P0_2_ k_∨w.heap.size ≤ k_))) (Kd.R_far (p:=⟨gb436,2,none⟩) (Kd.R_far (p:=⟨gb436,1,none⟩) (Kd.R_far (p:=⟨gb436,0,none⟩) (Kd.R_types HO442.out BK436.out (by decide)) (fun _ hk=>hk.2) (.int .i64 2)) (fun _ hk=>hk.2) (.int .i64 x10_1)) (fun _ hk=>hk.2) (.int .i64 x2_1)) (fun _ hk=>hk.1)),(by first | exact (Kd.R_mv (Kd.R_mono (ok':=fun k_=>((P0_2_ k_∨w.heap.size ≤ k_))) (Kd.R_far (p:=⟨gb436,2,none⟩) (Kd.R_far (p:=⟨gb436,1,none⟩) (Kd.R_far (p:=⟨gb436,0,none⟩) (Kd.R_types HO_436002.out BK436.out (by decide)) (fun _ hk=>hk.2) (.int .i64 2)) (fun _ hk=>hk.2) (.int .i64 x10_1)) (fun _ hk=>hk.2) (.int .i64 x2_1)) (fun _ hk=>hk.1.1))) | (simp only [hl436002_1];exact (Kd.R_mv (Kd.R_mono (ok':=fun k_=>((P0_2_ k_∨w.heap.size ≤ k_))) (Kd.R_far (p:=⟨gb436,2,none⟩) (Kd.R_far (p:=⟨gb436,1,none⟩) (Kd.R_far (p:=⟨gb436,0,none⟩) (Kd.R_types HO_436002.out BK436.out (by decide)) (fun _ hk=>hk.2) (.int .i64 2)) (fun _ hk=>hk.2) (.int .i64 x10_1)) (fun _ hk=>hk.2) (.int .i64 x2_1)) (fun _ hk=>hk.1.1))))),bm HB,km HK⟩
   ·rw [if_neg c9] at H;have c9b0:decide (x10_1 < a0_0) = false:=decide_eq_false c9;clear c9;simp only [Option.some.injEq,Prod.mk.injEq] at H;obtain ⟨rfl,rfl,rfl,rfl,rfl⟩:=H;have hnb90:=NB435_436.out;have hnc90:=NB436_435.out;obtain ⟨hcz91_0,hcz91_1,hcz91_2,hfz91_0,hfz91_1,hfz91_2⟩:=bt3 BK435;obtain ⟨hcz92_0,hcz92_1,hcz92_2,hfz92_0,hfz92_1,hfz92_2⟩:=bt3 BK436;go_wp2;refine bodyPost_ret (results_ct rfl _ _ gb436 127 #[.int .i64 1,.int .i64 a0_0,.int .i64 x2_1] (0,0) _ rfl (fp BK436 rfl) Try.underlying127 rfl (by kernel_rfl)) rfl ?_;exact ⟨_,by first | rfl | (simp [e0_,e1_] <;> rfl) | (simp [*,e0_,e1_] <;> rfl),Kd.R_mv (Kd.R_mono (ok':=fun k_=>((P0_2_ k_∨w.heap.size ≤ k_))) (Kd.R_far (p:=⟨gb436,2,none⟩) (Kd.R_far (p:=⟨gb436,1,none⟩) (Kd.R_far (p:=⟨gb436,0,none⟩) (Kd.R_types HO_8.out BK436.out (by decide)) (fun _ hk=>hk.2) (.int .i64 1)) (fun _ hk=>hk.2) (.int .i64 a0_0)) (fun _ hk=>hk.2) (.int .i64 x2_1)) (fun _ hk=>hk.1)),(by first | exact (Kd.R_mv (Kd.R_mono (ok':=fun k_=>((P0_2_ k_∨w.heap.size ≤ k_))) (Kd.R_far (p:=⟨gb436,2,none⟩) (Kd.R_far (p:=⟨gb436,1,none⟩) (Kd.R_far (p:=⟨gb436,0,none⟩) (Kd.R_types HO_436002.out BK436.out (by decide)) (fun _ hk=>hk.2) (.int .i64 1)) (fun _ hk=>hk.2) (.int .i64 a0_0)) (fun _ hk=>hk.2) (.int .i64 x2_1)) (fun _ hk=>hk.1))) | (simp only [hl436002_1];exact (Kd.R_mv (Kd.R_mono (ok':=fun k_=>((P0_2_ k_∨w.heap.size ≤ k_))) (Kd.R_far (p:=⟨gb436,2,none⟩) (Kd.R_far (p:=⟨gb436,1,none⟩) (Kd.R_far (p:=⟨gb436,0,none⟩) (Kd.R_types HO_436002.out BK436.out (by decide)) (fun _ hk=>hk.2) (.int .i64 1)) (fun _ hk=>hk.2) (.int .i64 a0_0)) (fun _ hk=>hk.2) (.int .i64 x2_1)) (fun _ hk=>hk.1))))),bm HB,km HK⟩

/-! ### impl_hasEnds: function 108 -/
def impl_hasEnds.l0:Nat→List Int→List Int→Int→Int→Int→Int→List (S88)→List Int→List Int→Int→Int→List (S88)→Int→Int→List (S88)→Option (Bool)
  | 0,_,_,_,_,_,_,_,_,_,_,_,_,_,_,_=>none
  | k + 1,x6,x16,x17,x18,x450000,x450001,x450002,x450003,x450004,x451000,x451001,x451002,x457000,x457001,x457002=>if x18 < x17 then (if 0 ≤ x18 then (if x18 < (x16.length:Int) then ((impl_drop.f k x457000 x457001 x457002 x6 (rd x16 x18)).bind fun bt461=>((impl_endNumber.f x451000 x451001 x451002 bt461.1 bt461.2.1 bt461.2.2.1).bind fun t469=>(if x18 < (x450004.length:Int) then (if t469 = (rd x450004 x18) then (impl_hasEnds.l0 k x6 x16 x17 (wrap64 (x18 + 1)) x450000 x450001 x450002 x450003 x450004 x451000 x451001 x451002 x457000 x457001 bt461.2.2.2.2) else (some false)) else (none)))) else (none)) else (none)) else (some true)
def impl_hasEnds.f (k:Nat) (a0_0:Int) (a0_1:Int) (l0_2:List (S88)) (l0_3:List Int) (l0_4:List Int) (a1_0:Int) (a1_1:Int) (l1_2:List (S88)):Option (Bool):=(impl_copyBoard.f a1_0 a1_1 l1_2).bind fun bt451=>((impl_groupNumbers.f k a1_0 a1_1 l1_2).bind fun t457=>(impl_hasEnds.l0 k t457 l0_3 (l0_3.length:Int) 0 a0_0 a0_1 l0_2 l0_3 l0_4 a1_0 a1_1 l1_2 bt451.1 bt451.2.1 bt451.2.2))
theorem impl_hasEnds.calls (k:Nat) (a0_0:Int) (a0_1:Int) (A0_2:Option Addr) (c0_2:Nat) (l0_2:List (S88)) (A0_3:Option Addr) (c0_3:Nat) (l0_3:List Int) (A0_4:Option Addr) (c0_4:Nat) (l0_4:List Int) (a1_0:Int) (a1_1:Int) (A1_2:Option Addr) (c1_2:Nat) (l1_2:List (S88)) (r:Bool) (w:World) (hr0_2:Kd.C k88 w A0_2 l0_2.length l0_2) (hc0_2:l0_2.length ≤ c0_2) (hr0_3:Kd.C (Kd.int .i64) w A0_3 l0_3.length l0_3) (hc0_3:l0_3.length ≤ c0_3) (hr0_4:Kd.C (Kd.int .i64) w A0_4 l0_4.length l0_4) (hc0_4:l0_4.length ≤ c0_4) (hr1_2:Kd.C k88 w A1_2 l1_2.length l1_2) (hc1_2:l1_2.length ≤ c1_2) (h:impl_hasEnds.f k a0_0 a0_1 l0_2 l0_3 l0_4 a1_0 a1_1 l1_2 = some r) :
    Calls Try.prog 108 #[.agg #[.int .i64 a0_0,.int .i64 a0_1,.slice A0_2 l0_2.length c0_2,.slice A0_3 l0_3.length c0_3,.slice A0_4 l0_4.length c0_4],.agg #[.int .i64 a1_0,.int .i64 a1_1,.slice A1_2 l1_2.length c1_2]] w fun e w'=>e = .returned (.bool r)∧Below w.heap.size w w':=by
 have S:=St.init (w:=w) (dc k88_heap at88 hr0_2 hc0_2 (dc (Kd.heap_int .i64) (atI .i64) hr0_3 hc0_3 (dc (Kd.heap_int .i64) (atI .i64) hr0_4 hc0_4 (dc k88_heap at88 hr1_2 hc1_2 dn))))
 clear hr0_2 hc0_2 hr0_3 hc0_3 hr0_4 hc0_4 hr1_2 hc1_2
 have F:=S.fc
 have H:=h;clear h;unfold impl_hasEnds.f at H
 replace H:=Option.bind_eq_some_iff.mp H;obtain ⟨⟨t451,t452,t453⟩,A3,H⟩:=H;(try dsimp only at H)
 replace H:=Option.bind_eq_some_iff.mp H;obtain ⟨t457,A4,H⟩:=H;(try dsimp only at H)
 go_enter Try.func108,Try.ntmps108
 go_wp2_with (first | ((with_reducible refine gd 2 rfl (L ?_));refine bo 2 (.agg #[_,_,_,_,_]) S ?_;clear S F;intro gb449 W S;have F:=S.fc) | ((with_reducible refine gd 3 rfl (L ?_));refine bo 3 (.agg #[_,_,_]) S ?_;clear S F;intro gb450 W S;have F:=S.fc) | ((with_reducible refine gate_callee (f:=117) rfl (L ?_));refine cl (some 12) Try.func117 (impl_copyBoard.calls _ _ _ _ _ _ _ _ _ S.c S.n A3) (hargs:=by (simp only [ma_,mb_,mc_,F] <;> rfl)) (h:=?_);rintro e W ⟨v454,rfl,ho0,hb⟩;refine ⟨_,rfl,?_⟩;replace S:=S.got at88 hb ho0;obtain ⟨At453,ct453,rfl,S⟩:=S;clear F hb ho0;have F:=S.fc) | ((with_reducible refine gd 5 rfl (L ?_));refine al 5 S zi50 ?_;clear S F;intro gb456 W S;have F:=S.fc) | ((with_reducible refine gate_callee (f:=128) rfl (L ?_));refine cl (some 14) Try.func128 (impl_groupNumbers.calls _ _ _ _ _ _ _ _ S.c S.n A4) (hargs:=by (simp only [ma_,mb_,mc_,F] <;> rfl)) (h:=?_);rintro e W ⟨v458,rfl,ho0,hb⟩;refine ⟨_,rfl,?_⟩;replace S:=S.got (atI .i64) hb ho0;obtain ⟨At457,ct457,rfl,S⟩:=S;clear F hb ho0;have F:=S.fc) | ((with_reducible refine gs (t:=50) rfl (L ?_));(first | refine sb (.agg #[_,_,_]) S sz50 ?_ | refine ro (.agg #[_,_,_]) S sz50 ?_ (ho:=rfl) (hx:=rfl) (hy:=rfl));(clear S F;intro W S;have F:=S.fc)) | ((with_reducible refine gs (t:=127) rfl (L ?_));(first | refine sb (.agg #[_,_,_]) S sz127 ?_ | refine ro (.agg #[_,_,_]) S sz127 ?_ (ho:=rfl) (hx:=rfl) (hy:=rfl));(clear S F;intro W S;have F:=S.fc)))
 go_loopg [18] k (fun kq v18 w'=>∃ (x18_1:Int) (x457002_1:List (S88)) (Ax457002_1:Option Addr) (cx457002_1:Nat),v18 = .int .i64 x18_1∧impl_hasEnds.l0 kq t457 l0_3 (l0_3.length:Int) x18_1 a0_0 a0_1 l0_2 l0_3 l0_4 a1_0 a1_1 l1_2 t451 t452 x457002_1 = some r∧kq ≤ k∧St w w (fun _=>False) [bor at88 A0_2 c0_2 l0_2,bor (atI .i64) A0_3 c0_3 l0_3,bor (atI .i64) A0_4 c0_4 l0_4,bor at88 A1_2 c1_2 l1_2] w'  [row (atI .i64) 3 At457 t457.length ct457 t457,box gb456 50 [.int .i64 t451,.int .i64 t452,.slice Ax457002_1 x457002_1.length cx457002_1],row at88 88 Ax457002_1 x457002_1.length cx457002_1 x457002_1,box gb450 50 [.int .i64 a1_0,.int .i64 a1_1,.slice A1_2 l1_2.length c1_2],box gb449 31 [.int .i64 a0_0,.int .i64 a0_1,.slice A0_2 l0_2.length c0_2,.slice A0_3 l0_3.length c0_3,.slice A0_4 l0_4.length c0_4]])
 case atStart=>exact ⟨0,t453,_,_,(by first | rfl | (simp;done) | (simp [*];done) | (rw [w6_ (by omega) (by omega)])),H,Nat.le_refl _,S⟩
 case round =>
  clear H S F
  obtain ⟨x18_1,x457002_1,Ax457002_1,cx457002_1,rfl,HA,HK1,S⟩:=hrel
  have F:=S.fc
  cases gk with
  | zero=>exact absurd HA (by simp [impl_hasEnds.l0])
  | succ k1 =>
   have H:=HA;clear HA;simp only [impl_hasEnds.l0,F] at H
   replace H:=sp_ H;rcases H with ⟨c18,H⟩ | ⟨c18,H⟩
   · skip
     replace H:=np_ H;obtain ⟨c19,H⟩:=H
     replace H:=np_ H;obtain ⟨c20,H⟩:=H
     replace H:=Option.bind_eq_some_iff.mp H;obtain ⟨⟨t461,t462,t463,t464,t467⟩,A21,H⟩:=H;(try dsimp only at H)
     replace H:=Option.bind_eq_some_iff.mp H;obtain ⟨t469,A22,H⟩:=H;(try dsimp only at H)
     replace H:=np_ H;obtain ⟨c23,H⟩:=H
     replace H:=sp_ H;rcases H with ⟨c24,H⟩ | ⟨c24,H⟩
     · skip
       replace c24:=ceq c24
       go_wp2_with (first | ((with_reducible refine gate_callee (f:=129) rfl (L ?_));obtain ⟨ok_,k_⟩:=S.lend (A:=Ax457002_1);refine cl (some 27) Try.func129 (impl_drop.calls _ _ _ ok_ _ _ _ _ _ _ _ _ _ _ _ _ _ k_.below k_.own k_.c k_.n A21) (hargs:=by (simp only [ma_,mb_,mc_,F] <;> rfl)) (h:=?_);rintro e W ⟨v465,rfl,ho,hy,hb,hk⟩;refine ⟨_,rfl,?_⟩;clear S F;obtain ⟨At464,ct464,rfl,S⟩:=k_.back1 (atI .i64) ho hy hb hk (by decide);clear k_ ho hy hb hk;have F:=S.fc) | ((with_reducible refine gd 9 rfl (L ?_));refine al 9 S zi127 ?_;clear S F;intro gb468 W S;have F:=S.fc) | ((with_reducible refine gs (t:=50) rfl (L ?_));(first | refine sb (.agg #[_,_,_]) S sz50 ?_ | refine ro (.agg #[_,_,_]) S sz50 ?_ (ho:=rfl) (hx:=rfl) (hy:=rfl));(clear S F;intro W S;have F:=S.fc)) | ((with_reducible refine gs (t:=127) rfl (L ?_));(first | refine sb (.agg #[_,_,_]) S sz127 ?_ | refine ro (.agg #[_,_,_]) S sz127 ?_ (ho:=rfl) (hx:=rfl) (hy:=rfl));(clear S F;intro W S;have F:=S.fc)))
       refine rq S [(0,3),(0,5),(1,0),(1,1),(1,4),(0,6),(1,7),(2,2),(0,8)] [] (h:=?_);clear S F;intro W S;have S0:=S;have F:=S.fc
       repeat (first | (refine q0 (h:=?_)) | (refine q1 S0 (h:=?_)) | (refine q0n (h:=?_)) | (refine q1n S0 (h:=?_)))
       refine lk2 (by rfl) (by exact (Eq.refl true)) ?_;refine cl (some 32) Try.func121 (impl_endNumber.calls _ _ _ _ _ _ _ _ _ _ S.c S.n A22) (hargs:=by (simp only [ma_,mb_,mc_,F] <;> rfl)) (h:=?_);rintro e W ⟨rfl,hb⟩;refine ⟨_,rfl,?_⟩;replace S:=S.go hb;clear F hb;have F:=S.fc
       clear S0;have S0:=S;refine ⟨S0,?_⟩
       repeat (first | (refine q0 (h:=?_)) | (refine q1 S0 (h:=?_)) | (refine q0n (h:=?_)) | (refine q1n S0 (h:=?_)))
       refine oz ?_
       try clear S0
       go_wp2_with (first | ((with_reducible refine gs (t:=50) rfl (L ?_));(first | refine sb (.agg #[_,_,_]) S sz50 ?_ | refine ro (.agg #[_,_,_]) S sz50 ?_ (ho:=rfl) (hx:=rfl) (hy:=rfl));(clear S F;intro W S;have F:=S.fc)) | ((with_reducible refine gs (t:=127) rfl (L ?_));(first | refine sb (.agg #[_,_,_]) S sz127 ?_ | refine ro (.agg #[_,_,_]) S sz127 ?_ (ho:=rfl) (hx:=rfl) (hy:=rfl));(clear S F;intro W S;have F:=S.fc)))
       go_roundg k1
       case measure=>omega
       case rel=>(try rw [← (show t467.length = x457002_1.length by simp only [F])] at S);exact ⟨(wrap64 (x18_1 + 1)),t467,_,_,(by first | rfl | (simp;done) | (simp [*];done) | (rw [w6_ (by omega) (by omega)])),H,(by first | omega | exact Nat.le_refl _),S.tl.tl⟩
     · skip
       replace c24:=cne c24
       obtain rfl:=Option.some.inj H
       go_wp2_with (first | ((with_reducible refine gate_callee (f:=129) rfl (L ?_));obtain ⟨ok_,k_⟩:=S.lend (A:=Ax457002_1);refine cl (some 27) Try.func129 (impl_drop.calls _ _ _ ok_ _ _ _ _ _ _ _ _ _ _ _ _ _ k_.below k_.own k_.c k_.n A21) (hargs:=by (simp only [ma_,mb_,mc_,F] <;> rfl)) (h:=?_);rintro e W ⟨v465,rfl,ho,hy,hb,hk⟩;refine ⟨_,rfl,?_⟩;clear S F;obtain ⟨At464,ct464,rfl,S⟩:=k_.back1 (atI .i64) ho hy hb hk (by decide);clear k_ ho hy hb hk;have F:=S.fc) | ((with_reducible refine gd 9 rfl (L ?_));refine al 9 S zi127 ?_;clear S F;intro gb468 W S;have F:=S.fc) | ((with_reducible refine gs (t:=50) rfl (L ?_));(first | refine sb (.agg #[_,_,_]) S sz50 ?_ | refine ro (.agg #[_,_,_]) S sz50 ?_ (ho:=rfl) (hx:=rfl) (hy:=rfl));(clear S F;intro W S;have F:=S.fc)) | ((with_reducible refine gs (t:=127) rfl (L ?_));(first | refine sb (.agg #[_,_,_]) S sz127 ?_ | refine ro (.agg #[_,_,_]) S sz127 ?_ (ho:=rfl) (hx:=rfl) (hy:=rfl));(clear S F;intro W S;have F:=S.fc)))
       refine rq S [(0,3),(0,5),(1,0),(1,1),(1,4),(0,6),(1,7),(2,2),(0,8)] [] (h:=?_);clear S F;intro W S;have S0:=S;have F:=S.fc
       repeat (first | (refine q0 (h:=?_)) | (refine q1 S0 (h:=?_)) | (refine q0n (h:=?_)) | (refine q1n S0 (h:=?_)))
       refine lk2 (by rfl) (by exact (Eq.refl true)) ?_;refine cl (some 32) Try.func121 (impl_endNumber.calls _ _ _ _ _ _ _ _ _ _ S.c S.n A22) (hargs:=by (simp only [ma_,mb_,mc_,F] <;> rfl)) (h:=?_);rintro e W ⟨rfl,hb⟩;refine ⟨_,rfl,?_⟩;replace S:=S.go hb;clear F hb;have F:=S.fc
       clear S0;have S0:=S;refine ⟨S0,?_⟩
       repeat (first | (refine q0 (h:=?_)) | (refine q1 S0 (h:=?_)) | (refine q0n (h:=?_)) | (refine q1n S0 (h:=?_)))
       refine oz ?_
       try clear S0
       go_wp2_with (first | ((with_reducible refine gs (t:=50) rfl (L ?_));(first | refine sb (.agg #[_,_,_]) S sz50 ?_ | refine ro (.agg #[_,_,_]) S sz50 ?_ (ho:=rfl) (hx:=rfl) (hy:=rfl));(clear S F;intro W S;have F:=S.fc)) | ((with_reducible refine gs (t:=127) rfl (L ?_));(first | refine sb (.agg #[_,_,_]) S sz127 ?_ | refine ro (.agg #[_,_,_]) S sz127 ?_ (ho:=rfl) (hx:=rfl) (hy:=rfl));(clear S F;intro W S;have F:=S.fc)))
       go_ret
       exact ⟨(by first | rfl | (simp [e0_,e1_] <;> rfl) | (simp [*,e0_,e1_] <;> rfl)),S.below⟩
   · skip
     obtain rfl:=Option.some.inj H
     go_wp2_with (first | ((with_reducible refine gs (t:=50) rfl (L ?_));(first | refine sb (.agg #[_,_,_]) S sz50 ?_ | refine ro (.agg #[_,_,_]) S sz50 ?_ (ho:=rfl) (hx:=rfl) (hy:=rfl));(clear S F;intro W S;have F:=S.fc)) | ((with_reducible refine gs (t:=127) rfl (L ?_));(first | refine sb (.agg #[_,_,_]) S sz127 ?_ | refine ro (.agg #[_,_,_]) S sz127 ?_ (ho:=rfl) (hx:=rfl) (hy:=rfl));(clear S F;intro W S;have F:=S.fc)))
     go_ret
     exact ⟨(by first | rfl | (simp [e0_,e1_] <;> rfl) | (simp [*,e0_,e1_] <;> rfl)),S.below⟩

/-! ### impl_solutionsOf_1: function 105 -/
/-- What a range over solutionsOf does, told as a fold: step is the body. -/
def solFold {σ:Type} (step:Nat→σ→Int→Int→List S88→Option (σ × Bool)) (r c:Int) (p:List S88) (e ns:List Int):Nat→Int→σ→Option (σ × Bool)
 | 0,_,_=>none
 | k + 1,n,s=>(impl_boardsTried.f k r c p e ns).bind fun t=>if n < t then (impl_boardOf.f k r c p e ns n).bind fun b=>(impl_hasEnds.f k r c p e ns b.1 b.2.1 b.2.2).bind fun y=>if y = true then (step k s b.1 b.2.1 b.2.2).bind fun q=>if q.2 = true then solFold step r c p e ns k (wrap64 (n + 1)) q.1 else some (q.1,false) else solFold step r c p e ns k (wrap64 (n + 1)) s else some (s,true)
/-- A board that a call of yield is handed. -/
def BdArg (args:Array Value) (W:World) (base:Nat) (r c:Int) (xs:List S88):Prop:=∃ A cap,args = #[.agg #[.int .i64 r,.int .i64 c,.slice A xs.length cap]]∧Kd.R k88 88 W base (fun _=>True) (.slice A xs.length cap) xs
theorem sols_folds {σ:Type} (step:Nat→σ→Int→Int→List S88→Option (σ × Bool)) (m k:Nat) (gc:Nat) (r c:Int) (A2:Option Addr) (c2:Nat) (p:List S88) (A3:Option Addr) (c3:Nat) (es:List Int) (A4:Option Addr) (c4:Nat) (ns:List Int) (s0:σ) (q:σ × Bool) (O:Nat→Prop) (base:Nat) (W:World) (hbase:base ≤ W.heap.size)
  (hq:∀ W',Kept W W' O→bxr gc 31 [.int .i64 r,.int .i64 c,.slice A2 p.length c2,.slice A3 es.length c3,.slice A4 ns.length c4] W'∧Kd.C k88 W' A2 p.length p∧Kd.C (Kd.int .i64) W' A3 es.length es∧Kd.C (Kd.int .i64) W' A4 ns.length ns)
  (h2:p.length ≤ c2) (h3:es.length ≤ c3) (h4:ns.length ≤ c4) (h:solFold step r c p es ns k 0 s0 = some q) :
  Folds Fence.wide m Try.prog 105 #[.pointer (some ⟨gc,0,none⟩)] (fun s args W1 s' go=>∃ kk r c xs,step kk s r c xs = some (s',go)∧BdArg args W1 base r c xs) (fun W W'=>Kept W W' O) s0 (fun s' go=>q = (s',go)) W:=by
 intro l J Jx hJ hJx hY h0
 refine callsIn_of_wp Try.func105 rfl trivial ?_ rfl
 simp only [Try.ntmps105,List.size_toArray,List.length_cons,List.length_nil,Nat.reduceAdd,Nat.reduceSub,Array.replicate_succ,Array.replicate_zero,List.push_toArray,List.append_toArray,List.nil_append,List.cons_append]
 refine wpIn_wide.2 ?_
 go_wp2
 go_loopg [3] k (fun kq v3 w'=>∃ (i:Int) (s:σ),v3 = .int .i64 i∧solFold step r c p es ns kq i s = some q∧Kept W w' O∧J s w')
 case atStart=>exact ⟨0,s0,rfl,h,Kept.refl _ _,h0⟩
 case round =>
  clear h h0
  obtain ⟨i,s,rfl,H,HK,HJ⟩:=hrel
  obtain ⟨hb,hp,he,hn⟩:=hq _ HK
  have S:=St.init (w:=wr) (db hb (dc k88_heap at88 hp h2 (dc (Kd.heap_int .i64) (atI .i64) he h3 (dc (Kd.heap_int .i64) (atI .i64) hn h4 dn))))
  clear hb hp he hn
  have F:=S.fc
  cases gk with
  | zero=>exact absurd H (by simp [solFold])
  | succ k1 =>
   simp only [solFold] at H
   replace H:=Option.bind_eq_some_iff.mp H;obtain ⟨t,A3_,H⟩:=H;(try dsimp only at H)
   replace H:=sp_ H;rcases H with ⟨ct,H⟩ | ⟨ct,H⟩
   · skip
     replace H:=Option.bind_eq_some_iff.mp H;obtain ⟨⟨b1,b2,b3⟩,A5,H⟩:=H;(try dsimp only at H)
     replace H:=Option.bind_eq_some_iff.mp H;obtain ⟨y,A6,H⟩:=H;(try dsimp only at H)
     replace H:=sp_ H;rcases H with ⟨cy,H⟩ | ⟨cy,H⟩
     · subst cy
       replace H:=Option.bind_eq_some_iff.mp H;obtain ⟨⟨s2,go⟩,A7,H⟩:=H;(try dsimp only at H)
       go_upto_region 4 with (first | ((with_reducible refine gate_callee (f:=106) rfl (L ?_));refine cl (some 7) Try.func106 (impl_boardsTried.calls _ _ _ _ _ _ _ _ _ _ _ _ _ _ S.c S.n S.c S.n S.c S.n A3_) (hargs:=by (simp only [ma_,mb_,mc_,F] <;> rfl)) (h:=?_);rintro e W ⟨rfl,hb⟩;refine ⟨_,rfl,?_⟩;replace S:=S.go hb;clear F hb;have F:=S.fc) | ((with_reducible refine gate_callee (f:=107) rfl (L ?_));refine cl (some 13) Try.func107 (impl_boardOf.calls _ _ _ _ _ _ _ _ _ _ _ _ _ _ _ _ _ S.c S.n S.c S.n S.c S.n A5) (hargs:=by (simp only [ma_,mb_,mc_,F] <;> rfl)) (h:=?_);rintro e W ⟨v432,rfl,ho0,hb⟩;refine ⟨_,rfl,?_⟩;replace S:=S.got at88 hb ho0;obtain ⟨Ab,cb,rfl,S⟩:=S;clear F hb ho0;have F:=S.fc) | ((with_reducible refine gd 4 rfl (L ?_));refine al 4 S zi50 ?_;clear S F;intro gb W S;have F:=S.fc) | ((with_reducible refine gs (t:=50) rfl (L ?_));(first | refine sb (.agg #[_,_,_]) S sz50 ?_ | refine ro (.agg #[_,_,_]) S sz50 ?_ (ho:=rfl) (hx:=rfl) (hy:=rfl));(clear S F;intro W S;have F:=S.fc)))
       refine (wpIn_wide (n:=m)).1 ?_
       gi_wp2_with (refine ⟨trivial,fun h_=>(by cases h_),?_⟩;gi_at_call 108;refine (callsIn_wide.2 (impl_hasEnds.calls _ _ _ _ _ _ _ _ _ _ _ _ _ _ _ _ _ _ _ S.c S.n S.c S.n S.c S.n S.c S.n A6)).mono ?_;rintro e W2 ⟨rfl,hb⟩;replace S:=S.go hb;clear F hb;have F:=S.fc;obtain ⟨fn,tmps,assign,body,hy,hR⟩:=hY s _ W2 s2 go (hJ _ _ _ HJ S.below) ⟨k1,b1,b2,b3,A7,_,_,rfl,Kd.R_lower (Kd.R_mono (S.rk 1 rfl) (fun _ _=>trivial)) (Nat.le_trans hbase HK.1)⟩)
       refine ⟨fun h_=>(by cases h_),?_⟩
       refine hR.mono ?_
       rintro e W3 ⟨rfl,⟨rfl,HJ3,HK3⟩ | ⟨rfl,HX⟩⟩
       · gi_wp2
         go_wp2
         go_roundg k1
         case measure=>omega
         case rel=>exact ⟨_,s2,(by first | rfl | (simp;done) | (simp [*];done) | (rw [w6_ (by omega) (by omega)])),H,kept_trans (Kept.below HK S.below) HK3,HJ3⟩
       · obtain rfl:=Option.some.inj H
         gi_wp2
         go_wp2
         refine bodyPost_ret (results_none rfl _ _ _) rfl ?_
         exact ⟨⟨_,rfl⟩,by first | exact HX | exact Or.inr ⟨_,rfl,HX⟩⟩
     · replace cy:=cbf cy;subst cy
       go_upto_region 4 with (first | ((with_reducible refine gate_callee (f:=106) rfl (L ?_));refine cl (some 7) Try.func106 (impl_boardsTried.calls _ _ _ _ _ _ _ _ _ _ _ _ _ _ S.c S.n S.c S.n S.c S.n A3_) (hargs:=by (simp only [ma_,mb_,mc_,F] <;> rfl)) (h:=?_);rintro e W ⟨rfl,hb⟩;refine ⟨_,rfl,?_⟩;replace S:=S.go hb;clear F hb;have F:=S.fc) | ((with_reducible refine gate_callee (f:=107) rfl (L ?_));refine cl (some 13) Try.func107 (impl_boardOf.calls _ _ _ _ _ _ _ _ _ _ _ _ _ _ _ _ _ S.c S.n S.c S.n S.c S.n A5) (hargs:=by (simp only [ma_,mb_,mc_,F] <;> rfl)) (h:=?_);rintro e W ⟨v432,rfl,ho0,hb⟩;refine ⟨_,rfl,?_⟩;replace S:=S.got at88 hb ho0;obtain ⟨Ab,cb,rfl,S⟩:=S;clear F hb ho0;have F:=S.fc) | ((with_reducible refine gd 4 rfl (L ?_));refine al 4 S zi50 ?_;clear S F;intro gb W S;have F:=S.fc) | ((with_reducible refine gs (t:=50) rfl (L ?_));(first | refine sb (.agg #[_,_,_]) S sz50 ?_ | refine ro (.agg #[_,_,_]) S sz50 ?_ (ho:=rfl) (hx:=rfl) (hy:=rfl));(clear S F;intro W S;have F:=S.fc)))
       refine (wpIn_wide (n:=m)).1 ?_
       gi_wp2_with (refine ⟨trivial,fun h_=>(by cases h_),?_⟩;gi_at_call 108;refine (callsIn_wide.2 (impl_hasEnds.calls _ _ _ _ _ _ _ _ _ _ _ _ _ _ _ _ _ _ _ S.c S.n S.c S.n S.c S.n S.c S.n A6)).mono ?_;rintro e W2 ⟨rfl,hb⟩;replace S:=S.go hb;clear F hb;have F:=S.fc)
       refine ⟨fun _ h_=>(by cases h_),?_⟩
       gi_wp2
       go_wp2
       go_roundg k1
       case measure=>omega
       case rel=>exact ⟨_,s,(by first | rfl | (simp;done) | (simp [*];done) | (rw [w6_ (by omega) (by omega)])),H,Kept.below HK S.below,hJ _ _ _ HJ S.below⟩
   · skip
     obtain rfl:=Option.some.inj H
     go_wp2_with (first | ((with_reducible refine gate_callee (f:=106) rfl (L ?_));refine cl (some 7) Try.func106 (impl_boardsTried.calls _ _ _ _ _ _ _ _ _ _ _ _ _ _ S.c S.n S.c S.n S.c S.n A3_) (hargs:=by (simp only [ma_,mb_,mc_,F] <;> rfl)) (h:=?_);rintro e W ⟨rfl,hb⟩;refine ⟨_,rfl,?_⟩;replace S:=S.go hb;clear F hb;have F:=S.fc))
     go_end0
     exact ⟨⟨_,rfl⟩,by first | exact hJ _ _ _ HJ S.below | exact Or.inl ⟨_,rfl,hJ _ _ _ HJ S.below⟩⟩

/-! ### impl_solutionsOf: function 72 -/
theorem impl_solutionsOf.calls (a0_0:Int) (a0_1:Int) (A0_2:Option Addr) (c0_2:Nat) (l0_2:List (S88)) (A0_3:Option Addr) (c0_3:Nat) (l0_3:List Int) (A0_4:Option Addr) (c0_4:Nat) (l0_4:List Int) (w:World) :
  Calls Try.prog 72 #[.agg #[.int .i64 a0_0,.int .i64 a0_1,.slice A0_2 l0_2.length c0_2,.slice A0_3 l0_3.length c0_3,.slice A0_4 l0_4.length c0_4]] w fun e w'=>∃ g,e = .returned (.func (.func 105) #[] #[.pointer (some ⟨g,0,none⟩)])∧bxr g 31 [.int .i64 a0_0,.int .i64 a0_1,.slice A0_2 l0_2.length c0_2,.slice A0_3 l0_3.length c0_3,.slice A0_4 l0_4.length c0_4] w'∧w.heap.size ≤ g∧Below w.heap.size w w':=by
 have S:=St.init (w:=w) dn
 go_enter Try.func72,Try.ntmps72
 go_wp2_with ((with_reducible refine gd 1 rfl (L ?_));refine bo 1 (.agg #[_,_,_,_,_]) S ?_;clear S;intro g W S)
 go_ret
 exact ⟨g,rfl,(bx_of S).1,(bx_of S).2,S.below⟩

/-! ### impl_SureCells: function 28 -/
def impl_SureCells.new (su:List Bool) (xs fs:List (S88)):List Bool:=(List.range su.length).map fun j=>su.getD j false && ((((rd_T88 xs (j:Int)).f0) == ((rd_T88 fs (j:Int)).f0)) && (((rd_T88 xs (j:Int)).f1) == ((rd_T88 fs (j:Int)).f1)))
def impl_SureCells.stp (s:(Int × Int × List (S88)) × List Bool) (r c:Int) (xs:List (S88)):Option ((Int × Int × List (S88)) × List Bool):=if s.2.length ≤ xs.length then (if s.1.1 = 0 then (some ((r,c,xs),impl_SureCells.new (List.replicate s.2.length true) xs xs)) else (if s.2.length ≤ s.1.2.2.length then (some (s.1,impl_SureCells.new s.2 xs s.1.2.2)) else (none))) else (none)
def impl_SureCells.l0:Nat→Int→((Int × Int × List (S88)) × List Bool)→Int→Int→List (S88)→List Int→List Int→Option ((Int × Int × List (S88)) × List Bool)
 | 0,_,_,_,_,_,_,_=>none
 | k + 1,n,s,r,c,p,e,ns=>(impl_boardsTried.f k r c p e ns).bind fun t=>if n < t then (impl_boardOf.f k r c p e ns n).bind fun b=>(impl_hasEnds.f k r c p e ns b.1 b.2.1 b.2.2).bind fun y=>if y = true then (impl_SureCells.stp s b.1 b.2.1 b.2.2).bind fun q=>impl_SureCells.l0 k (wrap64 (n + 1)) q r c p e ns else impl_SureCells.l0 k (wrap64 (n + 1)) s r c p e ns else some s
def impl_SureCells.l3:Nat→List Bool→List Int→Int→Int→Option (List Int × Bool)
 | 0,_,_,_,_=>none
 | k + 1,x5,x9,x69,x70=>if x70 < x69 then (if 0 ≤ x70 then (if x70 < (x5.length:Int) then (if rdOf false x5 x70 = true then (if x9.length < 17592186044416 then (impl_SureCells.l3 k x5 (x9 ++ [x70]) x69 (wrap64 (x70 + 1))) else (none)) else (impl_SureCells.l3 k x5 x9 x69 (wrap64 (x70 + 1)))) else (none)) else (none)) else (some (x9,true))
def impl_SureCells.f (k:Nat) (a0_0:Int) (a0_1:Int) (l0_2:List (S88)) (l0_3:List Int) (l0_4:List Int):Option (List Int × Bool):=(impl_isPlayed.f k a0_0 a0_1 l0_2 l0_3 l0_4).bind fun t476=>(if t476 = true then (if 0 ≤ (wrap64 (a0_0 * a0_1)) then (if (wrap64 (a0_0 * a0_1):Int).toNat ≤ 281474976710656 then ((impl_SureCells.l0 k 0 ((0,0,[]),List.replicate (wrap64 (a0_0 * a0_1):Int).toNat false) a0_0 a0_1 l0_2 l0_3 l0_4).bind fun q=>(if q.1.1 = 0 then (some (([]:List Int),false)) else (impl_SureCells.l3 k q.2 ([]:List Int) (q.2.length:Int) 0))) else (none)) else (none)) else (some (([]:List Int),false)))
theorem impl_SureCells.R_okI {e:Nat} {w:World} {base:Nat} {ok ok2:Nat→Prop} {v:Value} {xs:List Bool} (h:Kd.bool.R e w base ok v xs) (h2:∀ j,v.ownBlock = some j→ok2 j):Kd.bool.R e w base ok2 v xs:=⟨h2,h.2.imp_ (fun _ _ hp=>hp)⟩
theorem impl_SureCells.St_br {b0 W:World} {g t:Nat} {cs:List Value} {D:List (World→Prop)} {α:Type} {d:Kd α} (at_:At d) {e n c:Nat} {A:Option Addr} {xs:List α} {ok:Nat→Prop} (hB:Below b0.heap.size b0 W) (hg:b0.heap.size ≤ g) (h:bxr g t cs W) (ho:d.R e W b0.heap.size ok (.slice A n c) xs) (hne:∀ k,ok k→k ≠ g) (hD:Dok W (fun k=>k = g∨ok k) D):St b0 W (fun k=>k = g∨ok k) D W [box g t cs,row at_ e A n c xs] :=
 ⟨hB,Kept.refl _ _,fun k=>if k = g then 0 else 1,(fun i p hi=>by
  match i,hi with
  | 0,hi=>injection hi with hi;subst hi;exact ⟨⟨if_pos rfl,.inl (.inl rfl)⟩,hg,h⟩
  | 1,hi=>injection hi with hi;subst hi;exact Kd.R_mono ho (fun k hk=>⟨if_neg (hne k hk),.inl (.inr hk)⟩)),dft hD⟩
theorem impl_SureCells.row_all {b0 w0 w:World} {P:Nat→Prop} {D:List (World→Prop)} {G:List Pc} {α:Type} {d:Kd α} {at_:At d} {e n c:Nat} {A:Option Addr} {xs:List α} (S:St b0 w0 P D w G) (i:Nat) (hi:G[i]? = some (row at_ e A n c xs)):∃ ok:Nat→Prop,d.R e w b0.heap.size ok (.slice A n c) xs∧∀ (j g t:Nat) (cs:List Value),G[j]? = some (box g t cs)→j ≠ i→¬ ok g:=by
 obtain ⟨f,hf⟩:=S.own
 refine ⟨_,hf i _ hi,fun j g t cs hj hn h=>hn ?_⟩
 have h2:=(hf j _ hj).1.1
 exact h2.symm.trans h.1
theorem impl_SureCells.fold (r c:Int) (p:List S88) (e ns:List Int):∀ (k:Nat) (n:Int) (s q:(Int × Int × List S88) × List Bool),impl_SureCells.l0 k n s r c p e ns = some q→solFold (fun _ s r c xs=>(impl_SureCells.stp s r c xs).map fun q=>(q,true)) r c p e ns k n s = some (q,true)
 | 0,_,_,_,h=>by simp [impl_SureCells.l0] at h
 | k + 1,n,s,q,h=>by
  simp only [impl_SureCells.l0] at h
  simp only [solFold]
  obtain ⟨t,h1,h⟩:=Option.bind_eq_some_iff.mp h
  rw [h1]
  simp only [Option.bind_some]
  split at h
  · rename_i ct
    rw [if_pos ct]
    obtain ⟨b2,h2,h⟩:=Option.bind_eq_some_iff.mp h
    obtain ⟨y,h3,h⟩:=Option.bind_eq_some_iff.mp h
    rw [h2]
    simp only [Option.bind_some]
    rw [h3]
    simp only [Option.bind_some]
    split at h
    · rename_i cy
      rw [if_pos cy]
      obtain ⟨u,h4,h⟩:=Option.bind_eq_some_iff.mp h
      rw [h4]
      simp only [Option.map_some,Option.bind_some,if_true]
      exact impl_SureCells.fold r c p e ns k _ _ _ h
    · rename_i cy
      rw [if_neg cy]
      exact impl_SureCells.fold r c p e ns k _ _ _ h
  · rename_i ct
    rw [if_neg ct]
    rw [Option.some.injEq] at h
    rw [h]
theorem impl_SureCells.len (su:List Bool) (xs fs:List S88):(impl_SureCells.new su xs fs).length = su.length:=by simp [impl_SureCells.new]
/-- The first i of a, the rest of b. -/
def impl_SureCells.pre (i:Nat) (a b:List Bool):List Bool:=a.take i ++ b.drop i
theorem impl_SureCells.pre_len {i:Nat} {a b:List Bool} (h:a.length = b.length):(impl_SureCells.pre i a b).length = b.length:=by simp [impl_SureCells.pre];omega
theorem impl_SureCells.pre_rd {i:Nat} {a b:List Bool} (h:a.length = b.length) (hi:i < b.length):(impl_SureCells.pre i a b).getD i false = b.getD i false:=by
 simp only [impl_SureCells.pre,List.getD_eq_getElem?_getD]
 rw [List.getElem?_append_right (by simp;omega)]
 simp [Nat.min_eq_left (show i ≤ a.length by omega)]
theorem impl_SureCells.pre_set {i:Nat} {a b:List Bool} (h:a.length = b.length) (hi:i < b.length) (v:Bool) (hv:a.getD i false = v):(impl_SureCells.pre i a b).set i v = impl_SureCells.pre (i + 1) a b:=by
 subst hv
 apply List.ext_getElem?
 intro j
 simp only [impl_SureCells.pre,List.getElem?_set,List.getD_eq_getElem?_getD]
 by_cases e:i = j
 · subst e
   rw [if_pos rfl,if_pos (by simp;omega),List.getElem?_append_left (by simp;omega),List.getElem?_take,if_pos (by omega)]
   rw [List.getElem?_eq_getElem (by omega)]
   rfl
 · rw [if_neg e]
   by_cases hj:j < i
   · rw [List.getElem?_append_left (by simp;omega),List.getElem?_append_left (by simp;omega),List.getElem?_take,List.getElem?_take,if_pos hj,if_pos (by omega)]
   · rw [List.getElem?_append_right (by simp;omega),List.getElem?_append_right (by simp;omega),List.getElem?_drop,List.getElem?_drop]
     congr 1
     simp
     omega
theorem impl_SureCells.pre_z (a b:List Bool):impl_SureCells.pre 0 a b = b:=by simp [impl_SureCells.pre]
theorem impl_SureCells.pre_all {i:Nat} {a b:List Bool} (h:a.length = b.length) (hi:b.length ≤ i):impl_SureCells.pre i a b = a:=by
 simp only [impl_SureCells.pre];rw [List.take_of_length_le (by omega),List.drop_of_length_le hi,List.append_nil]
theorem impl_SureCells.new_at {su:List Bool} {xs fs:List S88} {i:Nat} (hi:i < su.length):(impl_SureCells.new su xs fs).getD i false = (su.getD i false && ((((rd_T88 xs (i:Int)).f0) == ((rd_T88 fs (i:Int)).f0)) && (((rd_T88 xs (i:Int)).f1) == ((rd_T88 fs (i:Int)).f1)))):=by
 simp [impl_SureCells.new,List.getD_eq_getElem?_getD,hi]
theorem impl_SureCells.calls (k:Nat) (a0_0:Int) (a0_1:Int) (A0_2:Option Addr) (c0_2:Nat) (l0_2:List (S88)) (A0_3:Option Addr) (c0_3:Nat) (l0_3:List Int) (A0_4:Option Addr) (c0_4:Nat) (l0_4:List Int) (r1:List Int) (r2:Bool) (w:World) (hr0_2:Kd.C k88 w A0_2 l0_2.length l0_2) (hc0_2:l0_2.length ≤ c0_2) (hr0_3:Kd.C (Kd.int .i64) w A0_3 l0_3.length l0_3) (hc0_3:l0_3.length ≤ c0_3) (hr0_4:Kd.C (Kd.int .i64) w A0_4 l0_4.length l0_4) (hc0_4:l0_4.length ≤ c0_4) (h:impl_SureCells.f k a0_0 a0_1 l0_2 l0_3 l0_4 = some (r1,r2)) :
  Calls Try.prog 28 #[.agg #[.int .i64 a0_0,.int .i64 a0_1,.slice A0_2 l0_2.length c0_2,.slice A0_3 l0_3.length c0_3,.slice A0_4 l0_4.length c0_4]] w fun e w'=>∃ v0_:Value,e = .returned (.tuple #[v0_,.bool r2])∧Kd.R (Kd.int .i64) 3 w' w.heap.size (fun _=>True) v0_ r1∧Below w.heap.size w w':=by
 unfold impl_SureCells.f at h
 obtain ⟨t,A2,h⟩:=Option.bind_eq_some_iff.mp h
 have S:=St.init (w:=w) (dc k88_heap at88 hr0_2 hc0_2 (dc (Kd.heap_int .i64) (atI .i64) hr0_3 hc0_3 (dc (Kd.heap_int .i64) (atI .i64) hr0_4 hc0_4 dn)))
 have F:=S.fc
 refine (callsIn_wide (n:=9)).1 ?_
 refine callsIn_of_wp_marks Try.func28 rfl trivial ?_ rfl
 simp only [Try.ntmps28,List.size_toArray,List.length_cons,List.length_nil,Nat.reduceAdd,Nat.reduceSub,Array.replicate_succ,Array.replicate_zero,List.push_toArray,List.append_toArray,List.nil_append,List.cons_append]
 refine wpIn_wide.2 ?_
 by_cases ct:t = true
 case neg =>
  rw [if_neg ct] at h
  replace ct:=cbf ct;subst ct
  simp only [Option.some.injEq,Prod.mk.injEq] at h
  obtain ⟨rfl,rfl⟩:=h
  go_wp2_with (first | ((with_reducible refine gd 1 rfl (L ?_));refine bo 1 (.agg #[_,_,_,_,_]) S ?_;clear S F;intro gb W S;have F:=S.fc) | ((with_reducible refine gate_callee (f:=75) rfl (L ?_));refine cl (some 13) Try.func75 (impl_isPlayed.calls _ _ _ _ _ _ _ _ _ _ _ _ _ _ S.c S.n S.c S.n S.c S.n A2) (hargs:=by (simp only [ma_,mb_,mc_,F] <;> rfl)) (h:=?_);rintro e W ⟨rfl,hb⟩;refine ⟨_,rfl,?_⟩;replace S:=S.go hb;clear F hb;have F:=S.fc))
  exact ⟨_,results_tmp2 rfl _ _ _,_,rfl,Kd.R_nil _ _ _ _ _,S.below⟩
 subst ct
 rw [if_pos rfl] at h
 obtain ⟨ji,hji⟩:∃ j_:Int,(wrap64 (a0_0 * a0_1)) = j_:=⟨_,rfl⟩
 simp only [hji] at h
 have hjiw:(IntKind.i64.wrap (a0_0 * a0_1)) = ji:=(i64_w _).trans hji
 replace h:=np_ h;obtain ⟨c5,h⟩:=h
 replace h:=np_ h;obtain ⟨c6,h⟩:=h
 obtain ⟨y,hy⟩:∃ y:List Bool,y = List.replicate (ji:Int).toNat false:=⟨_,rfl⟩
 rw [← hy] at h
 have Ny:=Aside0.mk hy;clear hy
 obtain ⟨q,h0,h⟩:=Option.bind_eq_some_iff.mp h
 have hf:=impl_SureCells.fold _ _ _ _ _ k _ _ _ h0
 clear h0
 go_wp2_with (first | ((with_reducible refine gd 1 rfl (L ?_));refine bo 1 (.agg #[_,_,_,_,_]) S ?_;clear S F;intro gb W S;have F:=S.fc) | ((with_reducible refine gate_callee (f:=75) rfl (L ?_));refine cl (some 13) Try.func75 (impl_isPlayed.calls _ _ _ _ _ _ _ _ _ _ _ _ _ _ S.c S.n S.c S.n S.c S.n A2) (hargs:=by (simp only [ma_,mb_,mc_,F] <;> rfl)) (h:=?_);rintro e W ⟨rfl,hb⟩;refine ⟨_,rfl,?_⟩;replace S:=S.go hb;clear F hb;have F:=S.fc) | ((with_reducible refine gd 4 rfl (L ?_));refine al 4 S zi50 ?_;clear S F;intro gB W S;have F:=S.fc) | ((with_reducible refine gs (t:=50) rfl (L ?_));(first | refine sb (.agg #[_,_,_]) S sz50 ?_ | refine ro (.agg #[_,_,_]) S sz50 ?_ (ho:=rfl) (hx:=rfl) (hy:=rfl));(clear S F;intro W S;have F:=S.fc)) | ((with_reducible refine gd 21 rfl (L ?_));refine mka 21 atB S Try.underlying89 info4 ?_;clear S F;intro Ay cy W S;(try rw [← Ny.out] at S ⊢);have F:=S.fc) | ((with_reducible refine gd 5 rfl (L ?_));refine al 5 S zi89 ?_;clear S F;intro gO W S;have F:=S.fc) | ((with_reducible refine gs (t:=89) rfl (L ?_));(first | refine sb (.slice _ _ _) S sz89 ?_ | refine ro (.slice _ _ _) S sz89 ?_ (ho:=rfl) (hx:=rfl) (hy:=rfl));(clear S F;intro W S;have F:=S.fc)) | ((with_reducible refine gate_callee (f:=72) rfl (L ?_));refine cl (some 23) Try.func72 (impl_solutionsOf.calls _ _ _ _ _ _ _ _ _ _ _ W) (hargs:=by (simp only [ma_,mb_,mc_,F] <;> rfl)) (h:=?_);rintro e W2 ⟨gc,rfl,hgc,hge,hb⟩;refine ⟨_,rfl,?_⟩;obtain ⟨okr,hR0,hnr⟩:=impl_SureCells.row_all S 1 rfl;have hl1:=Kd.R_lt hR0;have hl2:=blk_lt (bx_all S 0 rfl).1;have hl4:=blk_lt (bx_all S 2 rfl).1;replace S:=S.go hb;clear F hb;have F:=S.fc))
 (try simp only [Act.put,za_,zb_,zc_])
 have hB:=S.below
 have hnO:=bx_all S 0 rfl
 have hnB:=bx_all S 2 rfl
 have nBO:gB ≠ gO:=bx_ne S 2 0 rfl rfl
 have hltO:=blk_lt hnO.1
 have hltB:=blk_lt hnB.1
 have hlc:=blk_lt hgc
 have hneB:gc ≠ gB:=by omega
 have hneO:gc ≠ gO:=by omega
 have hsz:=hB.size
 have hbs:=Kd.R_base hR0
 have hnoO:∀ j,(Value.slice Ay y.length cy).ownBlock = some j→j ≠ gO:=fun j hj e=>hnr 0 gO _ _ rfl (by decide) (e ▸ hR0.1 j hj)
 have hnoB:∀ j,(Value.slice Ay y.length cy).ownBlock = some j→j ≠ gB:=fun j hj e=>hnr 2 gB _ _ rfl (by decide) (e ▸ hR0.1 j hj)
 obtain ⟨okr2,hR1,_⟩:=impl_SureCells.row_all S 1 rfl
 have hl3:=Kd.R_lt hR1
 obtain ⟨okA,hokA⟩:∃ okA:Nat→Prop,okA = fun j=>(Value.slice Ay y.length cy).ownBlock = some j:=⟨_,rfl⟩
 have hok:∀ j,okA j→j ≠ gB∧j ≠ gO∧w.heap.size ≤ j∧j < W2.heap.size∧j ≠ gc:=fun j hj=>by
  rw [hokA] at hj
  have:=hl1 j hj
  exact ⟨hnoB j hj,hnoO j hj,hbs j hj,hl3 j hj,by omega⟩
 have hRA:Kd.bool.R 4 W2 w.heap.size okA (.slice Ay y.length cy) y:=impl_SureCells.R_okI hR1 (fun j hj=>by rw [hokA];exact hj)
 have hlo:∀ j,okA j→(Value.slice Ay y.length cy).ownBlock = some j:=fun j hj=>by rw [hokA] at hj;exact hj
 have hol:∀ j,(Value.slice Ay y.length cy).ownBlock = some j→okA j:=fun j hj=>by rw [hokA];exact hj
 have hyl:y.length ≤ 281474976710656:=by rw [Ny.out,List.length_replicate];exact c6
 clear F S hokA
 refine (wpIn_wide (n:=9)).1 ?_
 obtain ⟨I,hI⟩:∃ I:(Int × Int × List S88) × List Bool→World→Prop,I = fun s W=>(∃ A c,bxr gB 50 [.int .i64 s.1.1,.int .i64 s.1.2.1,.slice A s.1.2.2.length c] W∧Kd.R k88 88 W (W2.heap.size + 2) (fun j=>W2.heap.size + 2 ≤ j) (.slice A s.1.2.2.length c) s.1.2.2)∧bxr gO 89 [.slice Ay y.length cy] W∧(Kd.bool.R 4 W w.heap.size okA (.slice Ay y.length cy) s.2∧s.2.length = y.length)∧Below w.heap.size w W:=⟨_,rfl⟩
 have hOw:Ow (W2.heap.size + 1) I:=by
  subst hI
  rintro s W W' ⟨⟨A,c,h1,h2⟩,h3,h5,h4⟩ hg
  exact ⟨⟨A,c,bxr_grown h1 hg (by omega),Kd.R_step h2 (fun j hj hl=>hg.block j hl (by simp;omega))⟩,bxr_grown h3 hg (by omega),⟨Kd.R_step h5.1 (fun j hj hl=>hg.block j hl (by have:=hok j hj;simp;omega)),h5.2⟩,h4.grown hg h4.size (fun k e=>by cases e;omega)⟩
 refine wpIn_folds (σ:=(Int × Int × List S88) × List Bool) (gf:=105) (lb:=#[.pointer (some ⟨gc,0,none⟩)]) (fin:=fun s' go=>(q,true) = (s',go)) (s0:=((0,0,[]),y)) rfl (by decide) rfl trivial (enters_ Try.func105 (by kernel_rfl) rfl)
  (fun Wl hb hz=>sols_folds (fun _ s r c xs=>(impl_SureCells.stp s r c xs).map fun q=>(q,true)) _ k gc a0_0 a0_1 A0_2 c0_2 l0_2 A0_3 c0_3 l0_3 A0_4 c0_4 l0_4 ((0,0,[]),y) (q,true) (fun j=>(j = gB∨okA j)∨j = W2.heap.size + 1) (W2.heap.size + 2) Wl hz (fun W' hk=>?hq) hc0_2 hc0_3 hc0_4 hf)
  kept_trans (fun W o _=>kept_put _ _ (.inr rfl)) (fun s args W s' go hR=>by obtain ⟨_,_,_,_,_,_,_,rfl,_⟩:=hR;rfl)
  I (fun _ _ _=>False) hOw (fun _ _ _ _ h _=>h)
  (by subst hI;exact ⟨⟨none,0,hnB.1,Kd.R_nil _ _ _ _ _⟩,hnO.1,⟨hRA,rfl⟩,hB⟩)
  (fun s args a' s' go W=>I s W∧∃ gL R C xs A cap,(impl_SureCells.stp s R C xs).map (fun q=>(q,true)) = some (s',go)∧gL ≠ gB∧gL ≠ gO∧¬ okA gL∧gL ≠ W2.heap.size + 1∧bxr gL 50 [.int .i64 R,.int .i64 C,.slice A xs.length cap] W∧Kd.R k88 88 W (W2.heap.size + 2) (fun j=>W2.heap.size + 2 ≤ j) (.slice A xs.length cap) xs∧a' = { tmps:=#[.agg #[.int .i64 a0_0,.int .i64 a0_1,.slice A0_2 l0_2.length c0_2,.slice A0_3 l0_3.length c0_3,.slice A0_4 l0_4.length c0_4],.pointer (some ⟨gb,0,none⟩),.slice none 0 0,.bool false,.pointer (some ⟨gB,0,none⟩),.pointer (some ⟨gO,0,none⟩),.pointer (some ⟨gL,0,none⟩),undef,undef,undef,undef,undef,.agg #[.int .i64 a0_0,.int .i64 a0_1,.slice A0_2 l0_2.length c0_2,.slice A0_3 l0_3.length c0_3,.slice A0_4 l0_4.length c0_4],.bool true,.bool false,.agg #[.int .i64 0,.int .i64 0,.slice none 0 0],.pointer (some ⟨gb,0,none⟩),.int .i64 a0_0,.pointer (some ⟨gb,1,none⟩),.int .i64 a0_1,.int .i64 ji,.slice Ay y.length cy,.agg #[.int .i64 a0_0,.int .i64 a0_1,.slice A0_2 l0_2.length c0_2,.slice A0_3 l0_3.length c0_3,.slice A0_4 l0_4.length c0_4],.func (.func 105) #[] #[.pointer (some ⟨gc,0,none⟩)],.agg #[.int .i64 R,.int .i64 C,.slice A xs.length cap],undef,undef,undef,undef,undef,undef,undef,undef,undef,undef,undef,undef,undef,undef,undef,undef,undef,undef,undef,undef,undef,undef,undef,undef,undef,undef,undef,undef,undef,undef,undef,undef,undef,undef,undef,undef,undef,undef,undef,undef,undef,undef,undef,undef,undef,undef,undef,undef,undef,undef,undef,undef,undef,undef,undef,undef,undef],defers:=[] }) ?hA ?assign ?body ?done ?stop
 case hq =>
  have key:∀ j,j < w.heap.size→W'.heap[j]? = w.heap[j]?:=fun j hj=>(hk.2 j (by have:=hb.size;omega) (fun e=>by
   rcases e with (e | e) | e
   · have:=hnB.2;omega
   · have:=hok j e;omega
   · omega)).trans ((hb.block j (by omega)).trans (hB.block j hj))
  exact ⟨(hk.2 gc (by have:=hb.size;omega) (fun e=>by
   rcases e with (e | e) | e
   · exact hneB e
   · exact (hok gc e).2.2.2.2 rfl
   · omega)).trans ((hb.block gc hlc).trans hgc),k88_heap.C key hr0_2,(Kd.heap_int .i64).C key hr0_3,(Kd.heap_int .i64).C key hr0_4⟩
 case hA =>
  rintro s args a' s' go _ W W' ⟨hs,gL,R,C,xs,A,cap,h0,h1,h2,h3,h4,h5,h6,h7⟩ hg
  exact ⟨hOw _ _ _ hs hg,gL,R,C,xs,A,cap,h0,h1,h2,h3,h4,bxr_grown h5 hg h4,Kd.R_step h6 (fun j hj hl=>hg.block j hl (by simp;omega)),h7⟩
 case assign =>
  rintro l s args W s' go K hz hi ⟨kk,R,C,xs,hst,A,cap,rfl,hR⟩ hK
  have S:=St.init (w:=W) dn
  refine reg_in rfl (by rintro ⟨_,_,h⟩;exact h) ?_
  rw [zip1]
  simp only [za_,zb_,zc_]
  go_wp2_with (first | ((with_reducible refine gd 6 rfl (L ?_));refine al 6 S zi50 ?_;clear S;intro gL W S) | ((with_reducible refine gs (t:=50) rfl (L ?_));(first | refine sb (.agg #[_,_,_]) S sz50 ?_ | refine ro (.agg #[_,_,_]) S sz50 ?_ (ho:=rfl) (hx:=rfl) (hy:=rfl));clear S;intro W S))
  have hg:=bx_of S
  refine hK _ _ (keeps_below S.below) (Kept.of_below S.below _) ⟨hOw.below hi S.below,gL,R,C,xs,A,cap,hst,?_,?_,?_,?_,hg.1,Kd.R_mono (Kd.R_bound (Kd.R_below hR S.below)) (fun j hj=>hj.2.1),rfl⟩
  · subst hI;obtain ⟨⟨_,_,h1,_⟩,_⟩:=hi;have:=blk_lt h1;omega
  · subst hI;obtain ⟨_,h1,_⟩:=hi;have:=blk_lt h1;omega
  · intro e;have:=hok gL e;omega
  · omega
 case body =>
  subst hI
  rintro l s args a' W s' go ⟨⟨⟨Af,cf,h1,hRf⟩,h2,⟨hRo,hsl⟩,hB3⟩,gL,R,C,xs,A,cap,hst,n1,n2,n3,n4,hb,hR,rfl⟩
  obtain ⟨W_,hW_⟩:∃ W_,W_ = W:=⟨W,rfl⟩
  rw [← hW_] at h1 hRf h2 hRo hB3 hb hR ⊢
  clear hW_
  have S:=impl_SureCells.St_br (ok:=okA) atB hB3 hnB.2 h1 hRo (fun k hk=>(hok k hk).1) (dbx h2 (fun e=>e.elim (fun e=>nBO e.symm) (fun e=>(hok gO e).2.1 rfl)) (dbx hb (fun e=>e.elim n1 n3) (dro at88 hR (fun j hj e=>by
   rcases e with e | e
   · omega
   · have:=hok j e;omega) (dro at88 hRf (fun j hj e=>by
   rcases e with e | e
   · omega
   · have:=hok j e;omega) dn))))
  have F:=S.fc
  obtain ⟨s2,hst2,he⟩:=Option.map_eq_some_iff.mp hst
  clear hst
  have hst:=hst2;clear hst2
  rw [Prod.mk.injEq] at he
  obtain ⟨rfl,rfl⟩:=he
  unfold impl_SureCells.stp at hst
  replace hst:=np_ hst;obtain ⟨cx,hst⟩:=hst
  refine wpIn_block ?_
  apply wpIn_seq_k
  intro K hK
  have key:∀ (f1 f2:Int) (fs:List S88) (A2:Option Addr) (c2:Nat) (su:List Bool) (u7 u25 u26 u27 u28 u29 u30 u31 u32 u33 u34 u35 u36 u37:Value) (V:World),St w W_ (fun j=>j = gB∨okA j) [bxr gO 89 [.slice Ay y.length cy],bxr gL 50 [.int .i64 R,.int .i64 C,.slice A xs.length cap],bor at88 A cap xs,bor at88 A2 c2 fs] V [box gB 50 [.int .i64 f1,.int .i64 f2,.slice A2 fs.length c2],row atB 4 Ay y.length cy su]→su.length = y.length→su.length ≤ xs.length→su.length ≤ fs.length→s2 = ((f1,f2,fs),impl_SureCells.new su xs fs)→Kd.R k88 88 W_ (W2.heap.size + 2) (fun j=>W2.heap.size + 2 ≤ j) (.slice A2 fs.length c2) fs→K { tmps:=#[.agg #[.int .i64 a0_0,.int .i64 a0_1,.slice A0_2 l0_2.length c0_2,.slice A0_3 l0_3.length c0_3,.slice A0_4 l0_4.length c0_4],.pointer (some ⟨gb,0,none⟩),.slice none 0 0,.bool false,.pointer (some ⟨gB,0,none⟩),.pointer (some ⟨gO,0,none⟩),.pointer (some ⟨gL,0,none⟩),u7,undef,undef,undef,undef,.agg #[.int .i64 a0_0,.int .i64 a0_1,.slice A0_2 l0_2.length c0_2,.slice A0_3 l0_3.length c0_3,.slice A0_4 l0_4.length c0_4],.bool true,.bool false,.agg #[.int .i64 0,.int .i64 0,.slice none 0 0],.pointer (some ⟨gb,0,none⟩),.int .i64 a0_0,.pointer (some ⟨gb,1,none⟩),.int .i64 a0_1,.int .i64 ji,.slice Ay y.length cy,.agg #[.int .i64 a0_0,.int .i64 a0_1,.slice A0_2 l0_2.length c0_2,.slice A0_3 l0_3.length c0_3,.slice A0_4 l0_4.length c0_4],.func (.func 105) #[] #[.pointer (some ⟨gc,0,none⟩)],.agg #[.int .i64 R,.int .i64 C,.slice A xs.length cap],u25,u26,u27,u28,u29,u30,u31,u32,u33,u34,u35,u36,u37,undef,undef,undef,undef,undef,undef,undef,undef,undef,undef,undef,undef,undef,undef,undef,undef,undef,undef,undef,undef,undef,undef,undef,undef,undef,undef,undef,undef,undef,undef,undef,undef,undef,undef,undef,undef,undef,undef,undef,undef,undef,undef,undef,undef],defers:=[] } V:=by
   clear F S hst
   intro f1 f2 fs A2 c2 su u7 u25 u26 u27 u28 u29 u30 u31 u32 u33 u34 u35 u36 u37 V S e1 e2 e3 e4 hR2
   refine hK _ _ ?_
   clear hK
   have F:=S.fc
   apply wpIn_seq_k;intro K2 hK2
   refine reg_in rfl (by rintro ⟨_,_,h⟩;exact h) ?_
   go_wp2
   refine wpIn_block ?_
   have hnl:=impl_SureCells.len su xs fs
   obtain ⟨I2,hI2⟩:∃ I2:Nat→Act→World→Prop,I2 = fun m a V=>∃ (i:Int) (u7 u8 u25 u26 u27 u28 u29 u30 u31 u32 u33 u34 u35 u36 u37 u41 u42 u43 u44 u45 u46 u47 u48 u49 u50 u51 u52 u53 u54 u55 u56 u57 u58 u59 u60 u61 u62 u63:Value),m + i.toNat = y.length∧0 ≤ i∧a = { tmps:=#[.agg #[.int .i64 a0_0,.int .i64 a0_1,.slice A0_2 l0_2.length c0_2,.slice A0_3 l0_3.length c0_3,.slice A0_4 l0_4.length c0_4],.pointer (some ⟨gb,0,none⟩),.slice none 0 0,.bool false,.pointer (some ⟨gB,0,none⟩),.pointer (some ⟨gO,0,none⟩),.pointer (some ⟨gL,0,none⟩),u7,u8,undef,undef,undef,.agg #[.int .i64 a0_0,.int .i64 a0_1,.slice A0_2 l0_2.length c0_2,.slice A0_3 l0_3.length c0_3,.slice A0_4 l0_4.length c0_4],.bool true,.bool false,.agg #[.int .i64 0,.int .i64 0,.slice none 0 0],.pointer (some ⟨gb,0,none⟩),.int .i64 a0_0,.pointer (some ⟨gb,1,none⟩),.int .i64 a0_1,.int .i64 ji,.slice Ay y.length cy,.agg #[.int .i64 a0_0,.int .i64 a0_1,.slice A0_2 l0_2.length c0_2,.slice A0_3 l0_3.length c0_3,.slice A0_4 l0_4.length c0_4],.func (.func 105) #[] #[.pointer (some ⟨gc,0,none⟩)],.agg #[.int .i64 R,.int .i64 C,.slice A xs.length cap],u25,u26,u27,u28,u29,u30,u31,u32,u33,u34,u35,u36,u37,.slice Ay y.length cy,.int .i64 (y.length:Int),.int .i64 i,u41,u42,u43,u44,u45,u46,u47,u48,u49,u50,u51,u52,u53,u54,u55,u56,u57,u58,u59,u60,u61,u62,u63,undef,undef,undef,undef,undef,undef,undef,undef,undef,undef,undef,undef,undef,undef,undef,undef,undef,undef],defers:=[] }∧St w W_ (fun j=>j = gB∨okA j) [bxr gO 89 [.slice Ay y.length cy],bxr gL 50 [.int .i64 R,.int .i64 C,.slice A xs.length cap],bor at88 A cap xs,bor at88 A2 c2 fs] V [box gB 50 [.int .i64 f1,.int .i64 f2,.slice A2 fs.length c2],row atB 4 Ay y.length cy (impl_SureCells.pre i.toNat (impl_SureCells.new su xs fs) su)]:=⟨_,rfl⟩
   have NI2:=Aside0.mk hI2;clear hI2
   refine wpIn_loop_num I2 y.length (by rw [NI2.out];exact ⟨0,_,_,_,_,_,_,_,_,_,_,_,_,_,_,_,_,_,_,_,_,_,_,_,_,_,_,_,_,_,_,_,_,_,_,_,_,_,_,rfl,Int.le_refl _,rfl,by rw [show (0:Int).toNat = 0 from rfl,impl_SureCells.pre_z];exact S⟩) ?_
   clear S F
   intro m a V hrel
   have hrel2:=hrel
   rw [NI2.out] at hrel2
   obtain ⟨i,u7,u8,u25,u26,u27,u28,u29,u30,u31,u32,u33,u34,u35,u36,u37,u41,u42,u43,u44,u45,u46,u47,u48,u49,u50,u51,u52,u53,u54,u55,u56,u57,u58,u59,u60,u61,u62,u63,hm,hi,rfl,S⟩:=hrel2
   clear hrel
   have F:=S.fc
   apply wpIn_seq_k;intro K3 hK3
   refine reg_in rfl (by rintro ⟨_,_,h⟩;exact h) ?_
   go_wp2
   apply wpIn_seq_k;intro K4 hK4
   refine wpIn_cond_split rfl (fun ht=>?_) (fun ht=>?_)
   · replace ht:i < (y.length:Int):=by simpa using ht
     have hw:wrap64 (i + 1) = i + 1:=by unfold wrap64;omega
     have hpl:=impl_SureCells.pre_len (i:=i.toNat) (a:=impl_SureCells.new su xs fs) (b:=su) hnl
     have hx1:i < (xs.length:Int):=by omega
     have hx2:i < (fs.length:Int):=by omega
     have hx3:i < ((impl_SureCells.pre i.toNat (impl_SureCells.new su xs fs) su).length:Int):=by omega
     have hrd:rdOf false (impl_SureCells.pre i.toNat (impl_SureCells.new su xs fs) su) i = su.getD i.toNat false:=impl_SureCells.pre_rd hnl (by omega)
     have hnew:=impl_SureCells.new_at (su:=su) (xs:=xs) (fs:=fs) (i:=i.toNat) (by omega)
     rw [show ((i.toNat:Nat):Int) = i by omega] at hnew
     refine wpIn_skip (hK4 _ _ ?_)
     clear hK4
     apply wpIn_seq_k;intro K5 hK5
     refine wpIn_block ?_
     apply wpIn_seq_k;intro K6 hK6
     refine reg_in rfl (by rintro ⟨_,_,h⟩;exact h) ?_
     go_wp2
     cases hv:su.getD i.toNat false
     all_goals
      rw [hv] at hrd hnew
      refine rgI S [(1,0),(0,1),(1,2),(0,3),(0,4),(1,5),(0,6),(0,7),(1,8),(0,9),(0,10),(1,11),(0,12),(1,13),(0,14),(0,15),(1,16),(0,17),(0,18),(0,19),(3,20)] [20] rfl (by rintro ⟨_,_,h⟩;exact h) (by kernel_rfl) (by kernel_rfl) (fun _ d _ _ _ h=>by cases d <;> exact h) ?_
      clear S F;intro V S;have S0:=S;have F:=S.fc
      repeat (first | (refine q0 (h:=?_)) | (refine q1 S0 (h:=?_)) | (refine q0n (h:=?_)) | (refine q1n S0 (h:=?_)))
      refine lk3 (by rfl) (by exact (Eq.refl true)) ?_;refine ro (.bool _) S sz4 ?_ (ho:=rfl) (hx:=rfl) (hy:=rfl);clear S F;intro V S
      refine oz ?_
      refine hK5 _ _ ?_
      clear hK5 S0
      have hset:=impl_SureCells.pre_set (i:=i.toNat) (a:=impl_SureCells.new su xs fs) (b:=su) hnl (by omega) _ hnew
      (try simp only [Bool.true_and,Bool.false_and] at hset)
      rw [hset] at S
      have F:=S.fc
      refine reg_in rfl (by rintro ⟨_,_,h⟩;exact h) ?_
      go_wp2
      (try rw [hw])
      rw [NI2.out]
      refine ⟨m - 1,by omega,i + 1,_,_,_,_,_,_,_,_,_,_,_,_,_,_,_,_,_,_,_,_,_,_,_,_,_,_,_,_,_,_,_,_,_,_,_,_,_,_,by omega,by omega,(by first | rfl | (simp;done) | (simp [*];done) | (rw [w6_ (by omega) (by omega)])),?_⟩
      rw [show (i + 1).toNat = i.toNat + 1 by omega]
      exact S
   · replace ht:¬ i < (y.length:Int):=by simpa using ht
     refine wpIn_exit ?_
     rw [impl_SureCells.pre_all hnl (by omega)] at S
     obtain ⟨okx,hRx,_⟩:=impl_SureCells.row_all S 1 rfl
     refine ⟨rfl,⟨S.kept.1,fun i o _ ho hc=>(S.kept.2 i (Array.getElem?_eq_some_iff.1 ho).1 (fun e=>by
      rcases e with e | e
      · subst e;rw [show W_.heap[i]? = _ from h1] at ho;cases ho;cases hc
      · obtain ⟨_,_,_,_,_,cells,hc2⟩:=(Kd.R_bound hRo).1 i (hlo i e);rw [hc2] at ho;cases ho;cases hc)).trans ho⟩,S.kept.mono (fun _ h=>.inl h),?_⟩
     (try rw [e4])
     exact ⟨⟨A2,c2,bx_at S 0 rfl,Kd.R_step hR2 (fun j hj hl=>S.kept.2 j hl (fun e=>by
      rcases e with e | e
      · omega
      · have:=hok j e;omega))⟩,(S.kept.2 _ (blk_lt h2) (fun e=>e.elim (fun e=>nBO e.symm) (fun e=>(hok gO e).2.1 rfl))).trans h2,⟨impl_SureCells.R_okI hRx hol,hnl.trans e1⟩,S.below⟩
  have e0:∀ {V:World} {G:List Pc},St w W_ (fun j=>j = gB∨okA j) [bxr gO 89 [.slice Ay y.length cy],bxr gL 50 [.int .i64 R,.int .i64 C,.slice A xs.length cap],bor at88 A cap xs,bor at88 Af cf s.1.2.2] V G→St w W_ (fun j=>j = gB∨okA j) [bxr gO 89 [.slice Ay y.length cy],bxr gL 50 [.int .i64 R,.int .i64 C,.slice A xs.length cap],bor at88 A cap xs,bor at88 A cap xs] V G:=fun S=>S.dk [0,1,2,2]
  apply wpIn_seq_k;intro K7 hK7
  refine reg_in rfl (by rintro ⟨_,_,h⟩;exact h) ?_
  go_wp2
  split at hst
  · rename_i c1
    replace hst:=Option.some.inj hst
    refine wpIn_cond_split rfl (fun ht=>?_) (fun ht=>absurd ht (by simp [c1]))
    clear ht
    apply wpIn_seq_k;intro K8 hK8
    refine reg_in rfl (by rintro ⟨_,_,h⟩;exact h) ?_
    go_wp2_with ((with_reducible refine gs (t:=50) rfl (L ?_));(first | refine sb (.agg #[_,_,_]) S sz50 ?_ | refine ro (.agg #[_,_,_]) S sz50 ?_ (ho:=rfl) (hx:=rfl) (hy:=rfl));(clear S F;intro W S;have F:=S.fc))
    apply wpIn_seq_k;intro K9 hK9
    refine reg_in rfl (by rintro ⟨_,_,h⟩;exact h) ?_
    go_wp2
    refine wpIn_block ?_
    obtain ⟨tr,htr⟩:∃ tr,tr = List.replicate s.2.length true:=⟨_,rfl⟩
    have htl:tr.length = s.2.length:=by rw [htr,List.length_replicate]
    rw [← htr] at hst
    have hta:∀ i:Nat,i < s.2.length→tr.getD i false = true:=fun i hi=>by rw [htr];simp [List.getD_eq_getElem?_getD,hi]
    clear htr
    obtain ⟨I3,hI3⟩:∃ I3:Nat→Act→World→Prop,I3 = fun m a V=>∃ (i:Int) (u7 u25 u26 u27 u28 u32 u33 u34 u35 u36 u37:Value),m + i.toNat = y.length∧0 ≤ i∧a = { tmps:=#[.agg #[.int .i64 a0_0,.int .i64 a0_1,.slice A0_2 l0_2.length c0_2,.slice A0_3 l0_3.length c0_3,.slice A0_4 l0_4.length c0_4],.pointer (some ⟨gb,0,none⟩),.slice none 0 0,.bool false,.pointer (some ⟨gB,0,none⟩),.pointer (some ⟨gO,0,none⟩),.pointer (some ⟨gL,0,none⟩),u7,undef,undef,undef,undef,.agg #[.int .i64 a0_0,.int .i64 a0_1,.slice A0_2 l0_2.length c0_2,.slice A0_3 l0_3.length c0_3,.slice A0_4 l0_4.length c0_4],.bool true,.bool false,.agg #[.int .i64 0,.int .i64 0,.slice none 0 0],.pointer (some ⟨gb,0,none⟩),.int .i64 a0_0,.pointer (some ⟨gb,1,none⟩),.int .i64 a0_1,.int .i64 ji,.slice Ay y.length cy,.agg #[.int .i64 a0_0,.int .i64 a0_1,.slice A0_2 l0_2.length c0_2,.slice A0_3 l0_3.length c0_3,.slice A0_4 l0_4.length c0_4],.func (.func 105) #[] #[.pointer (some ⟨gc,0,none⟩)],.agg #[.int .i64 R,.int .i64 C,.slice A xs.length cap],u25,u26,u27,u28,.slice Ay y.length cy,.int .i64 (y.length:Int),.int .i64 i,u32,u33,u34,u35,u36,u37,undef,undef,undef,undef,undef,undef,undef,undef,undef,undef,undef,undef,undef,undef,undef,undef,undef,undef,undef,undef,undef,undef,undef,undef,undef,undef,undef,undef,undef,undef,undef,undef,undef,undef,undef,undef,undef,undef,undef,undef,undef,undef,undef,undef],defers:=[] }∧St w W_ (fun j=>j = gB∨okA j) [bxr gO 89 [.slice Ay y.length cy],bxr gL 50 [.int .i64 R,.int .i64 C,.slice A xs.length cap],bor at88 A cap xs,bor at88 Af cf s.1.2.2] V [box gB 50 [.int .i64 R,.int .i64 C,.slice A xs.length cap],row atB 4 Ay y.length cy (impl_SureCells.pre i.toNat tr s.2)]:=⟨_,rfl⟩
    have NI3:=Aside0.mk hI3;clear hI3
    refine wpIn_loop_num I3 y.length (by rw [NI3.out];exact ⟨0,_,_,_,_,_,_,_,_,_,_,_,rfl,Int.le_refl _,rfl,by rw [show (0:Int).toNat = 0 from rfl,impl_SureCells.pre_z];exact S⟩) ?_
    clear S F
    intro m a V hrel
    have hrel2:=hrel
    rw [NI3.out] at hrel2
    obtain ⟨i,u7,u25,u26,u27,u28,u32,u33,u34,u35,u36,u37,hm,hi,rfl,S⟩:=hrel2
    clear hrel
    have F:=S.fc
    apply wpIn_seq_k;intro K3 hK3
    refine reg_in rfl (by rintro ⟨_,_,h⟩;exact h) ?_
    go_wp2
    apply wpIn_seq_k;intro K4 hK4
    refine wpIn_cond_split rfl (fun ht=>?_) (fun ht=>?_)
    · replace ht:i < (y.length:Int):=by simpa using ht
      have hw:wrap64 (i + 1) = i + 1:=by unfold wrap64;omega
      have hpl:=impl_SureCells.pre_len (i:=i.toNat) htl
      have hx3:i < ((impl_SureCells.pre i.toNat tr s.2).length:Int):=by omega
      refine wpIn_skip (hK4 _ _ ?_)
      clear hK4
      apply wpIn_seq_k;intro K5 hK5
      refine wpIn_block ?_
      apply wpIn_seq_k;intro K6 hK6
      refine reg_in rfl (by rintro ⟨_,_,h⟩;exact h) ?_
      go_wp2
      refine reg_in rfl (by rintro ⟨_,_,h⟩;exact h) ?_
      go_wp2_with ((with_reducible refine gs (t:=4) rfl (L ?_));refine ro (.bool _) S sz4 ?_ (ho:=rfl) (hx:=rfl) (hy:=rfl);clear S F;intro V S)
      have hset:=impl_SureCells.pre_set (i:=i.toNat) htl (by omega) _ (hta i.toNat (by omega))
      rw [hset] at S
      have F:=S.fc
      refine reg_in rfl (by rintro ⟨_,_,h⟩;exact h) ?_
      go_wp2
      (try rw [hw])
      rw [NI3.out]
      refine ⟨m - 1,by omega,i + 1,_,_,_,_,_,_,_,_,_,_,_,by omega,by omega,(by first | rfl | (simp;done) | (simp [*];done) | (rw [w6_ (by omega) (by omega)])),?_⟩
      rw [show (i + 1).toNat = i.toNat + 1 by omega]
      exact S
    · replace ht:¬ i < (y.length:Int):=by simpa using ht
      refine wpIn_exit ?_
      rw [impl_SureCells.pre_all htl (by omega)] at S
      exact key _ _ _ _ _ _ _ _ _ _ _ _ _ _ _ _ _ _ _ _ _ (e0 S) (by omega) (by omega) (by omega) hst.symm hR
  · rename_i c1
    replace hst:=np_ hst;obtain ⟨c2,hst⟩:=hst
    replace hst:=Option.some.inj hst
    refine wpIn_cond_split rfl (fun ht=>absurd ht (by simpa using c1)) (fun ht=>?_)
    clear ht
    refine wpIn_skip ?_
    exact key _ _ _ _ _ _ _ _ _ _ _ _ _ _ _ _ _ _ _ _ _ S hsl cx c2 hst.symm hRf
 case done =>
  subst hI
  rintro s' W hs ⟨⟨Af,cf,h1,hRf⟩,h2,⟨hRo,hsl⟩,hB3⟩ hD
  cases hs
  obtain ⟨W_,hW_⟩:∃ W_,W_ = W:=⟨W,rfl⟩
  rw [← hW_] at h1 hRf h2 hRo hB3 hD ⊢
  clear hW_
  have hDl:=blk_lt hD
  rw [← hsl] at hRo h2
  clear hsl
  have S:=St_box (g:=gB) hB3 hnB.2 h1 (dbx h2 (fun e=>nBO e.symm) (dro atB hRo (fun j hj e=>(hok j hj).1 e) dn))
  have F:=S.fc
  split at h
  · rename_i c1
    simp only [Option.some.injEq,Prod.mk.injEq] at h
    obtain ⟨rfl,rfl⟩:=h
    go_wp2
    have hD2:=(S.kept.2 _ hDl (by omega)).trans hD
    refine ⟨by simp,.inl ⟨_,_,rfl,run_takeDeferred hD2,?_⟩⟩
    have hg9:=grownBy_putObj' W_ W2.heap.size (.deferred none)
    exact ⟨_,results_tmp2 rfl _ _ _,_,rfl,Kd.R_nil _ _ _ _ _,S.below.grown hg9 S.below.size (fun k e=>by cases e;exact hsz)⟩
  · rename_i c1
    obtain ⟨o0,ho0⟩:∃ o0:List Int,o0 = []:=⟨_,rfl⟩
    rw [← ho0] at h
    have No0:=Aside0.mk ho0;clear ho0
    go_wp2_with ((with_reducible refine gd 67 rfl (L ?_));refine lia 67 (atI .i64) 3 S ([]:List Int) (fun _ _=>(Reps.none _ _)) (by first | (go_simp;done) | (go_simp;rfl)) ?_;clear S F;intro Ao co W S;(try rw [← No0.out] at S ⊢);have F:=S.fc)
    go_loopg [9,70] k (fun kq v9 v70 w'=>∃ (o:List Int) (i:Int) (A6:Option Addr) (c6:Nat),v70 = .int .i64 i∧v9 = .slice A6 o.length c6∧impl_SureCells.l3 kq q.2 o (q.2.length:Int) i = some (r1,r2)∧kq ≤ k∧St w W_ (fun k=>k = gB) [bxr gO 89 [.slice Ay q.2.length cy],bor atB Ay cy q.2] w' [row (atI .i64) 3 A6 o.length c6 o,box gB 50 [.int .i64 q.1.1,.int .i64 q.1.2.1,.slice Af q.1.2.2.length cf]])
    case atStart=>exact ⟨o0,0,Ao,co,(by first | rfl | (simp;done) | (simp [*];done) | (rw [w6_ (by omega) (by omega)])),(by first | rfl | (rw [No0.out];rfl)),h,Nat.le_refl _,S⟩
    case round =>
     clear h S F
     obtain ⟨o,i,A6,c6_,rfl,rfl,HA,HK1,S⟩:=hrel
     have F:=S.fc
     cases gk with
     | zero=>exact absurd HA (by simp [impl_SureCells.l3])
     | succ k1 =>
      have H:=HA;clear HA;simp only [impl_SureCells.l3] at H
      replace H:=sp_ H;rcases H with ⟨c7,H⟩ | ⟨c7,H⟩
      · skip
        replace H:=np_ H;obtain ⟨c8,H⟩:=H
        replace H:=np_ H;obtain ⟨c9,H⟩:=H
        replace H:=sp_ H;rcases H with ⟨c10,H⟩ | ⟨c10,H⟩
        · skip
          replace H:=np_ H;obtain ⟨c11,H⟩:=H
          obtain ⟨o2,ho2⟩:∃ o2,o2 = o ++ [i]:=⟨_,rfl⟩
          rw [← ho2] at H
          go_wp2_with ((with_reducible refine gd 79 rfl (L ?_));refine apa (A:=A6) 79 S Try.underlying23 info3 ?_ (ho:=rfl) (hs:=rfl) (hx:=rfl);clear S F;intro Az cz W S;(try rw [← ho2] at S ⊢);have F:=S.fc)
          go_roundg k1
          case measure=>omega
          case rel=>exact ⟨o2,(wrap64 (i + 1)),Az,cz,(by first | rfl | (simp;done) | (simp [*];done) | (rw [w6_ (by omega) (by omega)])),(by first | rfl | (rw [ho2,List.length_append];rfl)),H,(by first | omega | exact Nat.le_refl _),S⟩
        · replace c10:=cbf c10
          go_wp2
          go_roundg k1
          case measure=>omega
          case rel=>exact ⟨o,(wrap64 (i + 1)),_,_,(by first | rfl | (simp;done) | (simp [*];done) | (rw [w6_ (by omega) (by omega)])),rfl,H,(by first | omega | exact Nat.le_refl _),S⟩
      · skip
        simp only [Option.some.injEq,Prod.mk.injEq] at H;obtain ⟨rfl,rfl⟩:=H
        go_wp2
        have hD2:=(S.kept.2 _ hDl (by omega)).trans hD
        refine ⟨by simp,.inl ⟨_,_,rfl,run_takeDeferred hD2,?_⟩⟩
        have hg9:=fun V:World=>grownBy_putObj' V W2.heap.size (.deferred none)
        obtain ⟨okx,hRx,_⟩:=impl_SureCells.row_all S 0 rfl
        exact ⟨_,results_tmp2 rfl _ _ _,_,rfl,Kd.R_mono (Kd.R_step (Kd.R_bound hRx) (fun j hj hl=>(hg9 _).block j hl (fun e=>by
         cases e
         obtain ⟨_,_,_,_,_,cells,hc2⟩:=hj
         rw [hc2] at hD2
         cases hD2))) (fun _ _=>trivial),S.below.grown (hg9 _) S.below.size (fun k e=>by cases e;exact hsz)⟩
 case stop=>exact fun c s' W _ h _=>h.elim

/-! ### laws_FnExactSureCells: function 6 -/
mutual
def laws_FnExactSureCells.j0:Nat→List Int→Bool→List Int→Bool→Bool→Int→Int→List (S106)→List Int→List Int→Int→Int→List (S88)→List Int→List Int→Option (Bool)
  | 0,_,_,_,_,_,_,_,_,_,_,_,_,_,_,_=>none
  | k + 1,x4,x5,x7,x8,x40,x499000,x499001,x499002,x499003,x499004,x527000,x527001,x527002,x527003,x527004=>if x40 = true then (some false) else ((laws_toChallenge.f k x499000 x499001 x499002 x499003 x499004).bind fun bt532=>((laws_eqChallenge.f k x527000 x527001 x527002 x527003 x527004 bt532.1 bt532.2.1 bt532.2.2.1 bt532.2.2.2.1 bt532.2.2.2.2).bind fun t543=>(if t543 = true then ((laws_markChallenge.f k x527000 x527001 x527002 x527003 x527004 1).bind fun bt544=>(if bt544.1 < 0 then (laws_FnExactSureCells.j1 k x4 x5 x7 true x499000 x499001 x499002 x499003 x499004) else ((laws_eqIntS.f k x7 x4).bind fun t548=>(if t548 = true then (laws_FnExactSureCells.j1 k x4 x5 x7 (x8 != x5) x499000 x499001 x499002 x499003 x499004) else (laws_FnExactSureCells.j1 k x4 x5 x7 true x499000 x499001 x499002 x499003 x499004))))) else (some false))))
def laws_FnExactSureCells.j1:Nat→List Int→Bool→List Int→Bool→Int→Int→List (S106)→List Int→List Int→Option (Bool)
  | 0,_,_,_,_,_,_,_,_,_=>none
  | k + 1,x4,x5,x7,x61,x499000,x499001,x499002,x499003,x499004=>if x61 = true then (some false) else ((laws_markIntS.f k x7 1).bind fun bt549=>((laws_heldIntS.f k bt549.2 1).bind fun t551=>(if t551 < 0 then (some false) else (if t551 = bt549.1 then ((laws_toChallenge.f k x499000 x499001 x499002 x499003 x499004).bind fun bt552=>((impl_SureCells.f k bt552.1 bt552.2.1 bt552.2.2.1 bt552.2.2.2.1 bt552.2.2.2.2).bind fun bt563=>((laws_eqIntS.f k bt563.1 x4).bind fun t567=>(if t567 = true then (laws_FnExactSureCells.j2 k bt549.2 bt549.1 (bt563.2 != x5)) else (laws_FnExactSureCells.j2 k bt549.2 bt549.1 true))))) else (some false)))))
def laws_FnExactSureCells.j2:Nat→List Int→Int→Bool→Option (Bool)
  | 0,_,_,_=>none
  | k + 1,x7,x10,x87=>if x87 = true then (some false) else ((laws_heldIntS.f k x7 1).bind fun t568=>(if t568 < 0 then (some false) else (if t568 = x10 then (some true) else (some false))))
end
def laws_FnExactSureCells.f (k:Nat) (a0_0:Int) (a0_1:Int) (l0_2:List (S106)) (l0_3:List Int) (l0_4:List Int):Option (Bool):=(laws_szChallenge.f a0_0 a0_1 l0_2 l0_3 l0_4 1048576).bind fun t499=>(if t499 < 0 then (some true) else ((laws_toChallenge.f k a0_0 a0_1 l0_2 l0_3 l0_4).bind fun bt500=>((spec_SureCells.f k bt500.1 bt500.2.1 bt500.2.2.1 bt500.2.2.2.1 bt500.2.2.2.2).bind fun bt511=>((laws_toChallenge.f k a0_0 a0_1 l0_2 l0_3 l0_4).bind fun bt515=>((impl_SureCells.f k bt515.1 bt515.2.1 bt515.2.2.1 bt515.2.2.2.1 bt515.2.2.2.2).bind fun bt527=>((laws_eqIntS.f k bt527.1 bt511.1).bind fun t531=>(if t531 = true then (laws_FnExactSureCells.j0 k bt511.1 bt511.2 bt527.1 bt527.2 (bt527.2 != bt511.2) a0_0 a0_1 l0_2 l0_3 l0_4 bt515.1 bt515.2.1 bt515.2.2.1 bt515.2.2.2.1 bt515.2.2.2.2) else (laws_FnExactSureCells.j0 k bt511.1 bt511.2 bt527.1 bt527.2 true a0_0 a0_1 l0_2 l0_3 l0_4 bt515.1 bt515.2.1 bt515.2.2.1 bt515.2.2.2.1 bt515.2.2.2.2))))))))
theorem laws_FnExactSureCells.calls (k:Nat) (a0_0:Int) (a0_1:Int) (A0_2:Option Addr) (c0_2:Nat) (l0_2:List (S106)) (A0_3:Option Addr) (c0_3:Nat) (l0_3:List Int) (A0_4:Option Addr) (c0_4:Nat) (l0_4:List Int) (r:Bool) (w:World) (hr0_2:Kd.C k106 w A0_2 l0_2.length l0_2) (hc0_2:l0_2.length ≤ c0_2) (hr0_3:Kd.C (Kd.int .i64) w A0_3 l0_3.length l0_3) (hc0_3:l0_3.length ≤ c0_3) (hr0_4:Kd.C (Kd.int .i64) w A0_4 l0_4.length l0_4) (hc0_4:l0_4.length ≤ c0_4) (hrt:r = true) (h:laws_FnExactSureCells.f k a0_0 a0_1 l0_2 l0_3 l0_4 = some r) :
    Calls Try.prog 6 #[.agg #[.int .i64 a0_0,.int .i64 a0_1,.slice A0_2 l0_2.length c0_2,.slice A0_3 l0_3.length c0_3,.slice A0_4 l0_4.length c0_4]] w fun e w'=>e = .returned (.bool r)∧Below w.heap.size w w':=by
 have S:=St.init (w:=w) (dc k106_heap at106 hr0_2 hc0_2 (dc (Kd.heap_int .i64) (atI .i64) hr0_3 hc0_3 (dc (Kd.heap_int .i64) (atI .i64) hr0_4 hc0_4 dn)))
 have HRT:=Aside0.mk hrt;clear hrt
 clear hr0_2 hc0_2 hr0_3 hc0_3 hr0_4 hc0_4
 have F:=S.fc
 have H:=h;clear h;unfold laws_FnExactSureCells.f at H
 replace H:=Option.bind_eq_some_iff.mp H;obtain ⟨t499,A2,H⟩:=H;(try dsimp only at H)
 replace H:=sp_ H;rcases H with ⟨c3,H⟩ | ⟨c3,H⟩
 · skip
   obtain rfl:=Option.some.inj H
   go_enter Try.func6,Try.ntmps6
   go_wp2_with (first | ((with_reducible refine gd 1 rfl (L ?_));refine bo 1 (.agg #[_,_,_,_,_]) S ?_;clear S F;intro gb498 W S;have F:=S.fc) | ((with_reducible refine gate_callee (f:=14) rfl (L ?_));refine cl (some 16) Try.func14 (laws_szChallenge.calls _ _ _ _ _ _ _ _ _ _ _ _ _ _ S.c S.n S.c S.n S.c S.n A2) (hargs:=by (simp only [ma_,mb_,mc_,F] <;> rfl)) (h:=?_);rintro e W ⟨rfl,hb⟩;refine ⟨_,rfl,?_⟩;replace S:=S.go hb;clear F hb;have F:=S.fc) | ((with_reducible refine gs (t:=31) rfl (L ?_));(first | refine sb (.agg #[_,_,_,_,_]) S sz31 ?_ | refine ro (.agg #[_,_,_,_,_]) S sz31 ?_ (ho:=rfl) (hx:=rfl) (hy:=rfl));(clear S F;intro W S;have F:=S.fc)))
   go_ret
   exact ⟨(by first | rfl | (simp [e0_,e1_] <;> rfl) | (simp [*,e0_,e1_] <;> rfl)),S.below⟩
 · skip
   replace H:=Option.bind_eq_some_iff.mp H;obtain ⟨⟨t500,t501,t502,t505,t508⟩,A7,H⟩:=H;(try dsimp only at H)
   replace H:=Option.bind_eq_some_iff.mp H;obtain ⟨⟨t511,t514⟩,A8,H⟩:=H;(try dsimp only at H)
   replace H:=Option.bind_eq_some_iff.mp H;obtain ⟨⟨t515,t516,t517,t520,t523⟩,A9,H⟩:=H;(try dsimp only at H)
   replace H:=Option.bind_eq_some_iff.mp H;obtain ⟨⟨t527,t530⟩,A10,H⟩:=H;(try dsimp only at H)
   go_enter Try.func6,Try.ntmps6
   go_upto_region 8 with (first | ((with_reducible refine gd 1 rfl (L ?_));refine bo 1 (.agg #[_,_,_,_,_]) S ?_;clear S F;intro gb498 W S;have F:=S.fc) | ((with_reducible refine gate_callee (f:=14) rfl (L ?_));refine cl (some 16) Try.func14 (laws_szChallenge.calls _ _ _ _ _ _ _ _ _ _ _ _ _ _ S.c S.n S.c S.n S.c S.n A2) (hargs:=by (simp only [ma_,mb_,mc_,F] <;> rfl)) (h:=?_);rintro e W ⟨rfl,hb⟩;refine ⟨_,rfl,?_⟩;replace S:=S.go hb;clear F hb;have F:=S.fc) | ((with_reducible refine gate_callee (f:=16) rfl (L ?_));refine cl (some 21) Try.func16 (laws_toChallenge.calls _ _ _ _ _ _ _ _ _ _ _ _ _ _ _ _ _ _ S.c S.n S.c S.n S.c S.n A7) (hargs:=by (simp only [ma_,mb_,mc_,F] <;> rfl)) (h:=?_);rintro e W ⟨v503,v506,v509,rfl,ho0,ho1,ho2,hb⟩;refine ⟨_,rfl,?_⟩;replace S:=S.got3i at88 (atI .i64) (atI .i64) hb ho0 ho1 ho2 (by decide);obtain ⟨At502,ct502,At505,ct505,At508,ct508,rfl,rfl,rfl,S⟩:=S;clear F hb ho0 ho1 ho2;have F:=S.fc) | ((with_reducible refine gate_callee (f:=27) rfl (L ?_));refine cl (some 22) Try.func27 (spec_SureCells.calls _ _ _ _ _ _ _ _ _ _ _ _ _ _ _ S.c S.n S.c S.n S.c S.n A8) (hargs:=by (simp only [ma_,mb_,mc_,F] <;> rfl)) (h:=?_);rintro e W ⟨v512,rfl,ho0,hb⟩;refine ⟨_,rfl,?_⟩;replace S:=S.got (atI .i64) hb ho0;obtain ⟨At511,ct511,rfl,S⟩:=S;clear F hb ho0;have F:=S.fc) | ((with_reducible refine gate_callee (f:=16) rfl (L ?_));refine cl (some 26) Try.func16 (laws_toChallenge.calls _ _ _ _ _ _ _ _ _ _ _ _ _ _ _ _ _ _ S.c S.n S.c S.n S.c S.n A9) (hargs:=by (simp only [ma_,mb_,mc_,F] <;> rfl)) (h:=?_);rintro e W ⟨v518,v521,v524,rfl,ho0,ho1,ho2,hb⟩;refine ⟨_,rfl,?_⟩;replace S:=S.got3i at88 (atI .i64) (atI .i64) hb ho0 ho1 ho2 (by decide);obtain ⟨At517,ct517,At520,ct520,At523,ct523,rfl,rfl,rfl,S⟩:=S;clear F hb ho0 ho1 ho2;have F:=S.fc) | ((with_reducible refine gd 6 rfl (L ?_));refine al 6 S zi31 ?_;clear S F;intro gb526 W S;have F:=S.fc) | ((with_reducible refine gate_callee (f:=28) rfl (L ?_));refine cl (some 29) Try.func28 (impl_SureCells.calls _ _ _ _ _ _ _ _ _ _ _ _ _ _ _ S.c S.n S.c S.n S.c S.n A10) (hargs:=by (simp only [ma_,mb_,mc_,F] <;> rfl)) (h:=?_);rintro e W ⟨v528,rfl,ho0,hb⟩;refine ⟨_,rfl,?_⟩;replace S:=S.got (atI .i64) hb ho0;obtain ⟨At527,ct527,rfl,S⟩:=S;clear F hb ho0;have F:=S.fc) | ((with_reducible refine gs (t:=31) rfl (L ?_));(first | refine sb (.agg #[_,_,_,_,_]) S sz31 ?_ | refine ro (.agg #[_,_,_,_,_]) S sz31 ?_ (ho:=rfl) (hx:=rfl) (hy:=rfl));(clear S F;intro W S;have F:=S.fc)))
   (try simp only [Act.put,List.setIfInBounds_toArray,List.set_cons_zero,List.set_cons_succ])
   go_cut [40] (fun v40 wc=>∃ (kq:Nat) (x40_10:Bool),v40 = .bool x40_10∧laws_FnExactSureCells.j0 kq t511 t514 t527 t530 x40_10 a0_0 a0_1 l0_2 l0_3 l0_4 t515 t516 t517 t520 t523 = some r∧kq ≤ k∧St w w (fun _=>False) [bor at106 A0_2 c0_2 l0_2,bor (atI .i64) A0_3 c0_3 l0_3,bor (atI .i64) A0_4 c0_4 l0_4] wc  [row (atI .i64) 3 At527 t527.length ct527 t527,box gb526 31 [.int .i64 t515,.int .i64 t516,.slice At517 t517.length ct517,.slice At520 t520.length ct520,.slice At523 t523.length ct523],row (atI .i64) 3 At523 t523.length ct523 t523,row (atI .i64) 3 At520 t520.length ct520 t520,row at88 88 At517 t517.length ct517 t517,row (atI .i64) 3 At511 t511.length ct511 t511,box gb498 25 [.int .i64 a0_0,.int .i64 a0_1,.slice A0_2 l0_2.length c0_2,.slice A0_3 l0_3.length c0_3,.slice A0_4 l0_4.length c0_4]])
   case first =>
    replace H:=Option.bind_eq_some_iff.mp H;obtain ⟨t531,A30,H⟩:=H;(try dsimp only at H)
    replace H:=sp_ H;rcases H with ⟨c31,H⟩ | ⟨c31,H⟩
    · skip
      subst c31
      go_wp2_with (first | ((with_reducible refine gate_callee (f:=21) rfl (L ?_));refine cl (some 34) Try.func21 (laws_eqIntS.calls _ _ _ _ _ _ _ _ _ S.c S.n S.c S.n A30) (hargs:=by (simp only [ma_,mb_,mc_,F] <;> rfl)) (h:=?_);rintro e W ⟨rfl,hb⟩;refine ⟨_,rfl,?_⟩;replace S:=S.gw hb;clear F hb;have F:=S.fc) | ((with_reducible refine gs (t:=31) rfl (L ?_));(first | refine sb (.agg #[_,_,_,_,_]) S sz31 ?_ | refine ro (.agg #[_,_,_,_,_]) S sz31 ?_ (ho:=rfl) (hx:=rfl) (hy:=rfl));(clear S F;intro W S;have F:=S.fc)))
      go_meet
      case rel=>exact ⟨_,(t530 != t514),(by first | rfl | (simp;done) | (simp [*];done) | (rw [w6_ (by omega) (by omega)])),H,(by first | omega | exact Nat.le_refl _),(S.ms [1,1,1,1,1,1,0,0,0])⟩
    · skip
      replace c31:=cbf c31;subst c31
      go_wp2_with (first | ((with_reducible refine gate_callee (f:=21) rfl (L ?_));refine cl (some 34) Try.func21 (laws_eqIntS.calls _ _ _ _ _ _ _ _ _ S.c S.n S.c S.n A30) (hargs:=by (simp only [ma_,mb_,mc_,F] <;> rfl)) (h:=?_);rintro e W ⟨rfl,hb⟩;refine ⟨_,rfl,?_⟩;replace S:=S.gw hb;clear F hb;have F:=S.fc) | ((with_reducible refine gs (t:=31) rfl (L ?_));(first | refine sb (.agg #[_,_,_,_,_]) S sz31 ?_ | refine ro (.agg #[_,_,_,_,_]) S sz31 ?_ (ho:=rfl) (hx:=rfl) (hy:=rfl));(clear S F;intro W S;have F:=S.fc)))
      go_meet
      case rel=>exact ⟨_,true,(by first | rfl | (simp;done) | (simp [*];done) | (rw [w6_ (by omega) (by omega)])),H,(by first | omega | exact Nat.le_refl _),(S.ms [1,1,1,1,1,1,0,0,0])⟩
   case rest =>
    clear H S F
    obtain ⟨kq,x40_10,rfl,HA,HJ10,S⟩:=hcut
    have F:=S.fc
    cases kq with
    | zero=>exact absurd HA (by simp [laws_FnExactSureCells.j0])
    | succ kj10 =>
     have H:=HA;clear HA;simp only [laws_FnExactSureCells.j0,F] at H
     replace H:=sp_ H;rcases H with ⟨c36,H⟩ | ⟨c36,H⟩
     · skip
       subst c36
       exact absurd (H.trans (congrArg some HRT.out)) (by simp)
     · skip
       replace c36:=cbf c36;subst c36
       replace H:=Option.bind_eq_some_iff.mp H;obtain ⟨⟨t532,t533,t534,t537,t540⟩,A37,H⟩:=H;(try dsimp only at H)
       replace H:=Option.bind_eq_some_iff.mp H;obtain ⟨t543,A38,H⟩:=H;(try dsimp only at H)
       replace H:=sp_ H;rcases H with ⟨c39,H⟩ | ⟨c39,H⟩
       · skip
         subst c39
         replace H:=Option.bind_eq_some_iff.mp H;obtain ⟨⟨t544,t545,t546,t547⟩,A40,H⟩:=H;(try dsimp only at H)
         go_wp2_with (first | ((with_reducible refine gs (t:=31) rfl (L ?_));(first | refine sb (.agg #[_,_,_,_,_]) S sz31 ?_ | refine ro (.agg #[_,_,_,_,_]) S sz31 ?_ (ho:=rfl) (hx:=rfl) (hy:=rfl));(clear S F;intro W S;have F:=S.fc)))
         refine rq S [(1,0),(1,1),(2,2),(2,3),(0,4)] [] (h:=?_);clear S F;intro W S;have S0:=S;have F:=S.fc
         repeat (first | (refine q0 (h:=?_)) | (refine q1 S0 (h:=?_)) | (refine q0n (h:=?_)) | (refine q1n S0 (h:=?_)))
         refine lk2 (by rfl) (by exact (Eq.refl true)) ?_;refine cl (some 43) Try.func16 (laws_toChallenge.calls _ _ _ _ _ _ _ _ _ _ _ _ _ _ _ _ _ _ S.c S.n S.c S.n S.c S.n A37) (hargs:=by (simp only [ma_,mb_,mc_,F] <;> rfl)) (h:=?_);rintro e W ⟨v535,v538,v541,rfl,ho0,ho1,ho2,hb⟩;refine ⟨_,rfl,?_⟩;replace S:=S.got3i at88 (atI .i64) (atI .i64) hb ho0 ho1 ho2 (by decide);obtain ⟨At534,ct534,At537,ct537,At540,ct540,rfl,rfl,rfl,S⟩:=S;clear F hb ho0 ho1 ho2;have F:=S.fc
         clear S0;have S0:=S.tl.tl.tl;refine ⟨S0,?_⟩
         refine lk2 (by rfl) (by exact (Eq.refl true)) ?_;refine cl (some 44) Try.func18 (laws_eqChallenge.calls _ _ _ _ _ _ _ _ _ _ _ _ _ _ _ _ _ _ _ _ _ _ _ _ _ S.c S.n S.c S.n S.c S.n S.c S.n S.c S.n S.c S.n A38) (hargs:=by (simp only [ma_,mb_,mc_,F] <;> rfl)) (h:=?_);rintro e W ⟨rfl,hb⟩;refine ⟨_,rfl,?_⟩;replace S:=S.go hb;clear F hb;have F:=S.fc
         clear S0;have S0:=S.tl.tl.tl;refine ⟨S0,?_⟩
         repeat (first | (refine q0 (h:=?_)) | (refine q1 S0 (h:=?_)) | (refine q0n (h:=?_)) | (refine q1n S0 (h:=?_)))
         refine oz ?_
         try clear S0
         go_upto_region 14 with (first | ((with_reducible refine gate_callee (f:=22) rfl (L ?_));obtain ⟨o1_,o2_,o3_,k_⟩:=S.lend3 At517 At520 At523;refine cl (some 48) Try.func22 (laws_markChallenge.calls _ _ _ o1_ _ _ o2_ _ _ o3_ _ _ _ _ _ _ _ _ _ k_.below k_.r1 k_.r2 k_.hp k_.r3 k_.hq A40) (hargs:=by (simp only [ma_,mb_,mc_,F] <;> rfl)) (h:=?_);rintro e W ⟨rfl,h1_,h2_,h3_,hb,hk⟩;refine ⟨_,rfl,?_⟩;clear S F;have S:=k_.back h1_ h2_ h3_ hb hk;simp only [List.set_cons_zero,List.set_cons_succ] at S;clear k_ h1_ h2_ h3_ hb hk o1_ o2_ o3_;have F:=S.fc) | ((with_reducible refine gs (t:=31) rfl (L ?_));(first | refine sb (.agg #[_,_,_,_,_]) S sz31 ?_ | refine ro (.agg #[_,_,_,_,_]) S sz31 ?_ (ho:=rfl) (hx:=rfl) (hy:=rfl));(clear S F;intro W S;have F:=S.fc)))
         (try simp only [Act.put,List.setIfInBounds_toArray,List.set_cons_zero,List.set_cons_succ])
         go_cut [61] (fun v61 wc=>∃ (kq:Nat) (x61_40:Bool),v61 = .bool x61_40∧laws_FnExactSureCells.j1 kq t511 t514 t527 x61_40 a0_0 a0_1 l0_2 l0_3 l0_4 = some r∧kq ≤ kj10∧St w w (fun _=>False) [bor at106 A0_2 c0_2 l0_2,bor (atI .i64) A0_3 c0_3 l0_3,bor (atI .i64) A0_4 c0_4 l0_4] wc  [row (atI .i64) 3 At527 t527.length ct527 t527,box gb526 31 [.int .i64 t515,.int .i64 t516,.slice At517 t517.length ct517,.slice At520 t520.length ct520,.slice At523 t523.length ct523],row (atI .i64) 3 At523 t523.length ct523 t547,row (atI .i64) 3 At520 t520.length ct520 t546,row at88 88 At517 t517.length ct517 t545,row (atI .i64) 3 At511 t511.length ct511 t511,box gb498 25 [.int .i64 a0_0,.int .i64 a0_1,.slice A0_2 l0_2.length c0_2,.slice A0_3 l0_3.length c0_3,.slice A0_4 l0_4.length c0_4]])
         case first =>
          replace H:=sp_ H;rcases H with ⟨c51,H⟩ | ⟨c51,H⟩
          · skip
            go_wp2_with (first | ((with_reducible refine gs (t:=31) rfl (L ?_));(first | refine sb (.agg #[_,_,_,_,_]) S sz31 ?_ | refine ro (.agg #[_,_,_,_,_]) S sz31 ?_ (ho:=rfl) (hx:=rfl) (hy:=rfl));(clear S F;intro W S;have F:=S.fc)))
            go_meet
            case rel=>exact ⟨_,true,(by first | rfl | (simp;done) | (simp [*];done) | (rw [w6_ (by omega) (by omega)])),(by first | exact H | (simp only [F];exact H)),(by first | omega | exact Nat.le_refl _),S.tl.tl.tl⟩
          · skip
            replace H:=Option.bind_eq_some_iff.mp H;obtain ⟨t548,A52,H⟩:=H;(try dsimp only at H)
            replace H:=sp_ H;rcases H with ⟨c53,H⟩ | ⟨c53,H⟩
            · skip
              subst c53
              go_wp2_with (first | (go_at_call 21;(try simp only [F]);refine (laws_eqIntS.calls _ _ _ _ _ _ _ _ _ S.c S.n S.c S.n A52).mono ?_;rintro e W ⟨rfl,hb⟩;replace S:=S.gw hb;clear F hb;have F:=S.fc) | ((with_reducible refine gs (t:=31) rfl (L ?_));(first | refine sb (.agg #[_,_,_,_,_]) S sz31 ?_ | refine ro (.agg #[_,_,_,_,_]) S sz31 ?_ (ho:=rfl) (hx:=rfl) (hy:=rfl));(clear S F;intro W S;have F:=S.fc)))
              go_meet
              case rel=>exact ⟨_,(t530 != t514),(by first | rfl | (simp;done) | (simp [*];done) | (rw [w6_ (by omega) (by omega)])),(by first | exact H | (simp only [F];exact H)),(by first | omega | exact Nat.le_refl _),S.tl.tl.tl⟩
            · skip
              replace c53:=cbf c53;subst c53
              go_wp2_with (first | (go_at_call 21;(try simp only [F]);refine (laws_eqIntS.calls _ _ _ _ _ _ _ _ _ S.c S.n S.c S.n A52).mono ?_;rintro e W ⟨rfl,hb⟩;replace S:=S.gw hb;clear F hb;have F:=S.fc) | ((with_reducible refine gs (t:=31) rfl (L ?_));(first | refine sb (.agg #[_,_,_,_,_]) S sz31 ?_ | refine ro (.agg #[_,_,_,_,_]) S sz31 ?_ (ho:=rfl) (hx:=rfl) (hy:=rfl));(clear S F;intro W S;have F:=S.fc)))
              go_meet
              case rel=>exact ⟨_,true,(by first | rfl | (simp;done) | (simp [*];done) | (rw [w6_ (by omega) (by omega)])),(by first | exact H | (simp only [F];exact H)),(by first | omega | exact Nat.le_refl _),S.tl.tl.tl⟩
         case rest =>
          clear H S F
          obtain ⟨kq,x61_40,rfl,HA,HJ40,S⟩:=hcut
          have F:=S.fc
          cases kq with
          | zero=>exact absurd HA (by simp [laws_FnExactSureCells.j1])
          | succ kj40 =>
           have H:=HA;clear HA;simp only [laws_FnExactSureCells.j1,F] at H
           replace H:=sp_ H;rcases H with ⟨c58,H⟩ | ⟨c58,H⟩
           · skip
             subst c58
             exact absurd (H.trans (congrArg some HRT.out)) (by simp)
           · skip
             replace c58:=cbf c58;subst c58
             replace H:=Option.bind_eq_some_iff.mp H;obtain ⟨⟨t549,t550⟩,A59,H⟩:=H;(try dsimp only at H)
             replace H:=Option.bind_eq_some_iff.mp H;obtain ⟨t551,A60,H⟩:=H;(try dsimp only at H)
             replace H:=sp_ H;rcases H with ⟨c61,H⟩ | ⟨c61,H⟩
             · skip
               exact absurd (H.trans (congrArg some HRT.out)) (by simp)
             · skip
               replace H:=sp_ H;rcases H with ⟨c62,H⟩ | ⟨c62,H⟩
               · skip
                 replace c62:=ceq c62
                 replace H:=Option.bind_eq_some_iff.mp H;obtain ⟨⟨t552,t553,t554,t557,t560⟩,A63,H⟩:=H;(try dsimp only at H)
                 replace H:=Option.bind_eq_some_iff.mp H;obtain ⟨⟨t563,t566⟩,A64,H⟩:=H;(try dsimp only at H)
                 go_upto_region 25 with (first | ((with_reducible refine gate_callee (f:=23) rfl (L ?_));obtain ⟨ok_,k_⟩:=S.lend (A:=At527);refine cl (some 64) Try.func23 (laws_markIntS.calls _ ok_ _ _ _ _ _ _ _ k_.below k_.own A59) (hargs:=by (simp only [ma_,mb_,mc_,F] <;> rfl)) (h:=?_);rintro e W ⟨rfl,hy,hb,hk⟩;refine ⟨_,rfl,?_⟩;clear S F;have S:=k_.back _ _ hy hb hk;clear k_ hy hb hk ok_;have F:=S.fc) | ((with_reducible refine gate_callee (f:=24) rfl (L ?_));refine cl (some 67) Try.func24 (laws_heldIntS.calls _ _ _ _ _ _ _ S.c S.n A60) (hargs:=by (simp only [ma_,mb_,mc_,F] <;> rfl)) (h:=?_);rintro e W ⟨rfl,hb⟩;refine ⟨_,rfl,?_⟩;replace S:=S.gw hb;clear F hb;have F:=S.fc) | ((with_reducible refine gate_callee (f:=16) rfl (L ?_));refine cl (some 75) Try.func16 (laws_toChallenge.calls _ _ _ _ _ _ _ _ _ _ _ _ _ _ _ _ _ _ S.c S.n S.c S.n S.c S.n A63) (hargs:=by (simp only [ma_,mb_,mc_,F] <;> rfl)) (h:=?_);rintro e W ⟨v555,v558,v561,rfl,ho0,ho1,ho2,hb⟩;refine ⟨_,rfl,?_⟩;replace S:=S.got3i at88 (atI .i64) (atI .i64) hb ho0 ho1 ho2 (by decide);obtain ⟨At554,ct554,At557,ct557,At560,ct560,rfl,rfl,rfl,S⟩:=S;clear F hb ho0 ho1 ho2;have F:=S.fc) | ((with_reducible refine gate_callee (f:=28) rfl (L ?_));refine cl (some 76) Try.func28 (impl_SureCells.calls _ _ _ _ _ _ _ _ _ _ _ _ _ _ _ S.c S.n S.c S.n S.c S.n A64) (hargs:=by (simp only [ma_,mb_,mc_,F] <;> rfl)) (h:=?_);rintro e W ⟨v564,rfl,ho0,hb⟩;refine ⟨_,rfl,?_⟩;replace S:=S.got (atI .i64) hb ho0;obtain ⟨At563,ct563,rfl,S⟩:=S;clear F hb ho0;have F:=S.fc) | ((with_reducible refine gs (t:=31) rfl (L ?_));(first | refine sb (.agg #[_,_,_,_,_]) S sz31 ?_ | refine ro (.agg #[_,_,_,_,_]) S sz31 ?_ (ho:=rfl) (hx:=rfl) (hy:=rfl));(clear S F;intro W S;have F:=S.fc)))
                 (try simp only [Act.put,List.setIfInBounds_toArray,List.set_cons_zero,List.set_cons_succ])
                 go_cut [87] (fun v87 wc=>∃ (kq:Nat) (x87_64:Bool),v87 = .bool x87_64∧laws_FnExactSureCells.j2 kq t550 t549 x87_64 = some r∧kq ≤ kj40∧St w w (fun _=>False) [bor at106 A0_2 c0_2 l0_2,bor (atI .i64) A0_3 c0_3 l0_3,bor (atI .i64) A0_4 c0_4 l0_4] wc  [row (atI .i64) 3 At527 t527.length ct527 t550,box gb526 31 [.int .i64 t515,.int .i64 t516,.slice At517 t517.length ct517,.slice At520 t520.length ct520,.slice At523 t523.length ct523],row (atI .i64) 3 At523 t523.length ct523 t547,row (atI .i64) 3 At520 t520.length ct520 t546,row at88 88 At517 t517.length ct517 t545,box gb498 25 [.int .i64 a0_0,.int .i64 a0_1,.slice A0_2 l0_2.length c0_2,.slice A0_3 l0_3.length c0_3,.slice A0_4 l0_4.length c0_4]])
                 case first =>
                  replace H:=Option.bind_eq_some_iff.mp H;obtain ⟨t567,A75,H⟩:=H;(try dsimp only at H)
                  replace H:=sp_ H;rcases H with ⟨c76,H⟩ | ⟨c76,H⟩
                  · skip
                    subst c76
                    go_wp2_with (first | ((with_reducible refine gate_callee (f:=21) rfl (L ?_));refine cl (some 81) Try.func21 (laws_eqIntS.calls _ _ _ _ _ _ _ _ _ S.c S.n S.c S.n A75) (hargs:=by (simp only [ma_,mb_,mc_,F] <;> rfl)) (h:=?_);rintro e W ⟨rfl,hb⟩;refine ⟨_,rfl,?_⟩;replace S:=S.gw hb;clear F hb;have F:=S.fc) | ((with_reducible refine gs (t:=31) rfl (L ?_));(first | refine sb (.agg #[_,_,_,_,_]) S sz31 ?_ | refine ro (.agg #[_,_,_,_,_]) S sz31 ?_ (ho:=rfl) (hx:=rfl) (hy:=rfl));(clear S F;intro W S;have F:=S.fc)))
                    go_meet
                    case rel=>exact ⟨_,(t566 != t514),(by first | rfl | (simp;done) | (simp [*];done) | (rw [w6_ (by omega) (by omega)])),(by first | exact H | (simp only [F];exact H)),(by first | omega | exact Nat.le_refl _),(S.ms [0,0,0,0,1,1,1,1,1,0])⟩
                  · skip
                    replace c76:=cbf c76;subst c76
                    go_wp2_with (first | ((with_reducible refine gate_callee (f:=21) rfl (L ?_));refine cl (some 81) Try.func21 (laws_eqIntS.calls _ _ _ _ _ _ _ _ _ S.c S.n S.c S.n A75) (hargs:=by (simp only [ma_,mb_,mc_,F] <;> rfl)) (h:=?_);rintro e W ⟨rfl,hb⟩;refine ⟨_,rfl,?_⟩;replace S:=S.gw hb;clear F hb;have F:=S.fc) | ((with_reducible refine gs (t:=31) rfl (L ?_));(first | refine sb (.agg #[_,_,_,_,_]) S sz31 ?_ | refine ro (.agg #[_,_,_,_,_]) S sz31 ?_ (ho:=rfl) (hx:=rfl) (hy:=rfl));(clear S F;intro W S;have F:=S.fc)))
                    go_meet
                    case rel=>exact ⟨_,true,(by first | rfl | (simp;done) | (simp [*];done) | (rw [w6_ (by omega) (by omega)])),(by first | exact H | (simp only [F];exact H)),(by first | omega | exact Nat.le_refl _),(S.ms [0,0,0,0,1,1,1,1,1,0])⟩
                 case rest =>
                  clear H S F
                  obtain ⟨kq,x87_64,rfl,HA,HJ64,S⟩:=hcut
                  have F:=S.fc
                  cases kq with
                  | zero=>exact absurd HA (by simp [laws_FnExactSureCells.j2])
                  | succ kj64 =>
                   have H:=HA;clear HA;simp only [laws_FnExactSureCells.j2,F] at H
                   replace H:=sp_ H;rcases H with ⟨c81,H⟩ | ⟨c81,H⟩
                   · skip
                     subst c81
                     exact absurd (H.trans (congrArg some HRT.out)) (by simp)
                   · skip
                     replace c81:=cbf c81;subst c81
                     replace H:=Option.bind_eq_some_iff.mp H;obtain ⟨t568,A82,H⟩:=H;(try dsimp only at H)
                     replace H:=sp_ H;rcases H with ⟨c83,H⟩ | ⟨c83,H⟩
                     · skip
                       exact absurd (H.trans (congrArg some HRT.out)) (by simp)
                     · skip
                       replace H:=sp_ H;rcases H with ⟨c84,H⟩ | ⟨c84,H⟩
                       · skip
                         replace c84:=ceq c84
                         obtain rfl:=Option.some.inj H
                         go_wp2_with (first | ((with_reducible refine gate_callee (f:=24) rfl (L ?_));refine cl (some 90) Try.func24 (laws_heldIntS.calls _ _ _ _ _ _ _ S.c S.n A82) (hargs:=by (simp only [ma_,mb_,mc_,F] <;> rfl)) (h:=?_);rintro e W ⟨rfl,hb⟩;refine ⟨_,rfl,?_⟩;replace S:=S.gw hb;clear F hb;have F:=S.fc) | ((with_reducible refine gs (t:=31) rfl (L ?_));(first | refine sb (.agg #[_,_,_,_,_]) S sz31 ?_ | refine ro (.agg #[_,_,_,_,_]) S sz31 ?_ (ho:=rfl) (hx:=rfl) (hy:=rfl));(clear S F;intro W S;have F:=S.fc)))
                         go_ret
                         exact ⟨(by first | rfl | (simp [e0_,e1_] <;> rfl) | (simp [*,e0_,e1_] <;> rfl)),S.below⟩
                       · skip
                         replace c84:=cne c84
                         exact absurd (H.trans (congrArg some HRT.out)) (by simp)
               · skip
                 replace c62:=cne c62
                 exact absurd (H.trans (congrArg some HRT.out)) (by simp)
       · skip
         replace c39:=cbf c39;subst c39
         exact absurd (H.trans (congrArg some HRT.out)) (by simp)
end Go.Proofs.Ytipaimgpmgbkiaa.F
