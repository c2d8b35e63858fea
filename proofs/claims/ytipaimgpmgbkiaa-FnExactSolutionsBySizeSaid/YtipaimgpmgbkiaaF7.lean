-- Printed by a program; checked here.
import Derived.Test.YtipaimgpmgbkiaaF0
import Derived.Test.YtipaimgpmgbkiaaF2
import Derived.Test.YtipaimgpmgbkiaaF5
import Derived.Test.YtipaimgpmgbkiaaF6
namespace Go.Proofs.Ytipaimgpmgbkiaa.F
open Go.RowKit Go.Proofs.YtipaimgpmgbkiaaV.PrintWords Go.Proofs.YtipaimgpmgbkiaaV.PrintLast Go.Proofs.YtipaimgpmgbkiaaV.PrintMore Go.Proofs.YtipaimgpmgbkiaaV.Sl Go.Proofs.YtipaimgpmgbkiaaV.Rf
attribute [local go_sem] max2_int min2_int max_two min_two max_three min_three max_four min_four ia_opt it_opt
attribute [local go_sem] Try.underlying4 Try.underlying23 Try.underlying25 Try.underlying29 Try.underlying31 Try.underlying42 Try.underlying50 Try.underlying85 Try.underlying88 Try.underlying89 Try.underlying106 Try.underlying122 Try.underlying127
set_option maxHeartbeats 8000000
set_option maxRecDepth 100000
set_option linter.unusedVariables false
set_option linter.unusedSimpArgs false

/-! ### impl_drop: function 129 -/
mutual
def impl_drop.l0:Nat→List Int→Int→List Int→Int→Int→Int→Int→List (S88)→Option (Int × Int × Int × List Int × (List (S88)))
 | 0,_,_,_,_,_,_,_,_=>none
 | k + 1,x1,x2,x8,x9,x10,x438000,x438001,x438002=>if x10 < x438000 then (if x8.length < 17592186044416 then ((some (x8 ++ [wrap64 ((wrap64 (x10 * x438001)) + x2)]:List Int)).bind fun y442=>(if 0 ≤ (wrap64 ((wrap64 (x10 * x438001)) + x2)) then (if (wrap64 ((wrap64 (x10 * x438001)) + x2)) < (x438002.length:Int) then ((impl_GoesTo.f k ((rd_T88 x438002 (wrap64 ((wrap64 (x10 * x438001)) + x2))).f0) ((rd_T88 x438002 (wrap64 ((wrap64 (x10 * x438001)) + x2))).f1) x9).bind fun bt447=>(if bt447.2 = true then (if ((rd_T88 x438002 (wrap64 ((wrap64 (x10 * x438001)) + x2))).f0) = 3 then (impl_drop.j1 k x1 x2 y442 x10 (wrap64 ((wrap64 (x10 * x438001)) + x2)) bt447.1 x438000 x438001 (x438002.set ((wrap64 ((wrap64 (x10 * x438001)) + x2)):Int).toNat (⟨(rd_T88 x438002 (wrap64 ((wrap64 (x10 * x438001)) + x2))).f0,wrap64 (1 - ((rd_T88 x438002 (wrap64 ((wrap64 (x10 * x438001)) + x2))).f1))⟩:S88)) ((rd_T88 x438002 (wrap64 ((wrap64 (x10 * x438001)) + x2))).f0) ((rd_T88 x438002 (wrap64 ((wrap64 (x10 * x438001)) + x2))).f1)) else (impl_drop.j1 k x1 x2 y442 x10 (wrap64 ((wrap64 (x10 * x438001)) + x2)) bt447.1 x438000 x438001 x438002 ((rd_T88 x438002 (wrap64 ((wrap64 (x10 * x438001)) + x2))).f0) ((rd_T88 x438002 (wrap64 ((wrap64 (x10 * x438001)) + x2))).f1))) else (some (2,x10,x2,y442,x438002)))) else (none)) else (none))) else (none)) else (some (1,x438000,x2,x8,x438002))
def impl_drop.j1:Nat→List Int→Int→List Int→Int→Int→Int→Int→Int→List (S88)→Int→Int→Option (Int × Int × Int × List Int × (List (S88)))
 | 0,_,_,_,_,_,_,_,_,_,_,_=>none
 | k + 1,x1,x2,x8,x10,x11,x13,x438000,x438001,x438002,x447000,x447001=>if x447000 = 6 then ((impl_turnGroup.f k x438000 x438001 x438002 x1 x11).bind fun t450=>(if (wrap64 (x2 + x13)) < 0 then (some (3,x10,wrap64 (x2 + x13),x8,t450)) else (if (wrap64 (x2 + x13)) ≥ x438001 then (some (3,x10,wrap64 (x2 + x13),x8,t450)) else (impl_drop.l0 k x1 (wrap64 (x2 + x13)) x8 (wrap64 (-x13)) (wrap64 (x10 + 1)) x438000 x438001 t450)))) else (if (wrap64 (x2 + x13)) < 0 then (some (3,x10,wrap64 (x2 + x13),x8,x438002)) else (if (wrap64 (x2 + x13)) ≥ x438001 then (some (3,x10,wrap64 (x2 + x13),x8,x438002)) else (impl_drop.l0 k x1 (wrap64 (x2 + x13)) x8 (wrap64 (-x13)) (wrap64 (x10 + 1)) x438000 x438001 x438002)))
end
def impl_drop.f (k:Nat) (a0_0:Int) (a0_1:Int) (l0_2:List (S88)) (l1:List Int) (a2:Int):Option (Int × Int × Int × List Int × (List (S88))):=impl_drop.l0 k l1 a2 (([]:List Int)) 0 0 a0_0 a0_1 l0_2
theorem impl_drop.calls (k:Nat) (a0_0:Int) (a0_1:Int) (P0_2_:Nat→Prop) (u9000_:Value) (l0_2:List (S88)) (A1:Option Addr) (c1:Nat) (l1:List Int) (a2:Int) (r1:Int) (r2:Int) (r3:Int) (r4:List Int) (r5:List (S88)) (w0 w:World) (hB:Below w0.heap.size w0 w) (ho0_2:Kd.R k88 88 w w0.heap.size P0_2_ u9000_ l0_2) (hr1:∀ W_,Kept w W_ (fun k_=>P0_2_ k_)→Kd.C (Kd.int .i64) W_ A1 l1.length l1) (hc1:l1.length ≤ c1) (h:impl_drop.f k a0_0 a0_1 l0_2 l1 a2 = some (r1,r2,r3,r4,r5)) :
  Calls Try.prog 129 #[.agg #[.int .i64 a0_0,.int .i64 a0_1,u9000_],.slice A1 l1.length c1,.int .i64 a2] w fun e w'=>∃ v3_:Value,e = .returned (.tuple #[.agg #[.int .i64 r1,.int .i64 r2,.int .i64 r3],v3_])∧Kd.R (Kd.int .i64) 3 w' w0.heap.size (fun k_=>(P0_2_ k_∨w.heap.size ≤ k_)) v3_ r4∧Kd.R k88 88 w' w0.heap.size (fun k_=>(P0_2_ k_∨w.heap.size ≤ k_)) u9000_ r5∧Below w0.heap.size w0 w'∧Kept w w' (fun k_=>P0_2_ k_):=by
 have HO0_2:=Aside0.mk (show Kd.R k88 88 w w0.heap.size (fun k_=>(P0_2_ k_∨w.heap.size ≤ k_)) u9000_ l0_2 from Kd.R_mono ho0_2 (fun k_ hk=>(.inl hk)));have HR1:=Aside0.mk hr1;have HC1:=Aside0.mk hc1;clear hr1 hc1;have HK:=Aside0.mk (Kept.refl w (fun k_=>P0_2_ k_));have HW0:=Aside0.mk hB.size;have HB:=Aside0.mk hB;clear hB;have H:(impl_drop.l0 k l1 a2 (([]:List Int)) 0 0 a0_0 a0_1 l0_2) = some (r1,r2,r3,r4,r5):=h;clear h;obtain ⟨y439,hy439⟩:∃ y_:List Int,y_ = (([]:List Int)):=⟨_,rfl⟩
 replace H:(impl_drop.l0 k l1 a2 y439 0 0 a0_0 a0_1 l0_2) = some (r1,r2,r3,r4,r5):=by first | (rw [hy439];with_reducible exact H) | (have H2_:=(Option.bind_some _ _).symm.trans H;rw [hy439];with_reducible exact H2_) | (have H2_:=(Option.bind_some _ _).symm.trans H;with_reducible exact H2_) | with_reducible exact H | (rw [hy439];exact H) | exact H
 have Ny439:=Aside0.mk hy439;clear hy439;have H':=Aside0.mk H;clear H;obtain ⟨Ao4,co4,eo4⟩:=Kd.R_slice HO0_2.out;subst eo4;go_enter Try.func129,Try.ntmps129;go_wp2_with (first | ((with_reducible refine gate_dst (N:=3) rfl ?_);refine box_event ?hg (N:=3) ?hd (cs:=#[.int .i64 a0_0,.int .i64 a0_1,.slice Ao4 l0_2.length co4]) (t:=50) ?hr ?_;(case hd=>rfl);(case hg=>rfl);(case hr=>first | (go_simp;done) | (go_simp;rfl));intro gb437 hg w5 hbox hb;refine ev6 (Kd.R_below (Kd.R_mv HO0_2.out) hb) (Kept.below (S:=(fun k_=>P0_2_ k_)) (km HK) hb) (bs HB hb) (hbox) ((by rw [hg];exact (by first | exact HK.out.1 | exact (show Kept w _ (fun k_=>P0_2_ k_) from km HK).1):w.heap.size ≤ gb437)) (gle hg HB) ?_;clear HO0_2 HK HB;intro HO0_2 HK HB BK437 GW437 GE437;clear hb hbox hg) | ((with_reducible refine gate_dst (N:=6) rfl ?_);refine box_event ?hg (N:=6) ?hd (cs:=#[.int .i64 0,.int .i64 0,.int .i64 0]) (t:=127) ?hr ?_;(case hd=>rfl);(case hg=>rfl);(case hr=>first | (go_simp;done) | (go_simp;rfl));intro gb438 hg w6 hbox hb;refine ev9 (Kd.R_below (Kd.R_mv HO0_2.out) hb) (kb BK437 hb) (Kept.below (S:=(fun k_=>P0_2_ k_)) (km HK) hb) (bs HB hb) (hbox) ((by rw [hg];exact (by first | exact HK.out.1 | exact (show Kept w _ (fun k_=>P0_2_ k_) from km HK).1):w.heap.size ≤ gb438)) (gle hg HB) (gnf hg BK437) (gne hg BK437) ?_;clear HO0_2 BK437 HK HB;intro HO0_2 BK437 HK HB BK438 GW438 GE438 NB437_438 NB438_437;clear hb hbox hg) | ((with_reducible refine gate_dst (N:=15) rfl ?_);refine Kd.R_lit (Kd.int .i64) _ 3 ?hg (N:=15) ?hd (xs:=([]:List Int)) (inner:=[]) (ok:=fun _=>True) (okp:=fun _=>True) ?hr ?hp (fun _ hk=>hk) trivial (Below.refl _ _) (Nat.le_refl _) (by simp) ?_;(case hd=>rfl);(case hg=>rfl);(case hr=>first | (go_simp;done) | (go_simp;rfl));(case hp=>exact (Reps.none _ _));intro v440 w7 ho8 hb hg_ hnew_;clear hg_ hnew_;(first | rw [← Ny439.out] at ho8 | (simp only [Int.reduceToNat] at ho8;rw [← Ny439.out] at ho8));refine ev6 (Kd.R_below (Kd.R_mv HO0_2.out) hb) (Kd.R_lower (Kd.R_newM (M:=fun k_=>(P0_2_ k_∨w.heap.size ≤ k_)) ho8 (by first | exact HK.out.1 | exact (show Kept w _ (fun k_=>P0_2_ k_) from km HK).1) (fun k_ h_=>.inr h_)) (below_size (bm HB))) (kb BK437 hb) (kb BK438 hb) (Kept.below (S:=(fun k_=>P0_2_ k_)) (km HK) hb) (bs HB hb) ?_;clear HO0_2 BK437 BK438 HK HB;intro HO0_2 HO441 BK437 BK438 HK HB;clear hb ho8))
 go_loopg [2,8,9,10] k (fun kq v2 v8 v9 v10 w'=>∃ (x2_1:Int) (x8_1:List Int) (x9_1:Int) (x10_1:Int) (x438002_1:List (S88)) (x439000_1:Int) (x439001_1:Int) (x439002_1:Int),v2 = .int .i64 x2_1∧v9 = .int .i64 x9_1∧v10 = .int .i64 x10_1∧Aside0 (impl_drop.l0 kq l1 x2_1 x8_1 x9_1 x10_1 a0_0 a0_1 x438002_1 = some (r1,r2,r3,r4,r5))∧Aside0 (kq ≤ k)∧Aside0 (Kd.R (Kd.int .i64) 3 w' w0.heap.size (fun k_=>(P0_2_ k_∨w.heap.size ≤ k_)) v8 x8_1)∧Aside0 (Kd.R k88 88 w' w0.heap.size (fun k_=>(P0_2_ k_∨w.heap.size ≤ k_)) (.slice Ao4 l0_2.length co4) x438002_1)∧Aside0 (w'.heap[gb437]? = some (.cells #[.int .i64 a0_0,.int .i64 a0_1,(.slice Ao4 l0_2.length co4)] 50 (0,0)))∧Aside0 (w'.heap[gb438]? = some (.cells #[.int .i64 x439000_1,.int .i64 x439001_1,.int .i64 x439002_1] 127 (0,0)))∧Aside0 (Kept w w' (fun k_=>P0_2_ k_))∧Aside0 (Below w0.heap.size w0 w'))
 case atStart=>exact ⟨(a2),(y439),(0),(0),(l0_2),(0),(0),(0),(by first | rfl | (simp;done) | (simp [*];done)),(by first | rfl | (simp;done) | (simp [*];done)),(by first | rfl | (simp;done) | (simp [*];done)),H',⟨Nat.le_refl _⟩,⟨Kd.R_mv (Kd.R_mono (ok':=fun k_=>((P0_2_ k_∨w.heap.size ≤ k_))) HO441.out (fun _ hk=>hk.1))⟩,⟨Kd.R_mv HO0_2.out⟩,⟨km_ BK437⟩,⟨km_ BK438⟩,⟨km HK⟩,⟨bm HB⟩⟩
 case round =>
  clear H';(try clear c1);(try clear p2);obtain ⟨x2_1,x8_1,x9_1,x10_1,x438002_1,x439000_1,x439001_1,x439002_1,rfl,rfl,rfl,HA,HK1,HO_8,HO_438002,BK437,BK438,HK,HB⟩:=hrel;have hl438002_1:=(Kd.R_reads' HO_438002.out).1;rw [hl438002_1] at HO_438002;(try simp only [hl438002_1])
  (try simp only [hl438002_1] at BK437)
  (try simp only [hl438002_1] at BK438)
  (try simp only [hl438002_1] at HO_8)
  cases gk with
  | zero=>exact absurd HA.out (by simp [impl_drop.l0])
  | succ k1 =>
   have H:=HA.out;clear HA;simp only [impl_drop.l0] at H;by_cases c9:x10_1 < a0_0
   ·rw [if_pos c9] at H;have c9b0:decide (x10_1 < a0_0) = true:=decide_eq_true c9;clear c9;replace H:=np_ H;obtain ⟨c10,H⟩:=H;have LMc10:=Aside0.mk c10;clear c10;obtain ⟨y442,hy442⟩:∃ y_:List Int,y_ = (x8_1 ++ [wrap64 ((wrap64 (x10_1 * a0_1)) + x2_1)]):=⟨_,rfl⟩
    replace H:(if 0 ≤ (wrap64 ((wrap64 (x10_1 * a0_1)) + x2_1)) then (if (wrap64 ((wrap64 (x10_1 * a0_1)) + x2_1)) < (x438002_1.length:Int) then ((impl_GoesTo.f k1 ((rd_T88 x438002_1 (wrap64 ((wrap64 (x10_1 * a0_1)) + x2_1))).f0) ((rd_T88 x438002_1 (wrap64 ((wrap64 (x10_1 * a0_1)) + x2_1))).f1) x9_1).bind fun bt447=>(if bt447.2 = true then (if ((rd_T88 x438002_1 (wrap64 ((wrap64 (x10_1 * a0_1)) + x2_1))).f0) = 3 then (impl_drop.j1 k1 l1 x2_1 y442 x10_1 (wrap64 ((wrap64 (x10_1 * a0_1)) + x2_1)) bt447.1 a0_0 a0_1 (x438002_1.set ((wrap64 ((wrap64 (x10_1 * a0_1)) + x2_1)):Int).toNat (⟨(rd_T88 x438002_1 (wrap64 ((wrap64 (x10_1 * a0_1)) + x2_1))).f0,wrap64 (1 - ((rd_T88 x438002_1 (wrap64 ((wrap64 (x10_1 * a0_1)) + x2_1))).f1))⟩:S88)) ((rd_T88 x438002_1 (wrap64 ((wrap64 (x10_1 * a0_1)) + x2_1))).f0) ((rd_T88 x438002_1 (wrap64 ((wrap64 (x10_1 * a0_1)) + x2_1))).f1)) else (impl_drop.j1 k1 l1 x2_1 y442 x10_1 (wrap64 ((wrap64 (x10_1 * a0_1)) + x2_1)) bt447.1 a0_0 a0_1 x438002_1 ((rd_T88 x438002_1 (wrap64 ((wrap64 (x10_1 * a0_1)) + x2_1))).f0) ((rd_T88 x438002_1 (wrap64 ((wrap64 (x10_1 * a0_1)) + x2_1))).f1))) else (some (2,x10_1,x2_1,y442,x438002_1)))) else (none)) else (none)) = some (r1,r2,r3,r4,r5):=by first | (rw [hy442];with_reducible exact H) | (have H2_:=(Option.bind_some _ _).symm.trans H;rw [hy442];with_reducible exact H2_) | (have H2_:=(Option.bind_some _ _).symm.trans H;with_reducible exact H2_) | with_reducible exact H | (rw [hy442];exact H) | exact H
    have Ny442:=Aside0.mk hy442;clear hy442;obtain ⟨ji11,hji11⟩:∃ j_:Int,(wrap64 ((wrap64 (x10_1 * a0_1)) + x2_1)) = j_:=⟨_,rfl⟩
    replace H:(if 0 ≤ (ji11) then (if (ji11) < (x438002_1.length:Int) then ((impl_GoesTo.f k1 ((rd_T88 x438002_1 (ji11)).f0) ((rd_T88 x438002_1 (ji11)).f1) x9_1).bind fun bt447=>(if bt447.2 = true then (if ((rd_T88 x438002_1 (ji11)).f0) = 3 then (impl_drop.j1 k1 l1 x2_1 y442 x10_1 ji11 bt447.1 a0_0 a0_1 (x438002_1.set ((ji11):Int).toNat (⟨(rd_T88 x438002_1 (ji11)).f0,wrap64 (1 - ((rd_T88 x438002_1 (ji11)).f1))⟩:S88)) ((rd_T88 x438002_1 (ji11)).f0) ((rd_T88 x438002_1 (ji11)).f1)) else (impl_drop.j1 k1 l1 x2_1 y442 x10_1 ji11 bt447.1 a0_0 a0_1 x438002_1 ((rd_T88 x438002_1 (ji11)).f0) ((rd_T88 x438002_1 (ji11)).f1))) else (some (2,x10_1,x2_1,y442,x438002_1)))) else (none)) else (none)) = some (r1,r2,r3,r4,r5):=by first | (rw [hji11] at H;exact H) | (simp only [hji11] at H ⊢;exact H)
    (try rw [hji11] at Ny442)
    have hji11w:(IntKind.i64.wrap ((wrap64 (x10_1 * a0_1)) + x2_1)) = ji11:=(i64_w _).trans hji11;replace H:=np_ H;obtain ⟨c12,H⟩:=H;have c12b0:decide (0 ≤ (ji11)) = true:=decide_eq_true c12;clear c12;replace H:=np_ H;obtain ⟨c13,H⟩:=H;have c13b0:decide ((ji11) < (x438002_1.length:Int)) = true:=decide_eq_true c13;(try simp only [hl438002_1] at c13b0)
    clear c13;replace H:=Option.bind_eq_some_iff.mp H;obtain ⟨⟨t447,t448⟩,A140,H⟩:=H;(try dsimp only at H)
    have A14:=Aside0.mk A140;clear A140;by_cases c15:t448 = true
    ·subst c15;have H1:(if ((rd_T88 x438002_1 (ji11)).f0) = 3 then (impl_drop.j1 k1 l1 x2_1 y442 x10_1 ji11 t447 a0_0 a0_1 (x438002_1.set ((ji11):Int).toNat (⟨(rd_T88 x438002_1 (ji11)).f0,wrap64 (1 - ((rd_T88 x438002_1 (ji11)).f1))⟩:S88)) ((rd_T88 x438002_1 (ji11)).f0) ((rd_T88 x438002_1 (ji11)).f1)) else (impl_drop.j1 k1 l1 x2_1 y442 x10_1 ji11 t447 a0_0 a0_1 x438002_1 ((rd_T88 x438002_1 (ji11)).f0) ((rd_T88 x438002_1 (ji11)).f1))) = some (r1,r2,r3,r4,r5):=by rw [if_pos rfl] at H;exact H
     clear H;have H:=H1;clear H1;have HC16:=Aside0.mk H;clear H;have hnb17:=NB437_438.out;have hnc17:=NB438_437.out;obtain ⟨hcz18_0,hcz18_1,hcz18_2,hfz18_0,hfz18_1,hfz18_2⟩:=bt3 BK437;go_upto_if 51 with (first | ((with_reducible refine gate_builtin (b:=.append) (xs:=#[.tmp 28,.tmp 30]) rfl ?_);at_builtin;refine Kd.R_append (Kd.int .i64) (w0:=w0) w0.heap.size rfl (.tmp 28) (.tmp 30) 23 3 (.int .i64 0) 8 rfl Try.underlying23 info3 rfl (by decide) (by omega) u8 x8_1 ji11 [.int .i64 ji11] (fun k_=>(P0_2_ k_∨w.heap.size ≤ k_)) (fun _=>False) rfl rfl ?aP (fun _ hk=>hk.elim) ?aF ?aO ?aB ?aS ?aL ?_;(case aP=>exact rfl);(case aB=>exact (bm HB));(case aF=>exact (fun k_ hk=>(.inr (Nat.le_trans (by first | exact HK.out.1 | exact (show Kept w _ (fun k_=>P0_2_ k_) from km HK).1) hk))));(case aO=>exact (Kd.R_mv HO_8.out));(case aS=>exact (below_size (bm HB)));(case aL=>have:=LMc10.out;omega);intro v443 w19 ho hb hg hat;rw [← Ny442.out] at ho;refine ev6 (Kd.R_over' (Kd.R_mv HO_438002.out) (Kd.R_typed (Kd.R_mv HO_8.out)) (by decide) hg) (blk_grown (km_ BK437) hg (Kd.R_ne HO_8.out BK437.out (by decide))) (blk_grown (km_ BK438) hg (Kd.R_ne HO_8.out BK438.out (by decide))) (hb) (Kept.of_grown (S:=(fun k_=>P0_2_ k_)) hg (km HK) (fun k_ e_=>(HO_8.out.1 k_ e_))) (ho) ?_;clear HO_438002 BK437 BK438 HB HK HO_8;intro HO_438002 BK437 BK438 HB HK HO444;clear ho hb hg hat;obtain ⟨hcz20_0,hcz20_1,hcz20_2,hfz20_0,hfz20_1,hfz20_2⟩:=bt3 BK437;have p445:0 ≤ ((ji11):Int):=of_decide_eq_true (by first | (with_reducible assumption) | assumption);have q445:(ji11) < (x438002_1.length:Int):=of_decide_eq_true (by first | (with_reducible assumption) | assumption);obtain ⟨ad445,e445,hx445_0,hx445_1⟩:=at_T88 (Kd.R_reads' HO_438002.out).2.2 (ji11) p445 q445;cases e445;replace p445:=eq_true p445;replace q445:=eq_true q445) | ((with_reducible refine gate_dst (N:=12) rfl ?_);refine box_event ?hg (N:=12) ?hd (cs:=#[.int .i64 0,.int .i64 0]) (t:=88) ?hr ?_;(case hd=>rfl);(case hg=>rfl);(case hr=>first | (go_simp;done) | (go_simp;rfl));intro gb446 hg w21 hbox hb;refine ev12 (Kd.R_below (Kd.R_elderB (Kd.R_mv HO_438002.out) gb446 (Nat.le_of_eq hg.symm)) hb) (Kd.R_below (Kd.R_mv HO444.out) hb) (kb BK437 hb) (kb BK438 hb) (Kept.below (S:=(fun k_=>P0_2_ k_)) (km HK) hb) (bs HB hb) (hbox) ((by rw [hg];exact (by first | exact HK.out.1 | exact (show Kept w _ (fun k_=>P0_2_ k_) from km HK).1):w.heap.size ≤ gb446)) (gle hg HB) (gnf hg BK437) (gne hg BK437) (gnf hg BK438) ?_;intro n0_ n1_ n2_ n3_ n4_ n5_ n6_ n7_ n8_ n9_ n10_ n11_;refine ev1 (gne hg BK438) ?_;intro n12_;clear HO_438002 HO444 BK437 BK438 HK HB;revert n0_ n1_ n2_ n3_ n4_ n5_ n6_ n7_ n8_ n9_ n10_ n11_ n12_;intro HO_438002 HO444 BK437 BK438 HK HB BK446 GW446 GE446 NB437_446 NB446_437 NB438_446 NB446_438;clear hb hbox hg;have hnb22:=NB446_437.out;have hnc22:=NB437_446.out;have hnb23:=NB446_438.out;have hnc23:=NB438_446.out;obtain ⟨hcz24_0,hcz24_1,hfz24_0,hfz24_1⟩:=bt2 BK446) | ((with_reducible refine gate_callee (f:=139) rfl ?_);refine goesL_ (some 40) rfl rfl Try.func139 (by kernel_rfl) rfl #[.agg #[.int .i64 ((rd_T88 x438002_1 (ji11)).f0),.int .i64 ((rd_T88 x438002_1 (ji11)).f1)],.int .i64 x9_1] rfl (by (try simp only [ma_,mb_,mc_]);first | done | (simp only [hji11];rfl) | rfl | (simp only [List.length_drop,List.length_take];rfl)) ?_;(with_reducible refine (impl_GoesTo.calls k1 ((rd_T88 x438002_1 (ji11)).f0) ((rd_T88 x438002_1 (ji11)).f1) x9_1 t447 true _ A14.out).mono ?_);rintro e w25 ⟨rfl,hb⟩;refine ⟨_,rfl,?_⟩;refine ev7 (Kd.R_below (Kd.R_mv (Kd.R_mono (Kd.R_far (p:=⟨gb446,1,none⟩) (Kd.R_far (p:=⟨gb446,0,none⟩) (Kd.R_mono HO_438002.out (fun k_ hk=>(⟨hk,hk.2⟩:_∧k_ ≠ gb446))) (fun _ hk=>hk.2) (.int .i64 ((rd_T88 x438002_1 (ji11)).f0))) (fun _ hk=>hk.2) (.int .i64 ((rd_T88 x438002_1 (ji11)).f1))) (fun _ h_=>h_.1))) hb) (Kd.R_below (Kd.R_ft HO444.out BK446.out (by decide)) hb) (blk_below (g:=gb437) (o:=.cells #[.int .i64 a0_0,.int .i64 a0_1,.slice (some ad445) x438002_1.length co4] 50 (0,0)) (fp BK437 rfl) hb) (blk_below (g:=gb438) (o:=.cells #[.int .i64 x439000_1,.int .i64 x439001_1,.int .i64 x439002_1] 127 (0,0)) (fp BK438 rfl) hb) (blk_below (g:=gb446) (o:=.cells #[.int .i64 ((rd_T88 x438002_1 (ji11)).f0),.int .i64 ((rd_T88 x438002_1 (ji11)).f1)] 88 (0,0)) (fp BK446 rfl) hb) (Kept.below (S:=(fun k_=>P0_2_ k_)) (km HK) hb) (bs HB hb) ?_;clear HO_438002 HO444 BK437 BK438 BK446 HK HB;intro HO_438002 HO444 BK437 BK438 BK446 HK HB;(try clear hb);obtain ⟨hcz26_0,hcz26_1,hfz26_0,hfz26_1⟩:=bt2 BK446))
     (try simp only [Act.put,za_,zb_,zc_])
     go_cut [] (fun wc=>∃ (kq:Nat) (x438002_15:List (S88)) (x447001_15:Int),Aside0 (impl_drop.j1 kq l1 x2_1 y442 x10_1 ji11 t447 a0_0 a0_1 x438002_15 ((rd_T88 x438002_1 (ji11)).f0) x447001_15 = some (r1,r2,r3,r4,r5))∧Aside0 (kq ≤ k1)∧Aside0 (Kd.R (Kd.int .i64) 3 wc w0.heap.size (fun k_=>(P0_2_ k_∨w.heap.size ≤ k_)) v443 y442)∧Aside0 (Kd.R k88 88 wc w0.heap.size (fun k_=>(P0_2_ k_∨w.heap.size ≤ k_)∧k_ ≠ gb446) (.slice (some ad445) x438002_1.length co4) x438002_15)∧Aside0 (wc.heap[gb437]? = some (.cells #[.int .i64 a0_0,.int .i64 a0_1,(.slice (some ad445) x438002_1.length co4)] 50 (0,0)))∧Aside0 (wc.heap[gb438]? = some (.cells #[.int .i64 x439000_1,.int .i64 x439001_1,.int .i64 x439002_1] 127 (0,0)))∧Aside0 (wc.heap[gb446]? = some (.cells #[.int .i64 ((rd_T88 x438002_1 (ji11)).f0),.int .i64 x447001_15] 88 (0,0)))∧Aside0 (Kept w wc (fun k_=>P0_2_ k_))∧Aside0 (Below w0.heap.size w0 wc))
     case first =>
      have H:=HC16.out;clear HC16;by_cases c27:((rd_T88 x438002_1 (ji11)).f0) = 3
      ·rw [if_pos c27] at H;have c27b0:(((rd_T88 x438002_1 (ji11)).f0) == 3) = true:=beq_iff_eq.mpr c27;have c27b1:(((rd_T88 x438002_1 (ji11)).f0) != 3) = false:=bne_eq_false_iff_eq.mpr c27;clear c27;(first | rw [c27b0] | (simp only [i64_w,i32_w];rw [c27b0]) | skip)
       obtain ⟨y449,hy449⟩:∃ y_:List (S88),y_ = (x438002_1.set ((ji11):Int).toNat (⟨(rd_T88 x438002_1 (ji11)).f0,wrap64 (1 - ((rd_T88 x438002_1 (ji11)).f1))⟩:S88)):=⟨_,rfl⟩
       replace H:(impl_drop.j1 k1 l1 x2_1 y442 x10_1 ji11 t447 a0_0 a0_1 y449 ((rd_T88 x438002_1 (ji11)).f0) ((rd_T88 x438002_1 (ji11)).f1)) = some (r1,r2,r3,r4,r5):=by first | (rw [hy449];with_reducible exact H) | (have H2_:=(Option.bind_some _ _).symm.trans H;rw [hy449];with_reducible exact H2_) | (have H2_:=(Option.bind_some _ _).symm.trans H;with_reducible exact H2_) | with_reducible exact H | (rw [hy449];exact H) | exact H
       have Ny449:=Aside0.mk hy449;clear hy449;have H':=Aside0.mk H;clear H;have hnb29:=NB437_438.out;have hnc29:=NB438_437.out;have hnb30:=NB437_446.out;have hnc30:=NB446_437.out;obtain ⟨hcz31_0,hcz31_1,hcz31_2,hfz31_0,hfz31_1,hfz31_2⟩:=bt3 BK437;have hnb32:=NB446_438.out;have hnc32:=NB438_446.out;obtain ⟨hcz33_0,hcz33_1,hfz33_0,hfz33_1⟩:=bt2 BK446;have p28:0 ≤ ((ji11):Int):=of_decide_eq_true (by first | (with_reducible assumption) | assumption);have q28:((ji11):Int) < ((x438002_1.length:Int):Int):=of_decide_eq_true (by first | (with_reducible assumption) | assumption);obtain ⟨go28,co28,eo28,gb28,gl28,cl28,HG28⟩:=Kd.R_form HO_438002.out (by omega);(first | cases eo28 | (injection eo28 with ea_ en_ ec_;(first | subst ea_ | (injection ea_ with ea_;subst ea_));subst ec_;clear en_))
       have GB28:=Aside0.mk gb28;have GG28:=Aside0.mk HG28;clear gb28 gl28 HG28;have HMgo28:=Aside0.mk (show (P0_2_ go28∨w.heap.size ≤ go28) from (HO_438002.out.1 _ rfl).1);(first | simp only [add_plain] at hx445_0 | skip)
       (first | simp only [add_plain] at hx445_1 | skip)
       obtain ⟨ce28,hcl28,hM28,hcc28,hfr28⟩:=Kd.R_elem HO_438002.out z88 ((ji11):Int) p28 q28;obtain rfl:=k88_openM hM28;have hx28_0:w25.cell? ⟨go28,((ji11):Int).toNat * 2,none⟩ = some (.int .i64 ((rd_T88 x438002_1 (ji11)).f0)):=hcc28 0 _ rfl;have hx28_1:w25.cell? ⟨go28,((ji11):Int).toNat * 2 + 1,none⟩ = some (.int .i64 ((rd_T88 x438002_1 (ji11)).f1)):=hcc28 1 _ rfl;have hf28_0:w25.frozen? ⟨go28,((ji11):Int).toNat * 2,none⟩ = false:=hfr28 0;have hf28_1:w25.frozen? ⟨go28,((ji11):Int).toNat * 2 + 1,none⟩ = false:=hfr28 1;clear hcl28 hcc28 hfr28 hM28;replace p28:=eq_true p28;replace q28:=eq_true q28;have HX34:=Aside0.mk (show Kd.R k88 88 w25 w0.heap.size (fun k_=>(P0_2_ k_∨w.heap.size ≤ k_)∧k_ ≠ gb446) (.slice (some ⟨go28,0,none⟩) x438002_1.length co4) x438002_1 from (Kd.R_mv HO_438002.out));obtain ⟨ce34,hcl34,hM34,hcc34,hfr34⟩:=Kd.R_elem HX34.out z88 ((ji11):Int) (of_decide_eq_true (by first | (with_reducible assumption) | assumption)) (by have h_:((ji11):Int) < ((x438002_1.length:Int):Int):=of_decide_eq_true (by first | (with_reducible assumption) | assumption);first | exact h_ | (have e_:=(Kd.R_reads' HO_438002.out).1;omega) | simpa using h_);obtain rfl:=k88_openM hM34;have HP34:=Kd.R_seg HX34.out ((ji11):Int) (of_decide_eq_true (by first | (with_reducible assumption) | assumption)) (by have h_:((ji11):Int) < ((x438002_1.length:Int):Int):=of_decide_eq_true (by first | (with_reducible assumption) | assumption);first | exact h_ | (have e_:=(Kd.R_reads' HO_438002.out).1;omega) | simpa using h_) (seg:=[.int .i64 (wrap64 (1 - ((rd_T88 x438002_1 (ji11)).f1)))]) (j:=1) hcl34 hcc34 (show 2 ≤ 2 from by decide) (x':=(⟨(rd_T88 x438002_1 (ji11)).f0,wrap64 (1 - ((rd_T88 x438002_1 (ji11)).f1))⟩:S88)) (k88_mkM _ _ _ (⟨(rd_T88 x438002_1 (ji11)).f0,wrap64 (1 - ((rd_T88 x438002_1 (ji11)).f1))⟩:S88) ) (fun _ hk=>hk);have hx34_1:=hcc34 1 _ rfl;(try simp only [show (k88).sz = 2 from rfl,Nat.mul_one,Nat.add_zero] at hx34_1)
       have hf34_1:=hfr34 1;(try simp only [show (k88).sz = 2 from rfl,Nat.mul_one,Nat.add_zero] at hf34_1)
       clear hcl34 hcc34 hfr34 hM34;go_wp2_with (first | ((with_reducible refine gate_store (t:=3) (p:=59) rfl ?_);refine store_event (t:=3) (p:=59) (v:=?vo_w35) (w1:=(w25.setCell ⟨go28,((ji11):Int).toNat * 2 + 1,none⟩ (.int .i64 (wrap64 (1 - ((rd_T88 x438002_1 (ji11)).f1)))))) ?hg ?ho ?hn ?hr ?_;(case ho=>rfl);(case hg=>rfl);(case hn=>rfl);(case hr=>first | (go_simp;done) | (go_simp;rfl));intro w35 hw;have hg:w25.grownBy w35 (some go28):=(by rw [hw];exact HP34.2);have hp_:Kd.R k88 88 w35 w0.heap.size (fun k_=>(P0_2_ k_∨w.heap.size ≤ k_)∧k_ ≠ gb446) (.slice (some ⟨go28,0,none⟩) x438002_1.length co4) y449:=(by rw [hw,Ny449.out];exact HP34.1);clear HP34;refine ev7 (hp_) (blk_grown (km_ BK437) hg (Kd.R_ne HO_438002.out BK437.out (by decide))) (blk_grown (km_ BK438) hg (Kd.R_ne HO_438002.out BK438.out (by decide))) (Kd.R_over' (v:=(.slice (some ⟨go28,0,none⟩) x438002_1.length co4)) (Kd.R_mv HO444.out) (Kd.R_typed HO_438002.out) (by decide) hg) (blk_grown (km_ BK446) hg (Kd.R_away HO_438002.out (fun _ hk=>hk.2))) ((by rw [hw];exact below_set (HB.out) GB28.out:Below w0.heap.size w0 w35)) (Kept.of_grown (S:=(fun k_=>P0_2_ k_)) hg (km HK) (fun k_ e_=>(HO_438002.out.1 k_ e_).1)) ?_;clear HO_438002 BK437 BK438 HO444 BK446 HB HK;intro HO_438002 BK437 BK438 HO444 BK446 HB HK;clear hg hw hp_))
       go_meet
       case rel=>exact ⟨_,(y449),((rd_T88 x438002_1 (ji11)).f1),H',⟨by have:=HK1.out;first | omega | exact Nat.le_refl _⟩,⟨by (try simp only [hl438002_1]);exact Kd.R_mv HO444.out⟩,⟨by (try simp only [hl438002_1]);exact Kd.R_mv HO_438002.out⟩,⟨by (try simp only [hl438002_1]);exact km_ BK437⟩,⟨by (try simp only [hl438002_1]);exact km_ BK438⟩,⟨by (try simp only [hl438002_1]);exact km_ BK446⟩,⟨km HK⟩,⟨bm HB⟩⟩
      ·rw [if_neg c27] at H;have c27b0:(((rd_T88 x438002_1 (ji11)).f0) == 3) = false:=beq_eq_false_iff_ne.mpr c27;have c27b1:(((rd_T88 x438002_1 (ji11)).f0) != 3) = true:=bne_iff_ne.mpr c27;(first | rw [c27b0] | (simp only [i64_w,i32_w];rw [c27b0]) | skip)
       have H':=Aside0.mk H;clear H;go_wp2;go_meet
       case rel=>exact ⟨_,(x438002_1),((rd_T88 x438002_1 (ji11)).f1),H',⟨by have:=HK1.out;first | omega | exact Nat.le_refl _⟩,⟨by (try simp only [hl438002_1]);exact Kd.R_mv HO444.out⟩,⟨by (try simp only [hl438002_1]);exact Kd.R_mv HO_438002.out⟩,⟨by (try simp only [hl438002_1]);exact km_ BK437⟩,⟨by (try simp only [hl438002_1]);exact km_ BK438⟩,⟨by (try simp only [hl438002_1]);exact km_ BK446⟩,⟨km HK⟩,⟨bm HB⟩⟩
     case rest =>
      clear HC16;(try clear c1);(try clear c2);(try clear p2);(try clear p4);(try clear q4);(try clear hx4);(try clear p6);(try clear c9);(try clear c9b0);(try clear c10);(try clear c12);(try clear c12b0);(try clear c13);(try clear c13b0);(try clear c15);(try clear c17);(try clear c22);(try clear c23);(try clear hcz18_0 hcz18_1 hcz18_2 hfz18_0 hfz18_1 hfz18_2);(try clear hcz20_0 hcz20_1 hcz20_2 hfz20_0 hfz20_1 hfz20_2);(try clear hcz24_0 hcz24_1 hfz24_0 hfz24_1);(try clear hcz26_0 hcz26_1 hfz26_0 hfz26_1);(try clear hx445_0);(try clear hx445_1);(try clear p2);(try clear p445);(try clear q445);obtain ⟨kq,x438002_15,x447001_15,HA,HJ15,HO_8,HO_438002,BK437,BK438,BK446,HK,HB⟩:=hcut;have hl438002_15:=(Kd.R_reads' HO_438002.out).1;rw [hl438002_15] at HO_438002;(try simp only [hl438002_15])
      (try simp only [hl438002_15] at BK437)
      (try simp only [hl438002_15] at BK438)
      (try simp only [hl438002_15] at BK446)
      (try simp only [hl438002_15] at HO_8)
      cases kq with
      | zero=>exact absurd HA.out (by simp [impl_drop.j1])
      | succ kj15 =>
       have H:=HA.out;clear HA;simp only [impl_drop.j1] at H;by_cases c36:((rd_T88 x438002_1 (ji11)).f0) = 6
       ·rw [if_pos c36] at H;have c36b0:(((rd_T88 x438002_1 (ji11)).f0) == 6) = true:=beq_iff_eq.mpr c36;have c36b1:(((rd_T88 x438002_1 (ji11)).f0) != 6) = false:=bne_eq_false_iff_eq.mpr c36;clear c36;replace H:=Option.bind_eq_some_iff.mp H;obtain ⟨t450,A370,H⟩:=H;(try dsimp only at H)
        have A37:=Aside0.mk A370;clear A370;by_cases c38:(wrap64 (x2_1 + t447)) < 0
        ·rw [if_pos c38] at H;have c38b0:decide ((wrap64 (x2_1 + t447)) < 0) = true:=decide_eq_true c38;clear c38;simp only [Option.some.injEq,Prod.mk.injEq] at H;obtain ⟨rfl,rfl,rfl,rfl,rfl⟩:=H;have hnb39:=NB446_437.out;have hnc39:=NB437_446.out;have hnb40:=NB446_438.out;have hnc40:=NB438_446.out;obtain ⟨hcz41_0,hcz41_1,hfz41_0,hfz41_1⟩:=bt2 BK446;have hnb42:=NB437_438.out;have hnc42:=NB438_437.out;obtain ⟨hcz43_0,hcz43_1,hcz43_2,hfz43_0,hfz43_1,hfz43_2⟩:=bt3 BK437;go_wp2_with (first | ((with_reducible refine gate_callee (f:=140) rfl ?_);refine goesL_ (some 66) rfl rfl Try.func140 (by kernel_rfl) rfl #[.agg #[.int .i64 a0_0,.int .i64 a0_1,.slice (some ad445) x438002_15.length co4],.slice A1 l1.length c1,.int .i64 ji11] rfl (by (try simp only [ma_,mb_,mc_]);first | done | (simp only [hji11];rfl) | rfl | (simp only [List.length_drop,List.length_take];rfl)) ?_;(with_reducible refine (impl_turnGroup.calls kj15 a0_0 a0_1 (fun k_=>some k_ = (.slice (some ad445) x438002_15.length co4:Value).ownBlock) (.slice (some ad445) x438002_15.length co4) x438002_15 _ _ l1 ji11 t450 w0 _ (bm HB) ?side2 ?side3 HC1.out A37.out).mono ?_);(case side2=>exact Kd.R_tight rfl HO_438002.out);(case side3=>exact Kd.C_kept_call HR1.out (km HK) (fun k_ hs_=>(fun e_=>(HO_438002.out.1 k_ e_.symm).1) hs_));rintro e w44 ⟨rfl,hy0,hb,hkp⟩;refine ⟨_,rfl,?_⟩;refine ev7 (Kd.R_mono (ok':=fun k_=>(P0_2_ k_∨w.heap.size ≤ k_)) (Kd.R_keptB ((Kd.R_apart' HO_8.out (Kd.R_typed HO_438002.out) (by decide))) hkp (fun k_ hk_ hs_=>(hk_.2) hs_)) (fun k_ hk_=>hk_.1.1)) (Kd.R_reok rfl hy0 (fun k_ e_=>HO_438002.out.1 k_ e_)) (blk_kept (km_ BK437) hkp (fun hs_=>(fun e_=>(Kd.R_ne HO_438002.out BK437.out (by decide)) e_) hs_)) (blk_kept (km_ BK438) hkp (fun hs_=>(fun e_=>(Kd.R_ne HO_438002.out BK438.out (by decide)) e_) hs_)) (blk_kept (km_ BK446) hkp (fun hs_=>(fun e_=>(Kd.R_away HO_438002.out (fun _ hk=>hk.2)) e_) hs_)) (Kept.then_ (S:=(fun k_=>P0_2_ k_)) (km HK) hkp (fun k_ hs_=>(fun e_=>(HO_438002.out.1 k_ e_.symm).1) hs_)) (hb) ?_;clear HO_8 HO_438002 BK437 BK438 BK446 HK HB;intro HO_8 HO_438002 BK437 BK438 BK446 HK HB;(try clear hb);(try clear hkp);(try clear hy0);obtain ⟨hcz45_0,hcz45_1,hcz45_2,hfz45_0,hfz45_1,hfz45_2⟩:=bt3 BK438))
         refine bodyPost_ret (results_ct rfl _ _ gb438 127 #[.int .i64 3,.int .i64 x10_1,.int .i64 (wrap64 (x2_1 + t447))] (0,0) _ rfl (fp BK438 rfl) Try.underlying127 rfl (by kernel_rfl)) rfl ?_;exact ⟨_,by first | rfl | (simp [e0_,e1_] <;> rfl) | (simp only [← hji11];first | rfl | (simp [e0_,e1_] <;> rfl)) | (simp [*,e0_,e1_] <;> rfl),Kd.R_mv (Kd.R_mono (ok':=fun k_=>((P0_2_ k_∨w.heap.size ≤ k_))) (Kd.R_far (p:=⟨gb438,2,none⟩) (Kd.R_far (p:=⟨gb438,1,none⟩) (Kd.R_far (p:=⟨gb438,0,none⟩) (Kd.R_types HO_8.out BK438.out (by decide)) (fun _ hk=>hk.2) (.int .i64 3)) (fun _ hk=>hk.2) (.int .i64 x10_1)) (fun _ hk=>hk.2) (.int .i64 (wrap64 (x2_1 + t447)))) (fun _ hk=>hk.1)),(by first | exact (Kd.R_mv (Kd.R_mono (ok':=fun k_=>((P0_2_ k_∨w.heap.size ≤ k_))) (Kd.R_far (p:=⟨gb438,2,none⟩) (Kd.R_far (p:=⟨gb438,1,none⟩) (Kd.R_far (p:=⟨gb438,0,none⟩) (Kd.R_types HO_438002.out BK438.out (by decide)) (fun _ hk=>hk.2) (.int .i64 3)) (fun _ hk=>hk.2) (.int .i64 x10_1)) (fun _ hk=>hk.2) (.int .i64 (wrap64 (x2_1 + t447)))) (fun _ hk=>hk.1.1))) | (simp only [hl438002_1,hl438002_15];exact (Kd.R_mv (Kd.R_mono (ok':=fun k_=>((P0_2_ k_∨w.heap.size ≤ k_))) (Kd.R_far (p:=⟨gb438,2,none⟩) (Kd.R_far (p:=⟨gb438,1,none⟩) (Kd.R_far (p:=⟨gb438,0,none⟩) (Kd.R_types HO_438002.out BK438.out (by decide)) (fun _ hk=>hk.2) (.int .i64 3)) (fun _ hk=>hk.2) (.int .i64 x10_1)) (fun _ hk=>hk.2) (.int .i64 (wrap64 (x2_1 + t447)))) (fun _ hk=>hk.1.1))))),bm HB,km HK⟩
        ·rw [if_neg c38] at H;have c38b0:decide ((wrap64 (x2_1 + t447)) < 0) = false:=decide_eq_false c38;clear c38;by_cases c46:(wrap64 (x2_1 + t447)) ≥ a0_1
         ·rw [if_pos c46] at H;have c46b0:decide (a0_1 ≤ (wrap64 (x2_1 + t447))) = true:=decide_eq_true c46;clear c46;simp only [Option.some.injEq,Prod.mk.injEq] at H;obtain ⟨rfl,rfl,rfl,rfl,rfl⟩:=H;have hnb47:=NB446_437.out;have hnc47:=NB437_446.out;have hnb48:=NB446_438.out;have hnc48:=NB438_446.out;obtain ⟨hcz49_0,hcz49_1,hfz49_0,hfz49_1⟩:=bt2 BK446;have hnb50:=NB437_438.out;have hnc50:=NB438_437.out;obtain ⟨hcz51_0,hcz51_1,hcz51_2,hfz51_0,hfz51_1,hfz51_2⟩:=bt3 BK437;go_wp2_with (first | ((with_reducible refine gate_callee (f:=140) rfl ?_);refine goesL_ (some 66) rfl rfl Try.func140 (by kernel_rfl) rfl #[.agg #[.int .i64 a0_0,.int .i64 a0_1,.slice (some ad445) x438002_15.length co4],.slice A1 l1.length c1,.int .i64 ji11] rfl (by (try simp only [ma_,mb_,mc_]);first | done | (simp only [hji11];rfl) | rfl | (simp only [List.length_drop,List.length_take];rfl)) ?_;(with_reducible refine (impl_turnGroup.calls kj15 a0_0 a0_1 (fun k_=>some k_ = (.slice (some ad445) x438002_15.length co4:Value).ownBlock) (.slice (some ad445) x438002_15.length co4) x438002_15 _ _ l1 ji11 t450 w0 _ (bm HB) ?side2 ?side3 HC1.out A37.out).mono ?_);(case side2=>exact Kd.R_tight rfl HO_438002.out);(case side3=>exact Kd.C_kept_call HR1.out (km HK) (fun k_ hs_=>(fun e_=>(HO_438002.out.1 k_ e_.symm).1) hs_));rintro e w52 ⟨rfl,hy0,hb,hkp⟩;refine ⟨_,rfl,?_⟩;refine ev7 (Kd.R_mono (ok':=fun k_=>(P0_2_ k_∨w.heap.size ≤ k_)) (Kd.R_keptB ((Kd.R_apart' HO_8.out (Kd.R_typed HO_438002.out) (by decide))) hkp (fun k_ hk_ hs_=>(hk_.2) hs_)) (fun k_ hk_=>hk_.1.1)) (Kd.R_reok rfl hy0 (fun k_ e_=>HO_438002.out.1 k_ e_)) (blk_kept (km_ BK437) hkp (fun hs_=>(fun e_=>(Kd.R_ne HO_438002.out BK437.out (by decide)) e_) hs_)) (blk_kept (km_ BK438) hkp (fun hs_=>(fun e_=>(Kd.R_ne HO_438002.out BK438.out (by decide)) e_) hs_)) (blk_kept (km_ BK446) hkp (fun hs_=>(fun e_=>(Kd.R_away HO_438002.out (fun _ hk=>hk.2)) e_) hs_)) (Kept.then_ (S:=(fun k_=>P0_2_ k_)) (km HK) hkp (fun k_ hs_=>(fun e_=>(HO_438002.out.1 k_ e_.symm).1) hs_)) (hb) ?_;clear HO_8 HO_438002 BK437 BK438 BK446 HK HB;intro HO_8 HO_438002 BK437 BK438 BK446 HK HB;(try clear hb);(try clear hkp);(try clear hy0);obtain ⟨hcz53_0,hcz53_1,hcz53_2,hfz53_0,hfz53_1,hfz53_2⟩:=bt3 BK437;obtain ⟨hcz54_0,hcz54_1,hcz54_2,hfz54_0,hfz54_1,hfz54_2⟩:=bt3 BK438))
          refine bodyPost_ret (results_ct rfl _ _ gb438 127 #[.int .i64 3,.int .i64 x10_1,.int .i64 (wrap64 (x2_1 + t447))] (0,0) _ rfl (fp BK438 rfl) Try.underlying127 rfl (by kernel_rfl)) rfl ?_;exact ⟨_,by first | rfl | (simp [e0_,e1_] <;> rfl) | (simp only [← hji11];first | rfl | (simp [e0_,e1_] <;> rfl)) | (simp [*,e0_,e1_] <;> rfl),Kd.R_mv (Kd.R_mono (ok':=fun k_=>((P0_2_ k_∨w.heap.size ≤ k_))) (Kd.R_far (p:=⟨gb438,2,none⟩) (Kd.R_far (p:=⟨gb438,1,none⟩) (Kd.R_far (p:=⟨gb438,0,none⟩) (Kd.R_types HO_8.out BK438.out (by decide)) (fun _ hk=>hk.2) (.int .i64 3)) (fun _ hk=>hk.2) (.int .i64 x10_1)) (fun _ hk=>hk.2) (.int .i64 (wrap64 (x2_1 + t447)))) (fun _ hk=>hk.1)),(by first | exact (Kd.R_mv (Kd.R_mono (ok':=fun k_=>((P0_2_ k_∨w.heap.size ≤ k_))) (Kd.R_far (p:=⟨gb438,2,none⟩) (Kd.R_far (p:=⟨gb438,1,none⟩) (Kd.R_far (p:=⟨gb438,0,none⟩) (Kd.R_types HO_438002.out BK438.out (by decide)) (fun _ hk=>hk.2) (.int .i64 3)) (fun _ hk=>hk.2) (.int .i64 x10_1)) (fun _ hk=>hk.2) (.int .i64 (wrap64 (x2_1 + t447)))) (fun _ hk=>hk.1.1))) | (simp only [hl438002_1,hl438002_15];exact (Kd.R_mv (Kd.R_mono (ok':=fun k_=>((P0_2_ k_∨w.heap.size ≤ k_))) (Kd.R_far (p:=⟨gb438,2,none⟩) (Kd.R_far (p:=⟨gb438,1,none⟩) (Kd.R_far (p:=⟨gb438,0,none⟩) (Kd.R_types HO_438002.out BK438.out (by decide)) (fun _ hk=>hk.2) (.int .i64 3)) (fun _ hk=>hk.2) (.int .i64 x10_1)) (fun _ hk=>hk.2) (.int .i64 (wrap64 (x2_1 + t447)))) (fun _ hk=>hk.1.1))))),bm HB,km HK⟩
         ·rw [if_neg c46] at H;have c46b0:decide (a0_1 ≤ (wrap64 (x2_1 + t447))) = false:=decide_eq_false c46;clear c46;have H':=Aside0.mk H;clear H;have hnb55:=NB446_437.out;have hnc55:=NB437_446.out;have hnb56:=NB446_438.out;have hnc56:=NB438_446.out;obtain ⟨hcz57_0,hcz57_1,hfz57_0,hfz57_1⟩:=bt2 BK446;have hnb58:=NB437_438.out;have hnc58:=NB438_437.out;obtain ⟨hcz59_0,hcz59_1,hcz59_2,hfz59_0,hfz59_1,hfz59_2⟩:=bt3 BK437;go_wp2_with (first | ((with_reducible refine gate_callee (f:=140) rfl ?_);refine goesL_ (some 66) rfl rfl Try.func140 (by kernel_rfl) rfl #[.agg #[.int .i64 a0_0,.int .i64 a0_1,.slice (some ad445) x438002_15.length co4],.slice A1 l1.length c1,.int .i64 ji11] rfl (by (try simp only [ma_,mb_,mc_]);first | done | (simp only [hji11];rfl) | rfl | (simp only [List.length_drop,List.length_take];rfl)) ?_;(with_reducible refine (impl_turnGroup.calls kj15 a0_0 a0_1 (fun k_=>some k_ = (.slice (some ad445) x438002_15.length co4:Value).ownBlock) (.slice (some ad445) x438002_15.length co4) x438002_15 _ _ l1 ji11 t450 w0 _ (bm HB) ?side2 ?side3 HC1.out A37.out).mono ?_);(case side2=>exact Kd.R_tight rfl HO_438002.out);(case side3=>exact Kd.C_kept_call HR1.out (km HK) (fun k_ hs_=>(fun e_=>(HO_438002.out.1 k_ e_.symm).1) hs_));rintro e w60 ⟨rfl,hy0,hb,hkp⟩;refine ⟨_,rfl,?_⟩;refine ev7 (Kd.R_mono (ok':=fun k_=>(P0_2_ k_∨w.heap.size ≤ k_)) (Kd.R_keptB ((Kd.R_apart' HO_8.out (Kd.R_typed HO_438002.out) (by decide))) hkp (fun k_ hk_ hs_=>(hk_.2) hs_)) (fun k_ hk_=>hk_.1.1)) (Kd.R_reok rfl hy0 (fun k_ e_=>HO_438002.out.1 k_ e_)) (blk_kept (km_ BK437) hkp (fun hs_=>(fun e_=>(Kd.R_ne HO_438002.out BK437.out (by decide)) e_) hs_)) (blk_kept (km_ BK438) hkp (fun hs_=>(fun e_=>(Kd.R_ne HO_438002.out BK438.out (by decide)) e_) hs_)) (blk_kept (km_ BK446) hkp (fun hs_=>(fun e_=>(Kd.R_away HO_438002.out (fun _ hk=>hk.2)) e_) hs_)) (Kept.then_ (S:=(fun k_=>P0_2_ k_)) (km HK) hkp (fun k_ hs_=>(fun e_=>(HO_438002.out.1 k_ e_.symm).1) hs_)) (hb) ?_;clear HO_8 HO_438002 BK437 BK438 BK446 HK HB;intro HO_8 HO_438002 BK437 BK438 BK446 HK HB;(try clear hb);(try clear hkp);(try clear hy0);obtain ⟨hcz61_0,hcz61_1,hcz61_2,hfz61_0,hfz61_1,hfz61_2⟩:=bt3 BK437))
          (try simp only [← hl438002_1,← hl438002_15])
          go_roundg kj15
          case measure=>have:=HK1.out;have:=HJ15.out;omega
          case rel=>exact ⟨(wrap64 (x2_1 + t447)),(y442),(wrap64 (-t447)),(wrap64 (x10_1 + 1)),(t450),(x439000_1),(x439001_1),(x439002_1),(by first | rfl | (simp;done) | (simp [*];done)),(by first | rfl | (simp;done) | (simp [*];done)),(by first | rfl | (simp;done) | (simp [*];done)),H',⟨by have:=HK1.out;have:=HJ15.out;omega⟩,⟨by (try simp only [hl438002_1]);(try simp only [hl438002_15]);exact Kd.R_mv HO_8.out⟩,⟨by (try simp only [hl438002_1]);(try simp only [hl438002_15]);exact Kd.R_mv (Kd.R_mono (ok':=fun k_=>((P0_2_ k_∨w.heap.size ≤ k_))) HO_438002.out (fun _ hk=>hk.1))⟩,⟨by (try simp only [hl438002_1]);(try simp only [hl438002_15]);exact km_ BK437⟩,⟨by (try simp only [hl438002_1]);(try simp only [hl438002_15]);exact km_ BK438⟩,⟨km HK⟩,⟨bm HB⟩⟩
       ·rw [if_neg c36] at H;have c36b0:(((rd_T88 x438002_1 (ji11)).f0) == 6) = false:=beq_eq_false_iff_ne.mpr c36;have c36b1:(((rd_T88 x438002_1 (ji11)).f0) != 6) = true:=bne_iff_ne.mpr c36;by_cases c62:(wrap64 (x2_1 + t447)) < 0
        ·rw [if_pos c62] at H;have c62b0:decide ((wrap64 (x2_1 + t447)) < 0) = true:=decide_eq_true c62;clear c62;simp only [Option.some.injEq,Prod.mk.injEq] at H;obtain ⟨rfl,rfl,rfl,rfl,rfl⟩:=H;have hnb63:=NB446_437.out;have hnc63:=NB437_446.out;have hnb64:=NB446_438.out;have hnc64:=NB438_446.out;obtain ⟨hcz65_0,hcz65_1,hfz65_0,hfz65_1⟩:=bt2 BK446;have hnb66:=NB438_437.out;have hnc66:=NB437_438.out;obtain ⟨hcz67_0,hcz67_1,hcz67_2,hfz67_0,hfz67_1,hfz67_2⟩:=bt3 BK438;go_wp2;refine bodyPost_ret (results_ct rfl _ _ gb438 127 #[.int .i64 3,.int .i64 x10_1,.int .i64 (wrap64 (x2_1 + t447))] (0,0) _ rfl (fp BK438 rfl) Try.underlying127 rfl (by kernel_rfl)) rfl ?_;exact ⟨_,by first | rfl | (simp [e0_,e1_] <;> rfl) | (simp only [← hji11];first | rfl | (simp [e0_,e1_] <;> rfl)) | (simp [*,e0_,e1_] <;> rfl),Kd.R_mv (Kd.R_mono (ok':=fun k_=>((P0_2_ k_∨w.heap.size ≤ k_))) (Kd.R_far (p:=⟨gb438,2,none⟩) (Kd.R_far (p:=⟨gb438,1,none⟩) (Kd.R_far (p:=⟨gb438,0,none⟩) (Kd.R_types HO_8.out BK438.out (by decide)) (fun _ hk=>hk.2) (.int .i64 3)) (fun _ hk=>hk.2) (.int .i64 x10_1)) (fun _ hk=>hk.2) (.int .i64 (wrap64 (x2_1 + t447)))) (fun _ hk=>hk.1)),(by first | exact (Kd.R_mv (Kd.R_mono (ok':=fun k_=>((P0_2_ k_∨w.heap.size ≤ k_))) (Kd.R_far (p:=⟨gb438,2,none⟩) (Kd.R_far (p:=⟨gb438,1,none⟩) (Kd.R_far (p:=⟨gb438,0,none⟩) (Kd.R_types HO_438002.out BK438.out (by decide)) (fun _ hk=>hk.2) (.int .i64 3)) (fun _ hk=>hk.2) (.int .i64 x10_1)) (fun _ hk=>hk.2) (.int .i64 (wrap64 (x2_1 + t447)))) (fun _ hk=>hk.1.1))) | (simp only [hl438002_1,hl438002_15];exact (Kd.R_mv (Kd.R_mono (ok':=fun k_=>((P0_2_ k_∨w.heap.size ≤ k_))) (Kd.R_far (p:=⟨gb438,2,none⟩) (Kd.R_far (p:=⟨gb438,1,none⟩) (Kd.R_far (p:=⟨gb438,0,none⟩) (Kd.R_types HO_438002.out BK438.out (by decide)) (fun _ hk=>hk.2) (.int .i64 3)) (fun _ hk=>hk.2) (.int .i64 x10_1)) (fun _ hk=>hk.2) (.int .i64 (wrap64 (x2_1 + t447)))) (fun _ hk=>hk.1.1))))),bm HB,km HK⟩
        ·rw [if_neg c62] at H;have c62b0:decide ((wrap64 (x2_1 + t447)) < 0) = false:=decide_eq_false c62;clear c62;by_cases c68:(wrap64 (x2_1 + t447)) ≥ a0_1
         ·rw [if_pos c68] at H;have c68b0:decide (a0_1 ≤ (wrap64 (x2_1 + t447))) = true:=decide_eq_true c68;clear c68;simp only [Option.some.injEq,Prod.mk.injEq] at H;obtain ⟨rfl,rfl,rfl,rfl,rfl⟩:=H;have hnb69:=NB446_437.out;have hnc69:=NB437_446.out;have hnb70:=NB446_438.out;have hnc70:=NB438_446.out;obtain ⟨hcz71_0,hcz71_1,hfz71_0,hfz71_1⟩:=bt2 BK446;have hnb72:=NB437_438.out;have hnc72:=NB438_437.out;obtain ⟨hcz73_0,hcz73_1,hcz73_2,hfz73_0,hfz73_1,hfz73_2⟩:=bt3 BK437;obtain ⟨hcz74_0,hcz74_1,hcz74_2,hfz74_0,hfz74_1,hfz74_2⟩:=bt3 BK438;go_wp2;refine bodyPost_ret (results_ct rfl _ _ gb438 127 #[.int .i64 3,.int .i64 x10_1,.int .i64 (wrap64 (x2_1 + t447))] (0,0) _ rfl (fp BK438 rfl) Try.underlying127 rfl (by kernel_rfl)) rfl ?_;exact ⟨_,by first | rfl | (simp [e0_,e1_] <;> rfl) | (simp only [← hji11];first | rfl | (simp [e0_,e1_] <;> rfl)) | (simp [*,e0_,e1_] <;> rfl),Kd.R_mv (Kd.R_mono (ok':=fun k_=>((P0_2_ k_∨w.heap.size ≤ k_))) (Kd.R_far (p:=⟨gb438,2,none⟩) (Kd.R_far (p:=⟨gb438,1,none⟩) (Kd.R_far (p:=⟨gb438,0,none⟩) (Kd.R_types HO_8.out BK438.out (by decide)) (fun _ hk=>hk.2) (.int .i64 3)) (fun _ hk=>hk.2) (.int .i64 x10_1)) (fun _ hk=>hk.2) (.int .i64 (wrap64 (x2_1 + t447)))) (fun _ hk=>hk.1)),(by first | exact (Kd.R_mv (Kd.R_mono (ok':=fun k_=>((P0_2_ k_∨w.heap.size ≤ k_))) (Kd.R_far (p:=⟨gb438,2,none⟩) (Kd.R_far (p:=⟨gb438,1,none⟩) (Kd.R_far (p:=⟨gb438,0,none⟩) (Kd.R_types HO_438002.out BK438.out (by decide)) (fun _ hk=>hk.2) (.int .i64 3)) (fun _ hk=>hk.2) (.int .i64 x10_1)) (fun _ hk=>hk.2) (.int .i64 (wrap64 (x2_1 + t447)))) (fun _ hk=>hk.1.1))) | (simp only [hl438002_1,hl438002_15];exact (Kd.R_mv (Kd.R_mono (ok':=fun k_=>((P0_2_ k_∨w.heap.size ≤ k_))) (Kd.R_far (p:=⟨gb438,2,none⟩) (Kd.R_far (p:=⟨gb438,1,none⟩) (Kd.R_far (p:=⟨gb438,0,none⟩) (Kd.R_types HO_438002.out BK438.out (by decide)) (fun _ hk=>hk.2) (.int .i64 3)) (fun _ hk=>hk.2) (.int .i64 x10_1)) (fun _ hk=>hk.2) (.int .i64 (wrap64 (x2_1 + t447)))) (fun _ hk=>hk.1.1))))),bm HB,km HK⟩
         ·rw [if_neg c68] at H;have c68b0:decide (a0_1 ≤ (wrap64 (x2_1 + t447))) = false:=decide_eq_false c68;clear c68;have H':=Aside0.mk H;clear H;have hnb75:=NB446_437.out;have hnc75:=NB437_446.out;have hnb76:=NB446_438.out;have hnc76:=NB438_446.out;obtain ⟨hcz77_0,hcz77_1,hfz77_0,hfz77_1⟩:=bt2 BK446;have hnb78:=NB437_438.out;have hnc78:=NB438_437.out;obtain ⟨hcz79_0,hcz79_1,hcz79_2,hfz79_0,hfz79_1,hfz79_2⟩:=bt3 BK437;go_wp2;(try simp only [← hl438002_1,← hl438002_15])
          go_roundg kj15
          case measure=>have:=HK1.out;have:=HJ15.out;omega
          case rel=>exact ⟨(wrap64 (x2_1 + t447)),(y442),(wrap64 (-t447)),(wrap64 (x10_1 + 1)),(x438002_15),(x439000_1),(x439001_1),(x439002_1),(by first | rfl | (simp;done) | (simp [*];done)),(by first | rfl | (simp;done) | (simp [*];done)),(by first | rfl | (simp;done) | (simp [*];done)),H',⟨by have:=HK1.out;have:=HJ15.out;omega⟩,⟨by (try simp only [hl438002_1]);(try simp only [hl438002_15]);exact Kd.R_mv HO_8.out⟩,⟨by (try simp only [hl438002_1]);(try simp only [hl438002_15]);exact Kd.R_mv (Kd.R_mono (ok':=fun k_=>((P0_2_ k_∨w.heap.size ≤ k_))) HO_438002.out (fun _ hk=>hk.1))⟩,⟨by (try simp only [hl438002_1]);(try simp only [hl438002_15]);exact km_ BK437⟩,⟨by (try simp only [hl438002_1]);(try simp only [hl438002_15]);exact km_ BK438⟩,⟨km HK⟩,⟨bm HB⟩⟩
    ·replace c15:=Bool.eq_false_iff.mpr c15;subst c15;have H1:(some (2,x10_1,x2_1,y442,x438002_1)) = some (r1,r2,r3,r4,r5):=by rw [if_neg (show ¬ (false = true) by decide)] at H;exact H
     clear H;have H:=H1;clear H1;simp only [Option.some.injEq,Prod.mk.injEq] at H;obtain ⟨rfl,rfl,rfl,rfl,rfl⟩:=H;have hnb80:=NB437_438.out;have hnc80:=NB438_437.out;obtain ⟨hcz81_0,hcz81_1,hcz81_2,hfz81_0,hfz81_1,hfz81_2⟩:=bt3 BK437;go_wp2_with (first | ((with_reducible refine gate_builtin (b:=.append) (xs:=#[.tmp 28,.tmp 30]) rfl ?_);at_builtin;refine Kd.R_append (Kd.int .i64) (w0:=w0) w0.heap.size rfl (.tmp 28) (.tmp 30) 23 3 (.int .i64 0) 8 rfl Try.underlying23 info3 rfl (by decide) (by omega) u8 x8_1 ji11 [.int .i64 ji11] (fun k_=>(P0_2_ k_∨w.heap.size ≤ k_)) (fun _=>False) rfl rfl ?aP (fun _ hk=>hk.elim) ?aF ?aO ?aB ?aS ?aL ?_;(case aP=>exact rfl);(case aB=>exact (bm HB));(case aF=>exact (fun k_ hk=>(.inr (Nat.le_trans (by first | exact HK.out.1 | exact (show Kept w _ (fun k_=>P0_2_ k_) from km HK).1) hk))));(case aO=>exact (Kd.R_mv HO_8.out));(case aS=>exact (below_size (bm HB)));(case aL=>have:=LMc10.out;omega);intro v443 w82 ho hb hg hat;rw [← Ny442.out] at ho;refine ev6 (Kd.R_over' (Kd.R_mv HO_438002.out) (Kd.R_typed (Kd.R_mv HO_8.out)) (by decide) hg) (blk_grown (km_ BK437) hg (Kd.R_ne HO_8.out BK437.out (by decide))) (blk_grown (km_ BK438) hg (Kd.R_ne HO_8.out BK438.out (by decide))) (hb) (Kept.of_grown (S:=(fun k_=>P0_2_ k_)) hg (km HK) (fun k_ e_=>(HO_8.out.1 k_ e_))) (ho) ?_;clear HO_438002 BK437 BK438 HB HK HO_8;intro HO_438002 BK437 BK438 HB HK HO444;clear ho hb hg hat;obtain ⟨hcz83_0,hcz83_1,hcz83_2,hfz83_0,hfz83_1,hfz83_2⟩:=bt3 BK437;have p445:0 ≤ ((ji11):Int):=of_decide_eq_true (by first | (with_reducible assumption) | assumption);have q445:(ji11) < (x438002_1.length:Int):=of_decide_eq_true (by first | (with_reducible assumption) | assumption);obtain ⟨ad445,e445,hx445_0,hx445_1⟩:=at_T88 (Kd.R_reads' HO_438002.out).2.2 (ji11) p445 q445;cases e445;replace p445:=eq_true p445;replace q445:=eq_true q445) | ((with_reducible refine gate_dst (N:=12) rfl ?_);refine box_event ?hg (N:=12) ?hd (cs:=#[.int .i64 0,.int .i64 0]) (t:=88) ?hr ?_;(case hd=>rfl);(case hg=>rfl);(case hr=>first | (go_simp;done) | (go_simp;rfl));intro gb446 hg w84 hbox hb;refine ev12 (Kd.R_below (Kd.R_elderB (Kd.R_mv HO_438002.out) gb446 (Nat.le_of_eq hg.symm)) hb) (Kd.R_below (Kd.R_mv HO444.out) hb) (kb BK437 hb) (kb BK438 hb) (Kept.below (S:=(fun k_=>P0_2_ k_)) (km HK) hb) (bs HB hb) (hbox) ((by rw [hg];exact (by first | exact HK.out.1 | exact (show Kept w _ (fun k_=>P0_2_ k_) from km HK).1):w.heap.size ≤ gb446)) (gle hg HB) (gnf hg BK437) (gne hg BK437) (gnf hg BK438) ?_;intro n0_ n1_ n2_ n3_ n4_ n5_ n6_ n7_ n8_ n9_ n10_ n11_;refine ev1 (gne hg BK438) ?_;intro n12_;clear HO_438002 HO444 BK437 BK438 HK HB;revert n0_ n1_ n2_ n3_ n4_ n5_ n6_ n7_ n8_ n9_ n10_ n11_ n12_;intro HO_438002 HO444 BK437 BK438 HK HB BK446 GW446 GE446 NB437_446 NB446_437 NB438_446 NB446_438;clear hb hbox hg;have hnb85:=NB446_437.out;have hnc85:=NB437_446.out;have hnb86:=NB446_438.out;have hnc86:=NB438_446.out;obtain ⟨hcz87_0,hcz87_1,hfz87_0,hfz87_1⟩:=bt2 BK446) | ((with_reducible refine gate_callee (f:=139) rfl ?_);refine goesL_ (some 40) rfl rfl Try.func139 (by kernel_rfl) rfl #[.agg #[.int .i64 ((rd_T88 x438002_1 (ji11)).f0),.int .i64 ((rd_T88 x438002_1 (ji11)).f1)],.int .i64 x9_1] rfl (by (try simp only [ma_,mb_,mc_]);first | done | (simp only [hji11];rfl) | rfl | (simp only [List.length_drop,List.length_take];rfl)) ?_;(with_reducible refine (impl_GoesTo.calls k1 ((rd_T88 x438002_1 (ji11)).f0) ((rd_T88 x438002_1 (ji11)).f1) x9_1 t447 false _ A14.out).mono ?_);rintro e w88 ⟨rfl,hb⟩;refine ⟨_,rfl,?_⟩;refine ev7 (Kd.R_below (Kd.R_mv (Kd.R_mono (Kd.R_far (p:=⟨gb446,1,none⟩) (Kd.R_far (p:=⟨gb446,0,none⟩) (Kd.R_mono HO_438002.out (fun k_ hk=>(⟨hk,hk.2⟩:_∧k_ ≠ gb446))) (fun _ hk=>hk.2) (.int .i64 ((rd_T88 x438002_1 (ji11)).f0))) (fun _ hk=>hk.2) (.int .i64 ((rd_T88 x438002_1 (ji11)).f1))) (fun _ h_=>h_.1))) hb) (Kd.R_below (Kd.R_ft HO444.out BK446.out (by decide)) hb) (blk_below (g:=gb437) (o:=.cells #[.int .i64 a0_0,.int .i64 a0_1,.slice (some ad445) x438002_1.length co4] 50 (0,0)) (fp BK437 rfl) hb) (blk_below (g:=gb438) (o:=.cells #[.int .i64 x439000_1,.int .i64 x439001_1,.int .i64 x439002_1] 127 (0,0)) (fp BK438 rfl) hb) (blk_below (g:=gb446) (o:=.cells #[.int .i64 ((rd_T88 x438002_1 (ji11)).f0),.int .i64 ((rd_T88 x438002_1 (ji11)).f1)] 88 (0,0)) (fp BK446 rfl) hb) (Kept.below (S:=(fun k_=>P0_2_ k_)) (km HK) hb) (bs HB hb) ?_;clear HO_438002 HO444 BK437 BK438 BK446 HK HB;intro HO_438002 HO444 BK437 BK438 BK446 HK HB;(try clear hb);obtain ⟨hcz89_0,hcz89_1,hcz89_2,hfz89_0,hfz89_1,hfz89_2⟩:=bt3 BK438))
     refine bodyPost_ret (results_ct rfl _ _ gb438 127 #[.int .i64 2,.int .i64 x10_1,.int .i64 x2_1] (0,0) _ rfl (fp BK438 rfl) Try.underlying127 rfl (by kernel_rfl)) rfl ?_;exact ⟨_,by first | rfl | (simp [e0_,e1_] <;> rfl) | (simp only [← hji11];first | rfl | (simp [e0_,e1_] <;> rfl)) | (simp [*,e0_,e1_] <;> rfl),Kd.R_mv (Kd.R_mono (ok':=fun k_=>((P0_2_ k_∨w.heap.size ≤ k_))) (Kd.R_far (p:=⟨gb438,2,none⟩) (Kd.R_far (p:=⟨gb438,1,none⟩) (Kd.R_far (p:=⟨gb438,0,none⟩) (Kd.R_types HO444.out BK438.out (by decide)) (fun _ hk=>hk.2) (.int .i64 2)) (fun _ hk=>hk.2) (.int .i64 x10_1)) (fun _ hk=>hk.2) (.int .i64 x2_1)) (fun _ hk=>hk.1)),(by first | exact (Kd.R_mv (Kd.R_mono (ok':=fun k_=>((P0_2_ k_∨w.heap.size ≤ k_))) (Kd.R_far (p:=⟨gb438,2,none⟩) (Kd.R_far (p:=⟨gb438,1,none⟩) (Kd.R_far (p:=⟨gb438,0,none⟩) (Kd.R_types HO_438002.out BK438.out (by decide)) (fun _ hk=>hk.2) (.int .i64 2)) (fun _ hk=>hk.2) (.int .i64 x10_1)) (fun _ hk=>hk.2) (.int .i64 x2_1)) (fun _ hk=>hk.1.1))) | (simp only [hl438002_1];exact (Kd.R_mv (Kd.R_mono (ok':=fun k_=>((P0_2_ k_∨w.heap.size ≤ k_))) (Kd.R_far (p:=⟨gb438,2,none⟩) (Kd.R_far (p:=⟨gb438,1,none⟩) (Kd.R_far (p:=⟨gb438,0,none⟩) (Kd.R_types HO_438002.out BK438.out (by decide)) (fun _ hk=>hk.2) (.int .i64 2)) (fun _ hk=>hk.2) (.int .i64 x10_1)) (fun _ hk=>hk.2) (.int .i64 x2_1)) (fun _ hk=>hk.1.1))))),bm HB,km HK⟩
   ·rw [if_neg c9] at H;have c9b0:decide (x10_1 < a0_0) = false:=decide_eq_false c9;clear c9;simp only [Option.some.injEq,Prod.mk.injEq] at H;obtain ⟨rfl,rfl,rfl,rfl,rfl⟩:=H;have hnb90:=NB437_438.out;have hnc90:=NB438_437.out;obtain ⟨hcz91_0,hcz91_1,hcz91_2,hfz91_0,hfz91_1,hfz91_2⟩:=bt3 BK437;obtain ⟨hcz92_0,hcz92_1,hcz92_2,hfz92_0,hfz92_1,hfz92_2⟩:=bt3 BK438;go_wp2;refine bodyPost_ret (results_ct rfl _ _ gb438 127 #[.int .i64 1,.int .i64 a0_0,.int .i64 x2_1] (0,0) _ rfl (fp BK438 rfl) Try.underlying127 rfl (by kernel_rfl)) rfl ?_;exact ⟨_,by first | rfl | (simp [e0_,e1_] <;> rfl) | (simp [*,e0_,e1_] <;> rfl),Kd.R_mv (Kd.R_mono (ok':=fun k_=>((P0_2_ k_∨w.heap.size ≤ k_))) (Kd.R_far (p:=⟨gb438,2,none⟩) (Kd.R_far (p:=⟨gb438,1,none⟩) (Kd.R_far (p:=⟨gb438,0,none⟩) (Kd.R_types HO_8.out BK438.out (by decide)) (fun _ hk=>hk.2) (.int .i64 1)) (fun _ hk=>hk.2) (.int .i64 a0_0)) (fun _ hk=>hk.2) (.int .i64 x2_1)) (fun _ hk=>hk.1)),(by first | exact (Kd.R_mv (Kd.R_mono (ok':=fun k_=>((P0_2_ k_∨w.heap.size ≤ k_))) (Kd.R_far (p:=⟨gb438,2,none⟩) (Kd.R_far (p:=⟨gb438,1,none⟩) (Kd.R_far (p:=⟨gb438,0,none⟩) (Kd.R_types HO_438002.out BK438.out (by decide)) (fun _ hk=>hk.2) (.int .i64 1)) (fun _ hk=>hk.2) (.int .i64 a0_0)) (fun _ hk=>hk.2) (.int .i64 x2_1)) (fun _ hk=>hk.1))) | (simp only [hl438002_1];exact (Kd.R_mv (Kd.R_mono (ok':=fun k_=>((P0_2_ k_∨w.heap.size ≤ k_))) (Kd.R_far (p:=⟨gb438,2,none⟩) (Kd.R_far (p:=⟨gb438,1,none⟩) (Kd.R_far (p:=⟨gb438,0,none⟩) (Kd.R_types HO_438002.out BK438.out (by decide)) (fun _ hk=>hk.2) (.int .i64 1)) (fun _ hk=>hk.2) (.int .i64 a0_0)) (fun _ hk=>hk.2) (.int .i64 x2_1)) (fun _ hk=>hk.1))))),bm HB,km HK⟩

/-! ### impl_hasEnds: function 108 -/
def impl_hasEnds.l0:Nat→List Int→List Int→Int→Int→Int→Int→List (S88)→List Int→List Int→Int→Int→List (S88)→Int→Int→List (S88)→Option (Bool)
  | 0,_,_,_,_,_,_,_,_,_,_,_,_,_,_,_=>none
  | k + 1,x6,x16,x17,x18,x452000,x452001,x452002,x452003,x452004,x453000,x453001,x453002,x459000,x459001,x459002=>if x18 < x17 then (if 0 ≤ x18 then (if x18 < (x16.length:Int) then ((impl_drop.f k x459000 x459001 x459002 x6 (rd x16 x18)).bind fun bt463=>((impl_endNumber.f x453000 x453001 x453002 bt463.1 bt463.2.1 bt463.2.2.1).bind fun t471=>(if x18 < (x452004.length:Int) then (if t471 = (rd x452004 x18) then (impl_hasEnds.l0 k x6 x16 x17 (wrap64 (x18 + 1)) x452000 x452001 x452002 x452003 x452004 x453000 x453001 x453002 x459000 x459001 bt463.2.2.2.2) else (some false)) else (none)))) else (none)) else (none)) else (some true)
def impl_hasEnds.f (k:Nat) (a0_0:Int) (a0_1:Int) (l0_2:List (S88)) (l0_3:List Int) (l0_4:List Int) (a1_0:Int) (a1_1:Int) (l1_2:List (S88)):Option (Bool):=(impl_copyBoard.f a1_0 a1_1 l1_2).bind fun bt453=>((impl_groupNumbers.f k a1_0 a1_1 l1_2).bind fun t459=>(impl_hasEnds.l0 k t459 l0_3 (l0_3.length:Int) 0 a0_0 a0_1 l0_2 l0_3 l0_4 a1_0 a1_1 l1_2 bt453.1 bt453.2.1 bt453.2.2))
theorem impl_hasEnds.calls (k:Nat) (a0_0:Int) (a0_1:Int) (A0_2:Option Addr) (c0_2:Nat) (l0_2:List (S88)) (A0_3:Option Addr) (c0_3:Nat) (l0_3:List Int) (A0_4:Option Addr) (c0_4:Nat) (l0_4:List Int) (a1_0:Int) (a1_1:Int) (A1_2:Option Addr) (c1_2:Nat) (l1_2:List (S88)) (r:Bool) (w:World) (hr0_2:Kd.C k88 w A0_2 l0_2.length l0_2) (hc0_2:l0_2.length ≤ c0_2) (hr0_3:Kd.C (Kd.int .i64) w A0_3 l0_3.length l0_3) (hc0_3:l0_3.length ≤ c0_3) (hr0_4:Kd.C (Kd.int .i64) w A0_4 l0_4.length l0_4) (hc0_4:l0_4.length ≤ c0_4) (hr1_2:Kd.C k88 w A1_2 l1_2.length l1_2) (hc1_2:l1_2.length ≤ c1_2) (h:impl_hasEnds.f k a0_0 a0_1 l0_2 l0_3 l0_4 a1_0 a1_1 l1_2 = some r) :
    Calls Try.prog 108 #[.agg #[.int .i64 a0_0,.int .i64 a0_1,.slice A0_2 l0_2.length c0_2,.slice A0_3 l0_3.length c0_3,.slice A0_4 l0_4.length c0_4],.agg #[.int .i64 a1_0,.int .i64 a1_1,.slice A1_2 l1_2.length c1_2]] w fun e w'=>e = .returned (.bool r)∧Below w.heap.size w w':=by
 have S:=St.init (w:=w) (dc k88_heap at88 hr0_2 hc0_2 (dc (Kd.heap_int .i64) (atI .i64) hr0_3 hc0_3 (dc (Kd.heap_int .i64) (atI .i64) hr0_4 hc0_4 (dc k88_heap at88 hr1_2 hc1_2 dn))))
 clear hr0_2 hc0_2 hr0_3 hc0_3 hr0_4 hc0_4 hr1_2 hc1_2
 have F:=S.fc
 have H:=h;clear h;unfold impl_hasEnds.f at H
 replace H:=Option.bind_eq_some_iff.mp H;obtain ⟨⟨t453,t454,t455⟩,A3,H⟩:=H;(try dsimp only at H)
 replace H:=Option.bind_eq_some_iff.mp H;obtain ⟨t459,A4,H⟩:=H;(try dsimp only at H)
 go_enter Try.func108,Try.ntmps108
 go_wp2_with (first | ((with_reducible refine gd 2 rfl (L ?_));refine bo 2 (.agg #[_,_,_,_,_]) S ?_;clear S F;intro gb451 W S;have F:=S.fc) | ((with_reducible refine gd 3 rfl (L ?_));refine bo 3 (.agg #[_,_,_]) S ?_;clear S F;intro gb452 W S;have F:=S.fc) | ((with_reducible refine gate_callee (f:=117) rfl (L ?_));refine cl (some 12) Try.func117 (impl_copyBoard.calls _ _ _ _ _ _ _ _ _ S.c S.n A3) (hargs:=by (simp only [ma_,mb_,mc_,F] <;> rfl)) (h:=?_);rintro e W ⟨v456,rfl,ho0,hb⟩;refine ⟨_,rfl,?_⟩;replace S:=S.got at88 hb ho0;obtain ⟨At455,ct455,rfl,S⟩:=S;clear F hb ho0;have F:=S.fc) | ((with_reducible refine gd 5 rfl (L ?_));refine al 5 S zi50 ?_;clear S F;intro gb458 W S;have F:=S.fc) | ((with_reducible refine gate_callee (f:=128) rfl (L ?_));refine cl (some 14) Try.func128 (impl_groupNumbers.calls _ _ _ _ _ _ _ _ S.c S.n A4) (hargs:=by (simp only [ma_,mb_,mc_,F] <;> rfl)) (h:=?_);rintro e W ⟨v460,rfl,ho0,hb⟩;refine ⟨_,rfl,?_⟩;replace S:=S.got (atI .i64) hb ho0;obtain ⟨At459,ct459,rfl,S⟩:=S;clear F hb ho0;have F:=S.fc) | ((with_reducible refine gs (t:=50) rfl (L ?_));(first | refine sb (.agg #[_,_,_]) S sz50 ?_ | refine ro (.agg #[_,_,_]) S sz50 ?_ (ho:=rfl) (hx:=rfl) (hy:=rfl));(clear S F;intro W S;have F:=S.fc)) | ((with_reducible refine gs (t:=127) rfl (L ?_));(first | refine sb (.agg #[_,_,_]) S sz127 ?_ | refine ro (.agg #[_,_,_]) S sz127 ?_ (ho:=rfl) (hx:=rfl) (hy:=rfl));(clear S F;intro W S;have F:=S.fc)))
 go_loopg [18] k (fun kq v18 w'=>∃ (x18_1:Int) (x459002_1:List (S88)) (Ax459002_1:Option Addr) (cx459002_1:Nat),v18 = .int .i64 x18_1∧impl_hasEnds.l0 kq t459 l0_3 (l0_3.length:Int) x18_1 a0_0 a0_1 l0_2 l0_3 l0_4 a1_0 a1_1 l1_2 t453 t454 x459002_1 = some r∧kq ≤ k∧St w w (fun _=>False) [bor at88 A0_2 c0_2 l0_2,bor (atI .i64) A0_3 c0_3 l0_3,bor (atI .i64) A0_4 c0_4 l0_4,bor at88 A1_2 c1_2 l1_2] w'  [row (atI .i64) 3 At459 t459.length ct459 t459,box gb458 50 [.int .i64 t453,.int .i64 t454,.slice Ax459002_1 x459002_1.length cx459002_1],row at88 88 Ax459002_1 x459002_1.length cx459002_1 x459002_1,box gb452 50 [.int .i64 a1_0,.int .i64 a1_1,.slice A1_2 l1_2.length c1_2],box gb451 31 [.int .i64 a0_0,.int .i64 a0_1,.slice A0_2 l0_2.length c0_2,.slice A0_3 l0_3.length c0_3,.slice A0_4 l0_4.length c0_4]])
 case atStart=>exact ⟨0,t455,_,_,(by first | rfl | (simp;done) | (simp [*];done) | (rw [w6_ (by omega) (by omega)])),H,Nat.le_refl _,S⟩
 case round =>
  clear H S F
  obtain ⟨x18_1,x459002_1,Ax459002_1,cx459002_1,rfl,HA,HK1,S⟩:=hrel
  have F:=S.fc
  cases gk with
  | zero=>exact absurd HA (by simp [impl_hasEnds.l0])
  | succ k1 =>
   have H:=HA;clear HA;simp only [impl_hasEnds.l0,F] at H
   replace H:=sp_ H;rcases H with ⟨c18,H⟩ | ⟨c18,H⟩
   · skip
     replace H:=np_ H;obtain ⟨c19,H⟩:=H
     replace H:=np_ H;obtain ⟨c20,H⟩:=H
     replace H:=Option.bind_eq_some_iff.mp H;obtain ⟨⟨t463,t464,t465,t466,t469⟩,A21,H⟩:=H;(try dsimp only at H)
     replace H:=Option.bind_eq_some_iff.mp H;obtain ⟨t471,A22,H⟩:=H;(try dsimp only at H)
     replace H:=np_ H;obtain ⟨c23,H⟩:=H
     replace H:=sp_ H;rcases H with ⟨c24,H⟩ | ⟨c24,H⟩
     · skip
       replace c24:=ceq c24
       go_wp2_with (first | ((with_reducible refine gate_callee (f:=129) rfl (L ?_));obtain ⟨ok_,k_⟩:=S.lend (A:=Ax459002_1);refine cl (some 27) Try.func129 (impl_drop.calls _ _ _ ok_ _ _ _ _ _ _ _ _ _ _ _ _ _ k_.below k_.own k_.c k_.n A21) (hargs:=by (simp only [ma_,mb_,mc_,F] <;> rfl)) (h:=?_);rintro e W ⟨v467,rfl,ho,hy,hb,hk⟩;refine ⟨_,rfl,?_⟩;clear S F;obtain ⟨At466,ct466,rfl,S⟩:=k_.back1 (atI .i64) ho hy hb hk (by decide);clear k_ ho hy hb hk;have F:=S.fc) | ((with_reducible refine gd 9 rfl (L ?_));refine al 9 S zi127 ?_;clear S F;intro gb470 W S;have F:=S.fc) | ((with_reducible refine gs (t:=50) rfl (L ?_));(first | refine sb (.agg #[_,_,_]) S sz50 ?_ | refine ro (.agg #[_,_,_]) S sz50 ?_ (ho:=rfl) (hx:=rfl) (hy:=rfl));(clear S F;intro W S;have F:=S.fc)) | ((with_reducible refine gs (t:=127) rfl (L ?_));(first | refine sb (.agg #[_,_,_]) S sz127 ?_ | refine ro (.agg #[_,_,_]) S sz127 ?_ (ho:=rfl) (hx:=rfl) (hy:=rfl));(clear S F;intro W S;have F:=S.fc)))
       refine rq S [(0,3),(0,5),(1,0),(1,1),(1,4),(0,6),(1,7),(2,2),(0,8)] [] (h:=?_);clear S F;intro W S;have S0:=S;have F:=S.fc
       repeat (first | (refine q0 (h:=?_)) | (refine q1 S0 (h:=?_)) | (refine q0n (h:=?_)) | (refine q1n S0 (h:=?_)))
       refine lk2 (by rfl) (by exact (Eq.refl true)) ?_;refine cl (some 32) Try.func121 (impl_endNumber.calls _ _ _ _ _ _ _ _ _ _ S.c S.n A22) (hargs:=by (simp only [ma_,mb_,mc_,F] <;> rfl)) (h:=?_);rintro e W ⟨rfl,hb⟩;refine ⟨_,rfl,?_⟩;replace S:=S.go hb;clear F hb;have F:=S.fc
       clear S0;have S0:=S;refine ⟨S0,?_⟩
       repeat (first | (refine q0 (h:=?_)) | (refine q1 S0 (h:=?_)) | (refine q0n (h:=?_)) | (refine q1n S0 (h:=?_)))
       refine oz ?_
       try clear S0
       go_wp2_with (first | ((with_reducible refine gs (t:=50) rfl (L ?_));(first | refine sb (.agg #[_,_,_]) S sz50 ?_ | refine ro (.agg #[_,_,_]) S sz50 ?_ (ho:=rfl) (hx:=rfl) (hy:=rfl));(clear S F;intro W S;have F:=S.fc)) | ((with_reducible refine gs (t:=127) rfl (L ?_));(first | refine sb (.agg #[_,_,_]) S sz127 ?_ | refine ro (.agg #[_,_,_]) S sz127 ?_ (ho:=rfl) (hx:=rfl) (hy:=rfl));(clear S F;intro W S;have F:=S.fc)))
       go_roundg k1
       case measure=>omega
       case rel=>(try rw [← (show t469.length = x459002_1.length by simp only [F])] at S);exact ⟨(wrap64 (x18_1 + 1)),t469,_,_,(by first | rfl | (simp;done) | (simp [*];done) | (rw [w6_ (by omega) (by omega)])),H,(by first | omega | exact Nat.le_refl _),(S.pm [2,3,4,5,6])⟩
     · skip
       replace c24:=cne c24
       obtain rfl:=Option.some.inj H
       go_wp2_with (first | ((with_reducible refine gate_callee (f:=129) rfl (L ?_));obtain ⟨ok_,k_⟩:=S.lend (A:=Ax459002_1);refine cl (some 27) Try.func129 (impl_drop.calls _ _ _ ok_ _ _ _ _ _ _ _ _ _ _ _ _ _ k_.below k_.own k_.c k_.n A21) (hargs:=by (simp only [ma_,mb_,mc_,F] <;> rfl)) (h:=?_);rintro e W ⟨v467,rfl,ho,hy,hb,hk⟩;refine ⟨_,rfl,?_⟩;clear S F;obtain ⟨At466,ct466,rfl,S⟩:=k_.back1 (atI .i64) ho hy hb hk (by decide);clear k_ ho hy hb hk;have F:=S.fc) | ((with_reducible refine gd 9 rfl (L ?_));refine al 9 S zi127 ?_;clear S F;intro gb470 W S;have F:=S.fc) | ((with_reducible refine gs (t:=50) rfl (L ?_));(first | refine sb (.agg #[_,_,_]) S sz50 ?_ | refine ro (.agg #[_,_,_]) S sz50 ?_ (ho:=rfl) (hx:=rfl) (hy:=rfl));(clear S F;intro W S;have F:=S.fc)) | ((with_reducible refine gs (t:=127) rfl (L ?_));(first | refine sb (.agg #[_,_,_]) S sz127 ?_ | refine ro (.agg #[_,_,_]) S sz127 ?_ (ho:=rfl) (hx:=rfl) (hy:=rfl));(clear S F;intro W S;have F:=S.fc)))
       refine rq S [(0,3),(0,5),(1,0),(1,1),(1,4),(0,6),(1,7),(2,2),(0,8)] [] (h:=?_);clear S F;intro W S;have S0:=S;have F:=S.fc
       repeat (first | (refine q0 (h:=?_)) | (refine q1 S0 (h:=?_)) | (refine q0n (h:=?_)) | (refine q1n S0 (h:=?_)))
       refine lk2 (by rfl) (by exact (Eq.refl true)) ?_;refine cl (some 32) Try.func121 (impl_endNumber.calls _ _ _ _ _ _ _ _ _ _ S.c S.n A22) (hargs:=by (simp only [ma_,mb_,mc_,F] <;> rfl)) (h:=?_);rintro e W ⟨rfl,hb⟩;refine ⟨_,rfl,?_⟩;replace S:=S.go hb;clear F hb;have F:=S.fc
       clear S0;have S0:=S;refine ⟨S0,?_⟩
       repeat (first | (refine q0 (h:=?_)) | (refine q1 S0 (h:=?_)) | (refine q0n (h:=?_)) | (refine q1n S0 (h:=?_)))
       refine oz ?_
       try clear S0
       go_wp2_with (first | ((with_reducible refine gs (t:=50) rfl (L ?_));(first | refine sb (.agg #[_,_,_]) S sz50 ?_ | refine ro (.agg #[_,_,_]) S sz50 ?_ (ho:=rfl) (hx:=rfl) (hy:=rfl));(clear S F;intro W S;have F:=S.fc)) | ((with_reducible refine gs (t:=127) rfl (L ?_));(first | refine sb (.agg #[_,_,_]) S sz127 ?_ | refine ro (.agg #[_,_,_]) S sz127 ?_ (ho:=rfl) (hx:=rfl) (hy:=rfl));(clear S F;intro W S;have F:=S.fc)))
       go_ret
       exact ⟨(by first | rfl | (simp [e0_,e1_] <;> rfl) | (simp [*,e0_,e1_] <;> rfl)),S.below⟩
   · skip
     obtain rfl:=Option.some.inj H
     go_wp2_with (first | ((with_reducible refine gs (t:=50) rfl (L ?_));(first | refine sb (.agg #[_,_,_]) S sz50 ?_ | refine ro (.agg #[_,_,_]) S sz50 ?_ (ho:=rfl) (hx:=rfl) (hy:=rfl));(clear S F;intro W S;have F:=S.fc)) | ((with_reducible refine gs (t:=127) rfl (L ?_));(first | refine sb (.agg #[_,_,_]) S sz127 ?_ | refine ro (.agg #[_,_,_]) S sz127 ?_ (ho:=rfl) (hx:=rfl) (hy:=rfl));(clear S F;intro W S;have F:=S.fc)))
     go_ret
     exact ⟨(by first | rfl | (simp [e0_,e1_] <;> rfl) | (simp [*,e0_,e1_] <;> rfl)),S.below⟩

/-! ### impl_solutionsOf_1: function 105 -/
/-- What a range over solutionsOf does, told as a fold: step is the body. -/
def solFold {σ:Type} (step:Nat→σ→Int→Int→List S88→Option (σ × Bool)) (r c:Int) (p:List S88) (e ns:List Int):Nat→Int→σ→Option (σ × Bool)
 | 0,_,_=>none
 | k + 1,n,s=>(impl_boardsTried.f k r c p e ns).bind fun t=>if n < t then (impl_boardOf.f k r c p e ns n).bind fun b=>(impl_hasEnds.f k r c p e ns b.1 b.2.1 b.2.2).bind fun y=>if y = true then (step k s b.1 b.2.1 b.2.2).bind fun q=>if q.2 = true then solFold step r c p e ns k (wrap64 (n + 1)) q.1 else some (q.1,false) else solFold step r c p e ns k (wrap64 (n + 1)) s else some (s,true)
/-- A board that a call of yield is handed. -/
def BdArg (args:Array Value) (W:World) (base:Nat) (r c:Int) (xs:List S88):Prop:=∃ A cap,args = #[.agg #[.int .i64 r,.int .i64 c,.slice A xs.length cap]]∧Kd.R k88 88 W base (fun _=>True) (.slice A xs.length cap) xs
theorem sols_folds {σ:Type} (step:Nat→σ→Int→Int→List S88→Option (σ × Bool)) (m k:Nat) (gc:Nat) (r c:Int) (A2:Option Addr) (c2:Nat) (p:List S88) (A3:Option Addr) (c3:Nat) (es:List Int) (A4:Option Addr) (c4:Nat) (ns:List Int) (s0:σ) (q:σ × Bool) (O:Nat→Prop) (base:Nat) (W:World) (hbase:base ≤ W.heap.size)
  (hq:∀ W',Kept W W' O→bxr gc 31 [.int .i64 r,.int .i64 c,.slice A2 p.length c2,.slice A3 es.length c3,.slice A4 ns.length c4] W'∧Kd.C k88 W' A2 p.length p∧Kd.C (Kd.int .i64) W' A3 es.length es∧Kd.C (Kd.int .i64) W' A4 ns.length ns)
  (h2:p.length ≤ c2) (h3:es.length ≤ c3) (h4:ns.length ≤ c4) (h:solFold step r c p es ns k 0 s0 = some q) :
  Folds Fence.wide m Try.prog 105 #[.pointer (some ⟨gc,0,none⟩)] (fun s args W1 s' go=>∃ kk r c xs,step kk s r c xs = some (s',go)∧BdArg args W1 base r c xs) (fun W W'=>Kept W W' O) s0 (fun s' go=>q = (s',go)) W:=by
 intro l J Jx hJ hJx hY h0
 refine callsIn_of_wp Try.func105 rfl trivial ?_ rfl
 simp only [Try.ntmps105,List.size_toArray,List.length_cons,List.length_nil,Nat.reduceAdd,Nat.reduceSub,Array.replicate_succ,Array.replicate_zero,List.push_toArray,List.append_toArray,List.nil_append,List.cons_append]
 refine wpIn_wide.2 ?_
 go_wp2
 go_loopg [3] k (fun kq v3 w'=>∃ (i:Int) (s:σ),v3 = .int .i64 i∧solFold step r c p es ns kq i s = some q∧Kept W w' O∧J s w')
 case atStart=>exact ⟨0,s0,rfl,h,Kept.refl _ _,h0⟩
 case round =>
  clear h h0
  obtain ⟨i,s,rfl,H,HK,HJ⟩:=hrel
  obtain ⟨hb,hp,he,hn⟩:=hq _ HK
  have S:=St.init (w:=wr) (db hb (dc k88_heap at88 hp h2 (dc (Kd.heap_int .i64) (atI .i64) he h3 (dc (Kd.heap_int .i64) (atI .i64) hn h4 dn))))
  clear hb hp he hn
  have F:=S.fc
  cases gk with
  | zero=>exact absurd H (by simp [solFold])
  | succ k1 =>
   simp only [solFold] at H
   replace H:=Option.bind_eq_some_iff.mp H;obtain ⟨t,A3_,H⟩:=H;(try dsimp only at H)
   replace H:=sp_ H;rcases H with ⟨ct,H⟩ | ⟨ct,H⟩
   · skip
     replace H:=Option.bind_eq_some_iff.mp H;obtain ⟨⟨b1,b2,b3⟩,A5,H⟩:=H;(try dsimp only at H)
     replace H:=Option.bind_eq_some_iff.mp H;obtain ⟨y,A6,H⟩:=H;(try dsimp only at H)
     replace H:=sp_ H;rcases H with ⟨cy,H⟩ | ⟨cy,H⟩
     · subst cy
       replace H:=Option.bind_eq_some_iff.mp H;obtain ⟨⟨s2,go⟩,A7,H⟩:=H;(try dsimp only at H)
       go_upto_region 4 with (first | ((with_reducible refine gate_callee (f:=106) rfl (L ?_));refine cl (some 7) Try.func106 (impl_boardsTried.calls _ _ _ _ _ _ _ _ _ _ _ _ _ _ S.c S.n S.c S.n S.c S.n A3_) (hargs:=by (simp only [ma_,mb_,mc_,F] <;> rfl)) (h:=?_);rintro e W ⟨rfl,hb⟩;refine ⟨_,rfl,?_⟩;replace S:=S.go hb;clear F hb;have F:=S.fc) | ((with_reducible refine gate_callee (f:=107) rfl (L ?_));refine cl (some 13) Try.func107 (impl_boardOf.calls _ _ _ _ _ _ _ _ _ _ _ _ _ _ _ _ _ S.c S.n S.c S.n S.c S.n A5) (hargs:=by (simp only [ma_,mb_,mc_,F] <;> rfl)) (h:=?_);rintro e W ⟨v432,rfl,ho0,hb⟩;refine ⟨_,rfl,?_⟩;replace S:=S.got at88 hb ho0;obtain ⟨Ab,cb,rfl,S⟩:=S;clear F hb ho0;have F:=S.fc) | ((with_reducible refine gd 4 rfl (L ?_));refine al 4 S zi50 ?_;clear S F;intro gb W S;have F:=S.fc) | ((with_reducible refine gs (t:=50) rfl (L ?_));(first | refine sb (.agg #[_,_,_]) S sz50 ?_ | refine ro (.agg #[_,_,_]) S sz50 ?_ (ho:=rfl) (hx:=rfl) (hy:=rfl));(clear S F;intro W S;have F:=S.fc)))
       refine (wpIn_wide (n:=m)).1 ?_
       gi_wp2_with (refine ⟨trivial,fun h_=>(by cases h_),?_⟩;gi_at_call 108;refine (callsIn_wide.2 (impl_hasEnds.calls _ _ _ _ _ _ _ _ _ _ _ _ _ _ _ _ _ _ _ S.c S.n S.c S.n S.c S.n S.c S.n A6)).mono ?_;rintro e W2 ⟨rfl,hb⟩;replace S:=S.go hb;clear F hb;have F:=S.fc;obtain ⟨fn,tmps,assign,body,hy,hR⟩:=hY s _ W2 s2 go (hJ _ _ _ HJ S.below) ⟨k1,b1,b2,b3,A7,_,_,rfl,Kd.R_lower (Kd.R_mono (S.rk 1 rfl) (fun _ _=>trivial)) (Nat.le_trans hbase HK.1)⟩)
       refine ⟨fun h_=>(by cases h_),?_⟩
       refine hR.mono ?_
       rintro e W3 ⟨rfl,⟨rfl,HJ3,HK3⟩ | ⟨rfl,HX⟩⟩
       · gi_wp2
         go_wp2
         go_roundg k1
         case measure=>omega
         case rel=>exact ⟨_,s2,(by first | rfl | (simp;done) | (simp [*];done) | (rw [w6_ (by omega) (by omega)])),H,kept_trans (Kept.below HK S.below) HK3,HJ3⟩
       · obtain rfl:=Option.some.inj H
         gi_wp2
         go_wp2
         refine bodyPost_ret (results_none rfl _ _ _) rfl ?_
         exact ⟨⟨_,rfl⟩,by first | exact HX | exact Or.inr ⟨_,rfl,HX⟩⟩
     · replace cy:=cbf cy;subst cy
       go_upto_region 4 with (first | ((with_reducible refine gate_callee (f:=106) rfl (L ?_));refine cl (some 7) Try.func106 (impl_boardsTried.calls _ _ _ _ _ _ _ _ _ _ _ _ _ _ S.c S.n S.c S.n S.c S.n A3_) (hargs:=by (simp only [ma_,mb_,mc_,F] <;> rfl)) (h:=?_);rintro e W ⟨rfl,hb⟩;refine ⟨_,rfl,?_⟩;replace S:=S.go hb;clear F hb;have F:=S.fc) | ((with_reducible refine gate_callee (f:=107) rfl (L ?_));refine cl (some 13) Try.func107 (impl_boardOf.calls _ _ _ _ _ _ _ _ _ _ _ _ _ _ _ _ _ S.c S.n S.c S.n S.c S.n A5) (hargs:=by (simp only [ma_,mb_,mc_,F] <;> rfl)) (h:=?_);rintro e W ⟨v432,rfl,ho0,hb⟩;refine ⟨_,rfl,?_⟩;replace S:=S.got at88 hb ho0;obtain ⟨Ab,cb,rfl,S⟩:=S;clear F hb ho0;have F:=S.fc) | ((with_reducible refine gd 4 rfl (L ?_));refine al 4 S zi50 ?_;clear S F;intro gb W S;have F:=S.fc) | ((with_reducible refine gs (t:=50) rfl (L ?_));(first | refine sb (.agg #[_,_,_]) S sz50 ?_ | refine ro (.agg #[_,_,_]) S sz50 ?_ (ho:=rfl) (hx:=rfl) (hy:=rfl));(clear S F;intro W S;have F:=S.fc)))
       refine (wpIn_wide (n:=m)).1 ?_
       gi_wp2_with (refine ⟨trivial,fun h_=>(by cases h_),?_⟩;gi_at_call 108;refine (callsIn_wide.2 (impl_hasEnds.calls _ _ _ _ _ _ _ _ _ _ _ _ _ _ _ _ _ _ _ S.c S.n S.c S.n S.c S.n S.c S.n A6)).mono ?_;rintro e W2 ⟨rfl,hb⟩;replace S:=S.go hb;clear F hb;have F:=S.fc)
       refine ⟨fun _ h_=>(by cases h_),?_⟩
       gi_wp2
       go_wp2
       go_roundg k1
       case measure=>omega
       case rel=>exact ⟨_,s,(by first | rfl | (simp;done) | (simp [*];done) | (rw [w6_ (by omega) (by omega)])),H,Kept.below HK S.below,hJ _ _ _ HJ S.below⟩
   · skip
     obtain rfl:=Option.some.inj H
     go_wp2_with (first | ((with_reducible refine gate_callee (f:=106) rfl (L ?_));refine cl (some 7) Try.func106 (impl_boardsTried.calls _ _ _ _ _ _ _ _ _ _ _ _ _ _ S.c S.n S.c S.n S.c S.n A3_) (hargs:=by (simp only [ma_,mb_,mc_,F] <;> rfl)) (h:=?_);rintro e W ⟨rfl,hb⟩;refine ⟨_,rfl,?_⟩;replace S:=S.go hb;clear F hb;have F:=S.fc))
     go_end0
     exact ⟨⟨_,rfl⟩,by first | exact hJ _ _ _ HJ S.below | exact Or.inl ⟨_,rfl,hJ _ _ _ HJ S.below⟩⟩

/-! ### impl_solutionsOf: function 72 -/
theorem impl_solutionsOf.calls (a0_0:Int) (a0_1:Int) (A0_2:Option Addr) (c0_2:Nat) (l0_2:List (S88)) (A0_3:Option Addr) (c0_3:Nat) (l0_3:List Int) (A0_4:Option Addr) (c0_4:Nat) (l0_4:List Int) (w:World) :
  Calls Try.prog 72 #[.agg #[.int .i64 a0_0,.int .i64 a0_1,.slice A0_2 l0_2.length c0_2,.slice A0_3 l0_3.length c0_3,.slice A0_4 l0_4.length c0_4]] w fun e w'=>∃ g,e = .returned (.func (.func 105) #[] #[.pointer (some ⟨g,0,none⟩)])∧bxr g 31 [.int .i64 a0_0,.int .i64 a0_1,.slice A0_2 l0_2.length c0_2,.slice A0_3 l0_3.length c0_3,.slice A0_4 l0_4.length c0_4] w'∧w.heap.size ≤ g∧Below w.heap.size w w':=by
 have S:=St.init (w:=w) dn
 go_enter Try.func72,Try.ntmps72
 go_wp2_with ((with_reducible refine gd 1 rfl (L ?_));refine bo 1 (.agg #[_,_,_,_,_]) S ?_;clear S;intro g W S)
 go_ret
 exact ⟨g,rfl,(bx_of S).1,(bx_of S).2,S.below⟩

/-! ### laws_eqIntS: function 21 -/
def laws_eqIntS.l0:Nat→List Int→List Int→Int→Option (Bool)
 | 0,_,_,_=>none
 | k + 1,x0,x1,x5=>if x5 < (x0.length:Int) then (if 0 ≤ x5 then (if x5 < (x1.length:Int) then (if (rd x0 x5) = (rd x1 x5) then (laws_eqIntS.l0 k x0 x1 (wrap64 (x5 + 1))) else (some false)) else (none)) else (none)) else (some true)
def laws_eqIntS.f (k:Nat) (l0:List Int) (l1:List Int):Option (Bool):=if (l0.length:Int) = (l1.length:Int) then (laws_eqIntS.l0 k l0 l1 0) else (some false)
theorem laws_eqIntS.calls (k:Nat) (A0:Option Addr) (c0:Nat) (l0:List Int) (A1:Option Addr) (c1:Nat) (l1:List Int) (r:Bool) (w:World) (hr0:Kd.C (Kd.int .i64) w A0 l0.length l0) (hc0:l0.length ≤ c0) (hr1:Kd.C (Kd.int .i64) w A1 l1.length l1) (hc1:l1.length ≤ c1) (h:laws_eqIntS.f k l0 l1 = some r) :
  Calls Try.prog 21 #[.slice A0 l0.length c0,.slice A1 l1.length c1] w fun e w'=>e = .returned (.bool r)∧Drawn0 w w':=by
 have HR0:=Aside0.mk hr0;have HC0:=Aside0.mk hc0;clear hr0 hc0;have HR1:=Aside0.mk hr1;have HC1:=Aside0.mk hc1;clear hr1 hc1;have H:(if (l0.length:Int) = (l1.length:Int) then (laws_eqIntS.l0 k l0 l1 0) else (some false)) = some r:=h;clear h;by_cases c3:(l0.length:Int) = (l1.length:Int)
 ·rw [if_pos c3] at H;have c3b0:((l0.length:Int) == (l1.length:Int)) = true:=beq_iff_eq.mpr c3;have c3b1:((l0.length:Int) != (l1.length:Int)) = false:=bne_eq_false_iff_eq.mpr c3;have c3b2:(l0.length == l1.length) = true:=by first | simpa using c3 | (simp at c3 ⊢;omega)
  clear c3;have H':=Aside0.mk H;clear H;go_enter Try.func21,Try.ntmps21;go_wp2;repeat (go_quiet (fail);try go_wp2)
  go_loopg [5] k (fun kq v5 w'=>∃ (x5_1:Int),v5 = .int .i64 x5_1∧Aside0 (laws_eqIntS.l0 kq l0 l1 x5_1 = some r)∧Aside0 (kq ≤ k)∧Drawn0 w w')
  case atStart=>exact ⟨(0),(by first | rfl | (simp;done) | (simp [*];done)),H',⟨Nat.le_refl _⟩,by repeat (first | exact Drawn0.refl _ | apply Drawn0.step)⟩
  case round =>
   clear H';(try clear c1);(try clear c2);(try clear p2);(try clear c3);(try clear c3b0);(try clear c3b1);(try clear c3b2);obtain ⟨x5_1,rfl,HA,HK1,⟨m1,rfl⟩⟩:=hrel;cases gk with
   | zero=>exact absurd HA.out (by simp [laws_eqIntS.l0])
   | succ k1 =>
    have H:=HA.out;clear HA;simp only [laws_eqIntS.l0] at H;by_cases c4:x5_1 < (l0.length:Int)
    ·rw [if_pos c4] at H;have c4b0:decide (x5_1 < (l0.length:Int)) = true:=decide_eq_true c4;clear c4;replace H:=np_ H;obtain ⟨c5,H⟩:=H;have c5b0:decide (0 ≤ x5_1) = true:=decide_eq_true c5;clear c5;replace H:=np_ H;obtain ⟨c6,H⟩:=H;have c6b0:decide (x5_1 < (l1.length:Int)) = true:=decide_eq_true c6;clear c6;by_cases c7:(rd l0 x5_1) = (rd l1 x5_1)
     ·rw [if_pos c7] at H;have c7b0:((rd l0 x5_1) == (rd l1 x5_1)) = true:=beq_iff_eq.mpr c7;have c7b1:((rd l0 x5_1) != (rd l1 x5_1)) = false:=bne_eq_false_iff_eq.mpr c7;clear c7;have H':=Aside0.mk H;clear H;have p496:0 ≤ (x5_1:Int):=of_decide_eq_true (by first | (with_reducible assumption) | assumption);have q496:x5_1 < (l0.length:Int):=of_decide_eq_true (by first | (with_reducible assumption) | assumption);obtain ⟨ad496,e496,hx496_0⟩:=Kd.at_int HR0.out x5_1 p496 q496;cases e496;replace p496:=eq_true p496;replace q496:=eq_true q496;have p497:0 ≤ (x5_1:Int):=of_decide_eq_true (by first | (with_reducible assumption) | assumption);have q497:x5_1 < (l1.length:Int):=of_decide_eq_true (by first | (with_reducible assumption) | assumption);obtain ⟨ad497,e497,hx497_0⟩:=Kd.at_int HR1.out x5_1 p497 q497;cases e497;replace p497:=eq_true p497;replace q497:=eq_true q497;go_wp2;repeat (go_quiet (fail);try go_wp2)
      go_roundg k1
      case measure=>have:=HK1.out;omega
      case rel=>exact ⟨(wrap64 (x5_1 + 1)),(by first | rfl | (simp;done) | (simp [*];done)),H',⟨by have:=HK1.out;omega⟩,by repeat (first | exact Drawn0.refl _ | apply Drawn0.step)⟩
     ·rw [if_neg c7] at H;have c7b0:((rd l0 x5_1) == (rd l1 x5_1)) = false:=beq_eq_false_iff_ne.mpr c7;have c7b1:((rd l0 x5_1) != (rd l1 x5_1)) = true:=bne_iff_ne.mpr c7;obtain rfl:=Option.some.inj H;have p496:0 ≤ (x5_1:Int):=of_decide_eq_true (by first | (with_reducible assumption) | assumption);have q496:x5_1 < (l0.length:Int):=of_decide_eq_true (by first | (with_reducible assumption) | assumption);obtain ⟨ad496,e496,hx496_0⟩:=Kd.at_int HR0.out x5_1 p496 q496;cases e496;replace p496:=eq_true p496;replace q496:=eq_true q496;have p497:0 ≤ (x5_1:Int):=of_decide_eq_true (by first | (with_reducible assumption) | assumption);have q497:x5_1 < (l1.length:Int):=of_decide_eq_true (by first | (with_reducible assumption) | assumption);obtain ⟨ad497,e497,hx497_0⟩:=Kd.at_int HR1.out x5_1 p497 q497;cases e497;replace p497:=eq_true p497;replace q497:=eq_true q497;go_wp2;repeat (go_quiet (fail);try go_wp2)
      go_ret;exact ⟨by first | rfl | (simp;done) | (simp [*];done),by repeat (first | exact Drawn0.refl _ | apply Drawn0.step)⟩
    ·rw [if_neg c4] at H;have c4b0:decide (x5_1 < (l0.length:Int)) = false:=decide_eq_false c4;clear c4;obtain rfl:=Option.some.inj H;go_wp2;repeat (go_quiet (fail);try go_wp2)
     go_ret;exact ⟨by first | rfl | (simp;done) | (simp [*];done),by repeat (first | exact Drawn0.refl _ | apply Drawn0.step)⟩
 ·rw [if_neg c3] at H;have c3b0:((l0.length:Int) == (l1.length:Int)) = false:=beq_eq_false_iff_ne.mpr c3;have c3b1:((l0.length:Int) != (l1.length:Int)) = true:=bne_iff_ne.mpr c3;have c3b2:(l0.length == l1.length) = false:=by first | simpa using c3 | (simp at c3 ⊢;omega)
  obtain rfl:=Option.some.inj H;go_enter Try.func21,Try.ntmps21;go_wp2;repeat (go_quiet (fail);try go_wp2)
  go_ret;exact ⟨by first | rfl | (simp;done) | (simp [*];done),by repeat (first | exact Drawn0.refl _ | apply Drawn0.step)⟩

/-! ### laws_eqCell: function 100 -/
def laws_eqCell.f (a0_0:Int) (a0_1:Int) (a1_0:Int) (a1_1:Int):Option (Bool):=if a0_0 = a1_0 then (if a0_1 = a1_1 then (some true) else (some false)) else (some false)
theorem laws_eqCell.calls (a0_0:Int) (a0_1:Int) (a1_0:Int) (a1_1:Int) (r:Bool) (w:World) (h:laws_eqCell.f a0_0 a0_1 a1_0 a1_1 = some r) :
    Calls Try.prog 100 #[.agg #[.int .i64 a0_0,.int .i64 a0_1],.agg #[.int .i64 a1_0,.int .i64 a1_1]] w fun e w'=>e = .returned (.bool r)∧Below w.heap.size w w':=by
 have S:=St.init (w:=w) dn
 have F:=S.fc
 have H:=h;clear h;unfold laws_eqCell.f at H
 replace H:=sp_ H;rcases H with ⟨c3,H⟩ | ⟨c3,H⟩
 · skip
   replace c3:=ceq c3
   replace H:=sp_ H;rcases H with ⟨c4,H⟩ | ⟨c4,H⟩
   · skip
     replace c4:=ceq c4
     obtain rfl:=Option.some.inj H
     go_enter Try.func100,Try.ntmps100
     go_wp2_with (first | ((with_reducible refine gd 2 rfl (L ?_));refine bo 2 (.agg #[_,_]) S ?_;clear S F;intro gb498 W S;have F:=S.fc) | ((with_reducible refine gd 3 rfl (L ?_));refine bo 3 (.agg #[_,_]) S ?_;clear S F;intro gb499 W S;have F:=S.fc))
     go_ret
     exact ⟨(by first | rfl | (simp [e0_,e1_] <;> rfl) | (simp [*,e0_,e1_] <;> rfl)),S.below⟩
   · skip
     replace c4:=cne c4
     obtain rfl:=Option.some.inj H
     go_enter Try.func100,Try.ntmps100
     go_wp2_with (first | ((with_reducible refine gd 2 rfl (L ?_));refine bo 2 (.agg #[_,_]) S ?_;clear S F;intro gb498 W S;have F:=S.fc) | ((with_reducible refine gd 3 rfl (L ?_));refine bo 3 (.agg #[_,_]) S ?_;clear S F;intro gb499 W S;have F:=S.fc))
     go_ret
     exact ⟨(by first | rfl | (simp [e0_,e1_] <;> rfl) | (simp [*,e0_,e1_] <;> rfl)),S.below⟩
 · skip
   replace c3:=cne c3
   obtain rfl:=Option.some.inj H
   go_enter Try.func100,Try.ntmps100
   go_wp2_with (first | ((with_reducible refine gd 2 rfl (L ?_));refine bo 2 (.agg #[_,_]) S ?_;clear S F;intro gb498 W S;have F:=S.fc) | ((with_reducible refine gd 3 rfl (L ?_));refine bo 3 (.agg #[_,_]) S ?_;clear S F;intro gb499 W S;have F:=S.fc))
   go_ret
   exact ⟨(by first | rfl | (simp [e0_,e1_] <;> rfl) | (simp [*,e0_,e1_] <;> rfl)),S.below⟩

/-! ### laws_eqCellS: function 66 -/
def laws_eqCellS.l0:Nat→List (S88)→List (S88)→Int→Option (Bool)
  | 0,_,_,_=>none
  | k + 1,x0,x1,x5=>if x5 < (x0.length:Int) then (if 0 ≤ x5 then (if x5 < (x1.length:Int) then ((laws_eqCell.f ((rd_T88 x0 x5).f0) ((rd_T88 x0 x5).f1) ((rd_T88 x1 x5).f0) ((rd_T88 x1 x5).f1)).bind fun t502=>(if t502 = true then (laws_eqCellS.l0 k x0 x1 (wrap64 (x5 + 1))) else (some false))) else (none)) else (none)) else (some true)
def laws_eqCellS.f (k:Nat) (l0:List (S88)) (l1:List (S88)):Option (Bool):=if (l0.length:Int) = (l1.length:Int) then (laws_eqCellS.l0 k l0 l1 0) else (some false)
theorem laws_eqCellS.calls (k:Nat) (A0:Option Addr) (c0:Nat) (l0:List (S88)) (A1:Option Addr) (c1:Nat) (l1:List (S88)) (r:Bool) (w:World) (hr0:Kd.C k88 w A0 l0.length l0) (hc0:l0.length ≤ c0) (hr1:Kd.C k88 w A1 l1.length l1) (hc1:l1.length ≤ c1) (h:laws_eqCellS.f k l0 l1 = some r) :
    Calls Try.prog 66 #[.slice A0 l0.length c0,.slice A1 l1.length c1] w fun e w'=>e = .returned (.bool r)∧Below w.heap.size w w':=by
 have S:=St.init (w:=w) (dc k88_heap at88 hr0 hc0 (dc k88_heap at88 hr1 hc1 dn))
 clear hr0 hc0 hr1 hc1
 have F:=S.fc
 have H:=h;clear h;unfold laws_eqCellS.f at H
 replace H:=sp_ H;rcases H with ⟨c3,H⟩ | ⟨c3,H⟩
 · skip
   replace c3:=ceq c3
   go_enter Try.func66,Try.ntmps66
   go_wp2
   go_loopg [5] k (fun kq v5 w'=>∃ (x5_1:Int),v5 = .int .i64 x5_1∧laws_eqCellS.l0 kq l0 l1 x5_1 = some r∧kq ≤ k∧St w w (fun _=>False) [bor at88 A0 c0 l0,bor at88 A1 c1 l1] w'  [])
   case atStart=>exact ⟨0,(by first | rfl | (simp;done) | (simp [*];done) | (rw [w6_ (by omega) (by omega)])),H,Nat.le_refl _,S⟩
   case round =>
    clear H S F
    obtain ⟨x5_1,rfl,HA,HK1,S⟩:=hrel
    have F:=S.fc
    cases gk with
    | zero=>exact absurd HA (by simp [laws_eqCellS.l0])
    | succ k1 =>
     have H:=HA;clear HA;simp only [laws_eqCellS.l0,F] at H
     replace H:=sp_ H;rcases H with ⟨c4,H⟩ | ⟨c4,H⟩
     · skip
       replace H:=np_ H;obtain ⟨c5,H⟩:=H
       replace H:=np_ H;obtain ⟨c6,H⟩:=H
       replace H:=Option.bind_eq_some_iff.mp H;obtain ⟨t502,A7,H⟩:=H;(try dsimp only at H)
       replace H:=sp_ H;rcases H with ⟨c8,H⟩ | ⟨c8,H⟩
       · skip
         subst c8
         try go_wp2
         refine rq S [(0,0),(0,1),(0,2),(0,4),(0,5),(0,6),(1,3),(1,7),(2,8),(0,9)] [] (h:=?_);clear S F;intro W S;have S0:=S;have F:=S.fc
         repeat (first | (refine q0 (h:=?_)) | (refine q1 S0 (h:=?_)) | (refine q0n (h:=?_)) | (refine q1n S0 (h:=?_)))
         refine lk2 (by rfl) (by exact (Eq.refl true)) ?_;refine cl (some 25) Try.func100 (laws_eqCell.calls _ _ _ _ _ _ A7) (hargs:=by (simp only [ma_,mb_,mc_,F] <;> rfl)) (h:=?_);rintro e W ⟨rfl,hb⟩;refine ⟨_,rfl,?_⟩;replace S:=S.go hb;clear F hb;have F:=S.fc
         clear S0;have S0:=S;refine ⟨S0,?_⟩
         repeat (first | (refine q0 (h:=?_)) | (refine q1 S0 (h:=?_)) | (refine q0n (h:=?_)) | (refine q1n S0 (h:=?_)))
         refine oz ?_
         try clear S0
         try go_wp2
         go_roundg k1
         case measure=>omega
         case rel=>exact ⟨(wrap64 (x5_1 + 1)),(by first | rfl | (simp;done) | (simp [*];done) | (rw [w6_ (by omega) (by omega)])),H,(by first | omega | exact Nat.le_refl _),S⟩
       · skip
         replace c8:=cbf c8;subst c8
         obtain rfl:=Option.some.inj H
         try go_wp2
         refine rq S [(0,0),(0,1),(0,2),(0,4),(0,5),(0,6),(1,3),(1,7),(2,8),(0,9)] [] (h:=?_);clear S F;intro W S;have S0:=S;have F:=S.fc
         repeat (first | (refine q0 (h:=?_)) | (refine q1 S0 (h:=?_)) | (refine q0n (h:=?_)) | (refine q1n S0 (h:=?_)))
         refine lk2 (by rfl) (by exact (Eq.refl true)) ?_;refine cl (some 25) Try.func100 (laws_eqCell.calls _ _ _ _ _ _ A7) (hargs:=by (simp only [ma_,mb_,mc_,F] <;> rfl)) (h:=?_);rintro e W ⟨rfl,hb⟩;refine ⟨_,rfl,?_⟩;replace S:=S.go hb;clear F hb;have F:=S.fc
         clear S0;have S0:=S;refine ⟨S0,?_⟩
         repeat (first | (refine q0 (h:=?_)) | (refine q1 S0 (h:=?_)) | (refine q0n (h:=?_)) | (refine q1n S0 (h:=?_)))
         refine oz ?_
         try clear S0
         try go_wp2
         go_ret
         exact ⟨(by first | rfl | (simp [e0_,e1_] <;> rfl) | (simp [*,e0_,e1_] <;> rfl)),S.below⟩
     · skip
       obtain rfl:=Option.some.inj H
       go_wp2
       go_ret
       exact ⟨(by first | rfl | (simp [e0_,e1_] <;> rfl) | (simp [*,e0_,e1_] <;> rfl)),S.below⟩
 · skip
   replace c3:=cne c3
   obtain rfl:=Option.some.inj H
   go_enter Try.func66,Try.ntmps66
   go_wp2
   go_ret
   exact ⟨(by first | rfl | (simp [e0_,e1_] <;> rfl) | (simp [*,e0_,e1_] <;> rfl)),S.below⟩

/-! ### laws_eqChallenge: function 18 -/
def laws_eqChallenge.f (k:Nat) (a0_0:Int) (a0_1:Int) (l0_2:List (S88)) (l0_3:List Int) (l0_4:List Int) (a1_0:Int) (a1_1:Int) (l1_2:List (S88)) (l1_3:List Int) (l1_4:List Int):Option (Bool):=if a0_0 = a1_0 then (if a0_1 = a1_1 then ((laws_eqCellS.f k l0_2 l1_2).bind fun t505=>(if t505 = true then ((laws_eqIntS.f k l0_3 l1_3).bind fun t506=>(if t506 = true then ((laws_eqIntS.f k l0_4 l1_4).bind fun t507=>(if t507 = true then (some true) else (some false))) else (some false))) else (some false))) else (some false)) else (some false)
theorem laws_eqChallenge.calls (k:Nat) (a0_0:Int) (a0_1:Int) (A0_2:Option Addr) (c0_2:Nat) (l0_2:List (S88)) (A0_3:Option Addr) (c0_3:Nat) (l0_3:List Int) (A0_4:Option Addr) (c0_4:Nat) (l0_4:List Int) (a1_0:Int) (a1_1:Int) (A1_2:Option Addr) (c1_2:Nat) (l1_2:List (S88)) (A1_3:Option Addr) (c1_3:Nat) (l1_3:List Int) (A1_4:Option Addr) (c1_4:Nat) (l1_4:List Int) (r:Bool) (w:World) (hr0_2:Kd.C k88 w A0_2 l0_2.length l0_2) (hc0_2:l0_2.length ≤ c0_2) (hr0_3:Kd.C (Kd.int .i64) w A0_3 l0_3.length l0_3) (hc0_3:l0_3.length ≤ c0_3) (hr0_4:Kd.C (Kd.int .i64) w A0_4 l0_4.length l0_4) (hc0_4:l0_4.length ≤ c0_4) (hr1_2:Kd.C k88 w A1_2 l1_2.length l1_2) (hc1_2:l1_2.length ≤ c1_2) (hr1_3:Kd.C (Kd.int .i64) w A1_3 l1_3.length l1_3) (hc1_3:l1_3.length ≤ c1_3) (hr1_4:Kd.C (Kd.int .i64) w A1_4 l1_4.length l1_4) (hc1_4:l1_4.length ≤ c1_4) (h:laws_eqChallenge.f k a0_0 a0_1 l0_2 l0_3 l0_4 a1_0 a1_1 l1_2 l1_3 l1_4 = some r) :
    Calls Try.prog 18 #[.agg #[.int .i64 a0_0,.int .i64 a0_1,.slice A0_2 l0_2.length c0_2,.slice A0_3 l0_3.length c0_3,.slice A0_4 l0_4.length c0_4],.agg #[.int .i64 a1_0,.int .i64 a1_1,.slice A1_2 l1_2.length c1_2,.slice A1_3 l1_3.length c1_3,.slice A1_4 l1_4.length c1_4]] w fun e w'=>e = .returned (.bool r)∧Below w.heap.size w w':=by
 have S:=St.init (w:=w) (dc k88_heap at88 hr0_2 hc0_2 (dc (Kd.heap_int .i64) (atI .i64) hr0_3 hc0_3 (dc (Kd.heap_int .i64) (atI .i64) hr0_4 hc0_4 (dc k88_heap at88 hr1_2 hc1_2 (dc (Kd.heap_int .i64) (atI .i64) hr1_3 hc1_3 (dc (Kd.heap_int .i64) (atI .i64) hr1_4 hc1_4 dn))))))
 clear hr0_2 hc0_2 hr0_3 hc0_3 hr0_4 hc0_4 hr1_2 hc1_2 hr1_3 hc1_3 hr1_4 hc1_4
 have F:=S.fc
 have H:=h;clear h;unfold laws_eqChallenge.f at H
 replace H:=sp_ H;rcases H with ⟨c3,H⟩ | ⟨c3,H⟩
 · skip
   replace c3:=ceq c3
   replace H:=sp_ H;rcases H with ⟨c4,H⟩ | ⟨c4,H⟩
   · skip
     replace c4:=ceq c4
     replace H:=Option.bind_eq_some_iff.mp H;obtain ⟨t505,A5,H⟩:=H;(try dsimp only at H)
     replace H:=sp_ H;rcases H with ⟨c6,H⟩ | ⟨c6,H⟩
     · skip
       subst c6
       replace H:=Option.bind_eq_some_iff.mp H;obtain ⟨t506,A7,H⟩:=H;(try dsimp only at H)
       replace H:=sp_ H;rcases H with ⟨c8,H⟩ | ⟨c8,H⟩
       · skip
         subst c8
         replace H:=Option.bind_eq_some_iff.mp H;obtain ⟨t507,A9,H⟩:=H;(try dsimp only at H)
         replace H:=sp_ H;rcases H with ⟨c10,H⟩ | ⟨c10,H⟩
         · skip
           subst c10
           obtain rfl:=Option.some.inj H
           go_enter Try.func18,Try.ntmps18
           go_wp2_with (first | ((with_reducible refine gd 2 rfl (L ?_));refine bo 2 (.agg #[_,_,_,_,_]) S ?_;clear S F;intro gb503 W S;have F:=S.fc) | ((with_reducible refine gd 3 rfl (L ?_));refine bo 3 (.agg #[_,_,_,_,_]) S ?_;clear S F;intro gb504 W S;have F:=S.fc) | ((with_reducible refine gate_callee (f:=66) rfl (L ?_));refine cl (some 19) Try.func66 (laws_eqCellS.calls _ _ _ _ _ _ _ _ _ S.c S.n S.c S.n A5) (hargs:=by (simp only [ma_,mb_,mc_,F] <;> rfl)) (h:=?_);rintro e W ⟨rfl,hb⟩;refine ⟨_,rfl,?_⟩;replace S:=S.go hb;clear F hb;have F:=S.fc) | ((with_reducible refine gate_callee (f:=21) rfl (L ?_));refine cl (some 25) Try.func21 (laws_eqIntS.calls _ _ _ _ _ _ _ _ _ S.c S.n S.c S.n A7) (hargs:=by (simp only [ma_,mb_,mc_,F] <;> rfl)) (h:=?_);rintro e W ⟨rfl,hb⟩;refine ⟨_,rfl,?_⟩;replace S:=S.gw hb;clear F hb;have F:=S.fc) | ((with_reducible refine gate_callee (f:=21) rfl (L ?_));refine cl (some 31) Try.func21 (laws_eqIntS.calls _ _ _ _ _ _ _ _ _ S.c S.n S.c S.n A9) (hargs:=by (simp only [ma_,mb_,mc_,F] <;> rfl)) (h:=?_);rintro e W ⟨rfl,hb⟩;refine ⟨_,rfl,?_⟩;replace S:=S.gw hb;clear F hb;have F:=S.fc))
           go_ret
           exact ⟨(by first | rfl | (simp [e0_,e1_] <;> rfl) | (simp [*,e0_,e1_] <;> rfl)),S.below⟩
         · skip
           replace c10:=cbf c10;subst c10
           obtain rfl:=Option.some.inj H
           go_enter Try.func18,Try.ntmps18
           go_wp2_with (first | ((with_reducible refine gd 2 rfl (L ?_));refine bo 2 (.agg #[_,_,_,_,_]) S ?_;clear S F;intro gb503 W S;have F:=S.fc) | ((with_reducible refine gd 3 rfl (L ?_));refine bo 3 (.agg #[_,_,_,_,_]) S ?_;clear S F;intro gb504 W S;have F:=S.fc) | ((with_reducible refine gate_callee (f:=66) rfl (L ?_));refine cl (some 19) Try.func66 (laws_eqCellS.calls _ _ _ _ _ _ _ _ _ S.c S.n S.c S.n A5) (hargs:=by (simp only [ma_,mb_,mc_,F] <;> rfl)) (h:=?_);rintro e W ⟨rfl,hb⟩;refine ⟨_,rfl,?_⟩;replace S:=S.go hb;clear F hb;have F:=S.fc) | ((with_reducible refine gate_callee (f:=21) rfl (L ?_));refine cl (some 25) Try.func21 (laws_eqIntS.calls _ _ _ _ _ _ _ _ _ S.c S.n S.c S.n A7) (hargs:=by (simp only [ma_,mb_,mc_,F] <;> rfl)) (h:=?_);rintro e W ⟨rfl,hb⟩;refine ⟨_,rfl,?_⟩;replace S:=S.gw hb;clear F hb;have F:=S.fc) | ((with_reducible refine gate_callee (f:=21) rfl (L ?_));refine cl (some 31) Try.func21 (laws_eqIntS.calls _ _ _ _ _ _ _ _ _ S.c S.n S.c S.n A9) (hargs:=by (simp only [ma_,mb_,mc_,F] <;> rfl)) (h:=?_);rintro e W ⟨rfl,hb⟩;refine ⟨_,rfl,?_⟩;replace S:=S.gw hb;clear F hb;have F:=S.fc))
           go_ret
           exact ⟨(by first | rfl | (simp [e0_,e1_] <;> rfl) | (simp [*,e0_,e1_] <;> rfl)),S.below⟩
       · skip
         replace c8:=cbf c8;subst c8
         obtain rfl:=Option.some.inj H
         go_enter Try.func18,Try.ntmps18
         go_wp2_with (first | ((with_reducible refine gd 2 rfl (L ?_));refine bo 2 (.agg #[_,_,_,_,_]) S ?_;clear S F;intro gb503 W S;have F:=S.fc) | ((with_reducible refine gd 3 rfl (L ?_));refine bo 3 (.agg #[_,_,_,_,_]) S ?_;clear S F;intro gb504 W S;have F:=S.fc) | ((with_reducible refine gate_callee (f:=66) rfl (L ?_));refine cl (some 19) Try.func66 (laws_eqCellS.calls _ _ _ _ _ _ _ _ _ S.c S.n S.c S.n A5) (hargs:=by (simp only [ma_,mb_,mc_,F] <;> rfl)) (h:=?_);rintro e W ⟨rfl,hb⟩;refine ⟨_,rfl,?_⟩;replace S:=S.go hb;clear F hb;have F:=S.fc) | ((with_reducible refine gate_callee (f:=21) rfl (L ?_));refine cl (some 25) Try.func21 (laws_eqIntS.calls _ _ _ _ _ _ _ _ _ S.c S.n S.c S.n A7) (hargs:=by (simp only [ma_,mb_,mc_,F] <;> rfl)) (h:=?_);rintro e W ⟨rfl,hb⟩;refine ⟨_,rfl,?_⟩;replace S:=S.gw hb;clear F hb;have F:=S.fc))
         go_ret
         exact ⟨(by first | rfl | (simp [e0_,e1_] <;> rfl) | (simp [*,e0_,e1_] <;> rfl)),S.below⟩
     · skip
       replace c6:=cbf c6;subst c6
       obtain rfl:=Option.some.inj H
       go_enter Try.func18,Try.ntmps18
       go_wp2_with (first | ((with_reducible refine gd 2 rfl (L ?_));refine bo 2 (.agg #[_,_,_,_,_]) S ?_;clear S F;intro gb503 W S;have F:=S.fc) | ((with_reducible refine gd 3 rfl (L ?_));refine bo 3 (.agg #[_,_,_,_,_]) S ?_;clear S F;intro gb504 W S;have F:=S.fc) | ((with_reducible refine gate_callee (f:=66) rfl (L ?_));refine cl (some 19) Try.func66 (laws_eqCellS.calls _ _ _ _ _ _ _ _ _ S.c S.n S.c S.n A5) (hargs:=by (simp only [ma_,mb_,mc_,F] <;> rfl)) (h:=?_);rintro e W ⟨rfl,hb⟩;refine ⟨_,rfl,?_⟩;replace S:=S.go hb;clear F hb;have F:=S.fc))
       go_ret
       exact ⟨(by first | rfl | (simp [e0_,e1_] <;> rfl) | (simp [*,e0_,e1_] <;> rfl)),S.below⟩
   · skip
     replace c4:=cne c4
     obtain rfl:=Option.some.inj H
     go_enter Try.func18,Try.ntmps18
     go_wp2_with (first | ((with_reducible refine gd 2 rfl (L ?_));refine bo 2 (.agg #[_,_,_,_,_]) S ?_;clear S F;intro gb503 W S;have F:=S.fc) | ((with_reducible refine gd 3 rfl (L ?_));refine bo 3 (.agg #[_,_,_,_,_]) S ?_;clear S F;intro gb504 W S;have F:=S.fc))
     go_ret
     exact ⟨(by first | rfl | (simp [e0_,e1_] <;> rfl) | (simp [*,e0_,e1_] <;> rfl)),S.below⟩
 · skip
   replace c3:=cne c3
   obtain rfl:=Option.some.inj H
   go_enter Try.func18,Try.ntmps18
   go_wp2_with (first | ((with_reducible refine gd 2 rfl (L ?_));refine bo 2 (.agg #[_,_,_,_,_]) S ?_;clear S F;intro gb503 W S;have F:=S.fc) | ((with_reducible refine gd 3 rfl (L ?_));refine bo 3 (.agg #[_,_,_,_,_]) S ?_;clear S F;intro gb504 W S;have F:=S.fc))
   go_ret
   exact ⟨(by first | rfl | (simp [e0_,e1_] <;> rfl) | (simp [*,e0_,e1_] <;> rfl)),S.below⟩

/-! ### laws_markIntS: function 23 -/
def laws_markIntS.l0:Nat→List Int→Int→Int→Option (Int × List Int)
  | 0,_,_,_=>none
  | k + 1,x0,x1,x5=>if x5 < (x0.length:Int) then (if 0 ≤ x5 then (laws_markIntS.l0 k (x0.set (x5:Int).toNat x1) (wrap64 (x1 + 1)) (wrap64 (x5 + 1))) else (none)) else (some (x1,x0))
def laws_markIntS.f (k:Nat) (l0:List Int) (a1:Int):Option (Int × List Int):=laws_markIntS.l0 k l0 a1 0
theorem laws_markIntS.calls (k:Nat) (P0_:Nat→Prop) (u9000_:Value) (l0:List Int) (a1:Int) (r1:Int) (r2:List Int) (w0 w:World) (hB:Below w0.heap.size w0 w) (ho0:Kd.R (Kd.int .i64) 3 w w0.heap.size P0_ u9000_ l0) (h:laws_markIntS.f k l0 a1 = some (r1,r2)) :
    Calls Try.prog 23 #[u9000_,.int .i64 a1] w fun e w'=>e = .returned (.int .i64 r1)∧Kd.R (Kd.int .i64) 3 w' w0.heap.size (fun k_=>(P0_ k_∨w.heap.size ≤ k_)) u9000_ r2∧Below w0.heap.size w0 w'∧Kept w w' (fun k_=>P0_ k_):=by
 obtain ⟨Al0,cl0,rfl⟩:=Kd.R_slice ho0
 have S:=St.own1 (atI .i64) hB ho0 dn
 clear hB ho0
 have F:=S.fc
 have H:=h;clear h;unfold laws_markIntS.f at H
 go_enter Try.func23,Try.ntmps23
 go_wp2_with (first | ((with_reducible refine gs (t:=3) rfl (L ?_));(first | refine sb (.int _ _) S sz3 ?_ | refine ro (.int _ _) S sz3 ?_ (ho:=rfl) (hx:=rfl) (hy:=rfl));(clear S F;intro W S;have F:=S.fc)))
 go_loopg [1,5] k (fun kq v1 v5 w'=>∃ (x0_1:List Int) (x1_1:Int) (x5_1:Int),v1 = .int .i64 x1_1∧v5 = .int .i64 x5_1∧laws_markIntS.l0 kq x0_1 x1_1 x5_1 = some (r1,r2)∧kq ≤ k∧St w0 w P0_ [] w'  [row (atI .i64) 3 Al0 l0.length cl0 x0_1])
 case atStart=>exact ⟨l0,a1,0,(by first | rfl | (simp;done) | (simp [*];done) | (rw [w6_ (by omega) (by omega)])),(by first | rfl | (simp;done) | (simp [*];done) | (rw [w6_ (by omega) (by omega)])),H,Nat.le_refl _,S⟩
 case round =>
  clear H S F
  obtain ⟨x0_1,x1_1,x5_1,rfl,rfl,HA,HK1,S⟩:=hrel
  have F:=S.fc
  cases gk with
  | zero=>exact absurd HA (by simp [laws_markIntS.l0])
  | succ k1 =>
   have H:=HA;clear HA;simp only [laws_markIntS.l0,F] at H
   replace H:=sp_ H;rcases H with ⟨c3,H⟩ | ⟨c3,H⟩
   · skip
     replace H:=np_ H;obtain ⟨c4,H⟩:=H
     (first | (with_reducible replace H:=ob_ H;obtain ⟨y619,hy619,H⟩:=H;(try dsimp only at H)) | (obtain ⟨y619,hy619⟩:∃ y_:List Int,y_ = (x0_1.set (x5_1:Int).toNat x1_1):=⟨_,rfl⟩;(try rw [← hy619] at H);(try simp only [Option.bind_some] at H)));have Ny619:=Aside0.mk hy619;clear hy619
     go_wp2_with (first | ((with_reducible refine gs (t:=3) rfl (L ?_));(first | refine sb (.int _ _) S sz3 ?_ | refine ro (.int _ _) S sz3 ?_ (ho:=rfl) (hx:=rfl) (hy:=rfl));clear S F;intro W S;(try rw [← Ny619.out] at S);have F:=S.fc))
     go_roundg k1
     case measure=>omega
     case rel=>exact ⟨y619,(wrap64 (x1_1 + 1)),(wrap64 (x5_1 + 1)),(by first | rfl | (simp;done) | (simp [*];done) | (rw [w6_ (by omega) (by omega)])),(by first | rfl | (simp;done) | (simp [*];done) | (rw [w6_ (by omega) (by omega)])),H,(by first | omega | exact Nat.le_refl _),S⟩
   · skip
     simp only [Option.some.injEq,Prod.mk.injEq] at H
     obtain ⟨rfl,rfl⟩:=H
     go_wp2_with (first | ((with_reducible refine gs (t:=3) rfl (L ?_));(first | refine sb (.int _ _) S sz3 ?_ | refine ro (.int _ _) S sz3 ?_ (ho:=rfl) (hx:=rfl) (hy:=rfl));(clear S F;intro W S;have F:=S.fc)))
     go_ret
     exact ⟨(by first | rfl | (simp [e0_,e1_] <;> rfl) | (simp [*,e0_,e1_] <;> rfl)),(by first | exact S.rp | exact Kd.R_nil _ _ _ _ _),S.below,S.kept⟩

/-! ### laws_markCellS: function 70 -/
def laws_markCellS.l0:Nat→List (S88)→Int→Int→Option (Int × (List (S88)))
  | 0,_,_,_=>none
  | k + 1,x0,x1,x5=>if x5 < (x0.length:Int) then (if 0 ≤ x5 then ((some (x0.set (x5:Int).toNat (⟨x1,(rd_T88 x0 x5).f1⟩:S88):List (S88))).bind fun y620=>(laws_markCellS.l0 k (y620.set (x5:Int).toNat (⟨(rd_T88 y620 x5).f0,wrap64 (x1 + 1)⟩:S88)) (wrap64 ((wrap64 (x1 + 1)) + 1)) (wrap64 (x5 + 1)))) else (none)) else (some (x1,x0))
def laws_markCellS.f (k:Nat) (l0:List (S88)) (a1:Int):Option (Int × (List (S88))):=laws_markCellS.l0 k l0 a1 0
theorem laws_markCellS.calls (k:Nat) (P0_:Nat→Prop) (u9000_:Value) (l0:List (S88)) (a1:Int) (r1:Int) (r2:List (S88)) (w0 w:World) (hB:Below w0.heap.size w0 w) (ho0:Kd.R k88 88 w w0.heap.size P0_ u9000_ l0) (h:laws_markCellS.f k l0 a1 = some (r1,r2)) :
    Calls Try.prog 70 #[u9000_,.int .i64 a1] w fun e w'=>e = .returned (.int .i64 r1)∧Kd.R k88 88 w' w0.heap.size (fun k_=>(P0_ k_∨w.heap.size ≤ k_)) u9000_ r2∧Below w0.heap.size w0 w'∧Kept w w' (fun k_=>P0_ k_):=by
 obtain ⟨Al0,cl0,rfl⟩:=Kd.R_slice ho0
 have S:=St.own1 at88 hB ho0 dn
 clear hB ho0
 have F:=S.fc
 have H:=h;clear h;unfold laws_markCellS.f at H
 go_enter Try.func70,Try.ntmps70
 go_wp2_with (first | ((with_reducible refine gs (t:=3) rfl (L ?_));(first | refine sb (.int _ _) S sz3 ?_ | refine ro (.int _ _) S sz3 ?_ (ho:=rfl) (hx:=rfl) (hy:=rfl));clear S F;intro W S;(try simp only [gd88] at S);have F:=S.fc))
 go_loopg [1,5] k (fun kq v1 v5 w'=>∃ (x0_1:List (S88)) (x1_1:Int) (x5_1:Int),v1 = .int .i64 x1_1∧v5 = .int .i64 x5_1∧laws_markCellS.l0 kq x0_1 x1_1 x5_1 = some (r1,r2)∧kq ≤ k∧St w0 w P0_ [] w'  [row at88 88 Al0 l0.length cl0 x0_1])
 case atStart=>exact ⟨l0,a1,0,(by first | rfl | (simp;done) | (simp [*];done) | (rw [w6_ (by omega) (by omega)])),(by first | rfl | (simp;done) | (simp [*];done) | (rw [w6_ (by omega) (by omega)])),H,Nat.le_refl _,S⟩
 case round =>
  clear H S F
  obtain ⟨x0_1,x1_1,x5_1,rfl,rfl,HA,HK1,S⟩:=hrel
  have F:=S.fc
  cases gk with
  | zero=>exact absurd HA (by simp [laws_markCellS.l0])
  | succ k1 =>
   have H:=HA;clear HA;simp only [laws_markCellS.l0,F] at H
   replace H:=sp_ H;rcases H with ⟨c3,H⟩ | ⟨c3,H⟩
   · skip
     replace H:=np_ H;obtain ⟨c4,H⟩:=H
     (first | (with_reducible replace H:=ob_ H;obtain ⟨y620,hy620,H⟩:=H;(try dsimp only at H)) | (obtain ⟨y620,hy620⟩:∃ y_:List (S88),y_ = (x0_1.set (x5_1:Int).toNat (⟨x1_1,(rd_T88 x0_1 x5_1).f1⟩:S88)):=⟨_,rfl⟩;(try rw [← hy620] at H);(try simp only [Option.bind_some] at H)));have Ny620:=Aside0.mk hy620;clear hy620
     (first | (with_reducible replace H:=ob_ H;obtain ⟨y621,hy621,H⟩:=H;(try dsimp only at H)) | (obtain ⟨y621,hy621⟩:∃ y_:List (S88),y_ = (y620.set (x5_1:Int).toNat (⟨(rd_T88 y620 x5_1).f0,wrap64 (x1_1 + 1)⟩:S88)):=⟨_,rfl⟩;(try rw [← hy621] at H);(try simp only [Option.bind_some] at H)));have Ny621:=Aside0.mk hy621;clear hy621
     go_wp2_with (first | ((with_reducible refine gs (t:=3) rfl (L ?_));(first | refine sb (.int _ _) S sz3 ?_ | refine ro (.int _ _) S sz3 ?_ (ho:=rfl) (hx:=rfl) (hy:=rfl));clear S F;intro W S;(try simp only [gd88] at S);(try rw [← Ny620.out] at S);(try rw [← Ny621.out] at S);have F:=S.fc))
     go_roundg k1
     case measure=>omega
     case rel=>exact ⟨y621,(wrap64 ((wrap64 (x1_1 + 1)) + 1)),(wrap64 (x5_1 + 1)),(by first | rfl | (simp;done) | (simp [*];done) | (rw [w6_ (by omega) (by omega)])),(by first | rfl | (simp;done) | (simp [*];done) | (rw [w6_ (by omega) (by omega)])),H,(by first | omega | exact Nat.le_refl _),S⟩
   · skip
     simp only [Option.some.injEq,Prod.mk.injEq] at H
     obtain ⟨rfl,rfl⟩:=H
     go_wp2_with (first | ((with_reducible refine gs (t:=3) rfl (L ?_));(first | refine sb (.int _ _) S sz3 ?_ | refine ro (.int _ _) S sz3 ?_ (ho:=rfl) (hx:=rfl) (hy:=rfl));clear S F;intro W S;(try simp only [gd88] at S);have F:=S.fc))
     go_ret
     exact ⟨(by first | rfl | (simp [e0_,e1_] <;> rfl) | (simp [*,e0_,e1_] <;> rfl)),(by first | exact S.rp | exact Kd.R_nil _ _ _ _ _),S.below,S.kept⟩

/-! ### laws_markChallenge: function 22 -/
def laws_markChallenge.f (k:Nat) (a0_0:Int) (a0_1:Int) (l0_2:List (S88)) (l0_3:List Int) (l0_4:List Int) (a1:Int):Option (Int × (List (S88)) × List Int × List Int):=(laws_markCellS.f k l0_2 a1).bind fun bt623=>((laws_markIntS.f k l0_3 bt623.1).bind fun bt625=>((laws_markIntS.f k l0_4 bt625.1).bind fun bt627=>(some (bt627.1,bt623.2,bt625.2,bt627.2))))
theorem laws_markChallenge.calls (k:Nat) (a0_0:Int) (a0_1:Int) (P0_2_:Nat→Prop) (u9000_:Value) (l0_2:List (S88)) (P0_3_:Nat→Prop) (u9001_:Value) (l0_3:List Int) (P0_4_:Nat→Prop) (u9002_:Value) (l0_4:List Int) (a1:Int) (r1:Int) (r2:List (S88)) (r3:List Int) (r4:List Int) (w0 w:World) (hB:Below w0.heap.size w0 w) (ho0_2:Kd.R k88 88 w w0.heap.size P0_2_ u9000_ l0_2) (ho0_3:Kd.R (Kd.int .i64) 3 w w0.heap.size P0_3_ u9001_ l0_3) (hp0_3_0_4:∀ k_,P0_3_ k_→¬ P0_4_ k_) (ho0_4:Kd.R (Kd.int .i64) 3 w w0.heap.size P0_4_ u9002_ l0_4) (hp0_4_0_3:∀ k_,P0_4_ k_→¬ P0_3_ k_) (h:laws_markChallenge.f k a0_0 a0_1 l0_2 l0_3 l0_4 a1 = some (r1,r2,r3,r4)) :
  Calls Try.prog 22 #[.agg #[.int .i64 a0_0,.int .i64 a0_1,u9000_,u9001_,u9002_],.int .i64 a1] w fun e w'=>e = .returned (.int .i64 r1)∧Kd.R k88 88 w' w0.heap.size (fun k_=>((P0_2_ k_∨P0_3_ k_∨P0_4_ k_)∨w.heap.size ≤ k_)) u9000_ r2∧Kd.R (Kd.int .i64) 3 w' w0.heap.size (fun k_=>((P0_2_ k_∨P0_3_ k_∨P0_4_ k_)∨w.heap.size ≤ k_)) u9001_ r3∧Kd.R (Kd.int .i64) 3 w' w0.heap.size (fun k_=>((P0_2_ k_∨P0_3_ k_∨P0_4_ k_)∨w.heap.size ≤ k_)) u9002_ r4∧Below w0.heap.size w0 w'∧Kept w w' (fun k_=>P0_2_ k_∨P0_3_ k_∨P0_4_ k_):=by
 have HO0_2:=Aside0.mk (show Kd.R k88 88 w w0.heap.size (fun k_=>((P0_2_ k_∨P0_3_ k_∨P0_4_ k_)∨w.heap.size ≤ k_)) u9000_ l0_2 from Kd.R_mono ho0_2 (fun k_ hk=>(.inl (.inl hk))));have HO0_3:=Aside0.mk (show Kd.R (Kd.int .i64) 3 w w0.heap.size (fun k_=>((P0_2_ k_∨P0_3_ k_∨P0_4_ k_)∨w.heap.size ≤ k_)∧some k_ ≠ (u9002_:Value).ownBlock) u9001_ l0_3 from Kd.R_mono ho0_3 (fun k_ hk=>⟨(.inl (.inr (.inl hk))),fun e_=>hp0_3_0_4 k_ hk (ho0_4.1 k_ e_.symm)⟩));have HO0_4:=Aside0.mk (show Kd.R (Kd.int .i64) 3 w w0.heap.size (fun k_=>((P0_2_ k_∨P0_3_ k_∨P0_4_ k_)∨w.heap.size ≤ k_)∧some k_ ≠ (u9001_:Value).ownBlock) u9002_ l0_4 from Kd.R_mono ho0_4 (fun k_ hk=>⟨(.inl (.inr (.inr hk))),fun e_=>hp0_4_0_3 k_ hk (ho0_3.1 k_ e_.symm)⟩));have HK:=Aside0.mk (Kept.refl w (fun k_=>P0_2_ k_∨P0_3_ k_∨P0_4_ k_));have HW0:=Aside0.mk hB.size;have HB:=Aside0.mk hB;clear hB;have H:((laws_markCellS.f k l0_2 a1).bind fun bt623=>((laws_markIntS.f k l0_3 bt623.1).bind fun bt625=>((laws_markIntS.f k l0_4 bt625.1).bind fun bt627=>(some (bt627.1,bt623.2,bt625.2,bt627.2))))) = some (r1,r2,r3,r4):=h;clear h;replace H:=Option.bind_eq_some_iff.mp H;obtain ⟨⟨t623,t624⟩,A30,H⟩:=H;(try dsimp only at H)
 have A3:=Aside0.mk A30;clear A30;replace H:=Option.bind_eq_some_iff.mp H;obtain ⟨⟨t625,t626⟩,A40,H⟩:=H;(try dsimp only at H)
 have A4:=Aside0.mk A40;clear A40;replace H:=Option.bind_eq_some_iff.mp H;obtain ⟨⟨t627,t628⟩,A50,H⟩:=H;(try dsimp only at H)
 have A5:=Aside0.mk A50;clear A50;simp only [Option.some.injEq,Prod.mk.injEq] at H;obtain ⟨rfl,rfl,rfl,rfl⟩:=H;obtain ⟨Ao6,co6,eo6⟩:=Kd.R_slice HO0_2.out;subst eo6;obtain ⟨Ao7,co7,eo7⟩:=Kd.R_slice HO0_3.out;subst eo7;obtain ⟨Ao8,co8,eo8⟩:=Kd.R_slice HO0_4.out;subst eo8;go_enter Try.func22,Try.ntmps22;go_wp2_with (first | ((with_reducible refine gate_dst (N:=2) rfl ?_);refine box_event ?hg (N:=2) ?hd (cs:=#[.int .i64 a0_0,.int .i64 a0_1,.slice Ao6 l0_2.length co6,.slice Ao7 l0_3.length co7,.slice Ao8 l0_4.length co8]) (t:=31) ?hr ?_;(case hd=>rfl);(case hg=>rfl);(case hr=>first | (go_simp;done) | (go_simp;rfl));intro gb622 hg w9 hbox hb;refine ev8 (Kd.R_below (Kd.R_mv HO0_2.out) hb) (Kd.R_below (Kd.R_mv HO0_3.out) hb) (Kd.R_below (Kd.R_mv HO0_4.out) hb) (Kept.below (S:=(fun k_=>P0_2_ k_∨P0_3_ k_∨P0_4_ k_)) (km HK) hb) (bs HB hb) (hbox) ((by rw [hg];exact (by first | exact HK.out.1 | exact (show Kept w _ (fun k_=>P0_2_ k_∨P0_3_ k_∨P0_4_ k_) from km HK).1):w.heap.size ≤ gb622)) (gle hg HB) ?_;clear HO0_2 HO0_3 HO0_4 HK HB;intro HO0_2 HO0_3 HO0_4 HK HB BK622 GW622 GE622;clear hb hbox hg;obtain ⟨hcz10_0,hcz10_1,hcz10_2,hcz10_3,hcz10_4,hfz10_0,hfz10_1,hfz10_2,hfz10_3,hfz10_4⟩:=bt5 BK622) | ((with_reducible refine gate_callee (f:=70) rfl ?_);refine gL_ (some 8) Try.func70 #[.slice Ao6 l0_2.length co6,.int .i64 a1] (h:=?_);(with_reducible refine (laws_markCellS.calls k (fun k_=>some k_ = (.slice Ao6 l0_2.length co6:Value).ownBlock) (.slice Ao6 l0_2.length co6) l0_2 a1 t623 t624 w0 _ (bm HB) ?side2 A3.out).mono ?_);(case side2=>exact Kd.R_tight rfl HO0_2.out);rintro e w11 ⟨rfl,hy0,hb,hkp⟩;refine ⟨_,rfl,?_⟩;refine ev6 (Kd.R_reok rfl hy0 (fun k_ e_=>HO0_2.out.1 k_ e_)) (Kd.R_mono (ok':=fun k_=>((P0_2_ k_∨P0_3_ k_∨P0_4_ k_)∨w.heap.size ≤ k_)∧some k_ ≠ (.slice Ao8 l0_4.length co8:Value).ownBlock) (Kd.R_keptB ((Kd.R_apart' HO0_3.out (Kd.R_typed HO0_2.out) (by decide))) hkp (fun k_ hk_ hs_=>(hk_.2) hs_)) (fun k_ hk_=>⟨hk_.1.1.1,hk_.1.1.2⟩)) (Kd.R_mono (ok':=fun k_=>((P0_2_ k_∨P0_3_ k_∨P0_4_ k_)∨w.heap.size ≤ k_)∧some k_ ≠ (.slice Ao7 l0_3.length co7:Value).ownBlock) (Kd.R_keptB ((Kd.R_apart' HO0_4.out (Kd.R_typed HO0_2.out) (by decide))) hkp (fun k_ hk_ hs_=>(hk_.2) hs_)) (fun k_ hk_=>⟨hk_.1.1.1,hk_.1.1.2⟩)) (blk_kept (km_ BK622) hkp (fun hs_=>(fun e_=>(Kd.R_ne HO0_2.out BK622.out (by decide)) e_) hs_)) (Kept.then_ (S:=(fun k_=>P0_2_ k_∨P0_3_ k_∨P0_4_ k_)) (km HK) hkp (fun k_ hs_=>(fun e_=>(HO0_2.out.1 k_ e_.symm)) hs_)) (hb) ?_;clear HO0_2 HO0_3 HO0_4 BK622 HK HB;intro HO0_2 HO0_3 HO0_4 BK622 HK HB;(try clear hb);(try clear hkp);(try clear hy0);obtain ⟨hcz12_0,hcz12_1,hcz12_2,hcz12_3,hcz12_4,hfz12_0,hfz12_1,hfz12_2,hfz12_3,hfz12_4⟩:=bt5 BK622) | ((with_reducible refine gate_callee (f:=23) rfl ?_);refine gL_ (some 12) Try.func23 #[.slice Ao7 l0_3.length co7,.int .i64 t623] (h:=?_);(with_reducible refine (laws_markIntS.calls k (fun k_=>some k_ = (.slice Ao7 l0_3.length co7:Value).ownBlock) (.slice Ao7 l0_3.length co7) l0_3 t623 t625 t626 w0 _ (bm HB) ?side2 A4.out).mono ?_);(case side2=>exact Kd.R_tight rfl HO0_3.out);rintro e w13 ⟨rfl,hy0,hb,hkp⟩;refine ⟨_,rfl,?_⟩;refine ev6 (Kd.R_mono (ok':=fun k_=>((P0_2_ k_∨P0_3_ k_∨P0_4_ k_)∨w.heap.size ≤ k_)) (Kd.R_keptB ((Kd.R_apart' HO0_2.out (Kd.R_typed HO0_3.out) (by decide))) hkp (fun k_ hk_ hs_=>(hk_.2) hs_)) (fun k_ hk_=>hk_.1.1)) (Kd.R_reok rfl hy0 (fun k_ e_=>HO0_3.out.1 k_ e_)) (Kd.R_mono (ok':=fun k_=>((P0_2_ k_∨P0_3_ k_∨P0_4_ k_)∨w.heap.size ≤ k_)∧some k_ ≠ (.slice Ao7 l0_3.length co7:Value).ownBlock) (Kd.R_keptB (HO0_4.out) hkp (fun k_ hk_ hs_=>(hk_.2) hs_)) (fun k_ hk_=>⟨hk_.1.1,hk_.1.2⟩)) (blk_kept (km_ BK622) hkp (fun hs_=>(fun e_=>(Kd.R_ne HO0_3.out BK622.out (by decide)) e_) hs_)) (Kept.then_ (S:=(fun k_=>P0_2_ k_∨P0_3_ k_∨P0_4_ k_)) (km HK) hkp (fun k_ hs_=>(fun e_=>(HO0_3.out.1 k_ e_.symm).1) hs_)) (hb) ?_;clear HO0_2 HO0_3 HO0_4 BK622 HK HB;intro HO0_2 HO0_3 HO0_4 BK622 HK HB;(try clear hb);(try clear hkp);(try clear hy0);obtain ⟨hcz14_0,hcz14_1,hcz14_2,hcz14_3,hcz14_4,hfz14_0,hfz14_1,hfz14_2,hfz14_3,hfz14_4⟩:=bt5 BK622) | ((with_reducible refine gate_callee (f:=23) rfl ?_);refine gL_ (some 16) Try.func23 #[.slice Ao8 l0_4.length co8,.int .i64 t625] (h:=?_);(with_reducible refine (laws_markIntS.calls k (fun k_=>some k_ = (.slice Ao8 l0_4.length co8:Value).ownBlock) (.slice Ao8 l0_4.length co8) l0_4 t625 t627 t628 w0 _ (bm HB) ?side2 A5.out).mono ?_);(case side2=>exact Kd.R_tight rfl HO0_4.out);rintro e w15 ⟨rfl,hy0,hb,hkp⟩;refine ⟨_,rfl,?_⟩;refine ev6 (Kd.R_mono (ok':=fun k_=>((P0_2_ k_∨P0_3_ k_∨P0_4_ k_)∨w.heap.size ≤ k_)) (Kd.R_keptB ((Kd.R_apart' HO0_2.out (Kd.R_typed HO0_4.out) (by decide))) hkp (fun k_ hk_ hs_=>(hk_.2) hs_)) (fun k_ hk_=>hk_.1.1)) (Kd.R_mono (ok':=fun k_=>((P0_2_ k_∨P0_3_ k_∨P0_4_ k_)∨w.heap.size ≤ k_)∧some k_ ≠ (.slice Ao8 l0_4.length co8:Value).ownBlock) (Kd.R_keptB (HO0_3.out) hkp (fun k_ hk_ hs_=>(hk_.2) hs_)) (fun k_ hk_=>⟨hk_.1.1,hk_.1.2⟩)) (Kd.R_reok rfl hy0 (fun k_ e_=>HO0_4.out.1 k_ e_)) (blk_kept (km_ BK622) hkp (fun hs_=>(fun e_=>(Kd.R_ne HO0_4.out BK622.out (by decide)) e_) hs_)) (Kept.then_ (S:=(fun k_=>P0_2_ k_∨P0_3_ k_∨P0_4_ k_)) (km HK) hkp (fun k_ hs_=>(fun e_=>(HO0_4.out.1 k_ e_.symm).1) hs_)) (hb) ?_;clear HO0_2 HO0_3 HO0_4 BK622 HK HB;intro HO0_2 HO0_3 HO0_4 BK622 HK HB;(try clear hb);(try clear hkp);(try clear hy0)))
 go_ret;exact ⟨by first | rfl | (simp [e0_,e1_] <;> rfl) | (simp [*,e0_,e1_] <;> rfl),Kd.R_mv HO0_2.out,Kd.R_mv (Kd.R_mono (ok':=fun k_=>(((P0_2_ k_∨P0_3_ k_∨P0_4_ k_)∨w.heap.size ≤ k_))) HO0_3.out (fun _ hk=>hk.1)),Kd.R_mv (Kd.R_mono (ok':=fun k_=>(((P0_2_ k_∨P0_3_ k_∨P0_4_ k_)∨w.heap.size ≤ k_))) HO0_4.out (fun _ hk=>hk.1)),bm HB,km HK⟩

/-! ### laws_heldIntS: function 24 -/
def laws_heldIntS.l0:Nat→List Int→Int→Int→Option (Int)
 | 0,_,_,_=>none
 | k + 1,x0,x1,x5=>if x5 < (x0.length:Int) then (if 0 ≤ x5 then (if (rd x0 x5) = x1 then (laws_heldIntS.l0 k x0 (wrap64 (x1 + 1)) (wrap64 (x5 + 1))) else (some (-1))) else (none)) else (some x1)
def laws_heldIntS.f (k:Nat) (l0:List Int) (a1:Int):Option (Int):=laws_heldIntS.l0 k l0 a1 0
theorem laws_heldIntS.calls (k:Nat) (A0:Option Addr) (c0:Nat) (l0:List Int) (a1:Int) (r:Int) (w:World) (hr0:Kd.C (Kd.int .i64) w A0 l0.length l0) (hc0:l0.length ≤ c0) (h:laws_heldIntS.f k l0 a1 = some r) :
  Calls Try.prog 24 #[.slice A0 l0.length c0,.int .i64 a1] w fun e w'=>e = .returned (.int .i64 r)∧Drawn0 w w':=by
 have HR0:=Aside0.mk hr0;have HC0:=Aside0.mk hc0;clear hr0 hc0;have H:(laws_heldIntS.l0 k l0 a1 0) = some r:=h;clear h;have H':=Aside0.mk H;clear H;go_enter Try.func24,Try.ntmps24;go_wp2;go_loopg [1,5] k (fun kq v1 v5 w'=>∃ (x1_1:Int) (x5_1:Int),v1 = .int .i64 x1_1∧v5 = .int .i64 x5_1∧Aside0 (laws_heldIntS.l0 kq l0 x1_1 x5_1 = some r)∧Aside0 (kq ≤ k)∧Drawn0 w w')
 case atStart=>exact ⟨(a1),(0),(by first | rfl | (simp;done) | (simp [*];done)),(by first | rfl | (simp;done) | (simp [*];done)),H',⟨Nat.le_refl _⟩,by repeat (first | exact Drawn0.refl _ | apply Drawn0.step)⟩
 case round =>
  clear H';(try clear c2);(try clear p2);obtain ⟨x1_1,x5_1,rfl,rfl,HA,HK1,⟨m1,rfl⟩⟩:=hrel;cases gk with
  | zero=>exact absurd HA.out (by simp [laws_heldIntS.l0])
  | succ k1 =>
   have H:=HA.out;clear HA;simp only [laws_heldIntS.l0] at H;by_cases c3:x5_1 < (l0.length:Int)
   ·rw [if_pos c3] at H;have c3b0:decide (x5_1 < (l0.length:Int)) = true:=decide_eq_true c3;clear c3;replace H:=np_ H;obtain ⟨c4,H⟩:=H;have c4b0:decide (0 ≤ x5_1) = true:=decide_eq_true c4;clear c4;by_cases c5:(rd l0 x5_1) = x1_1
    ·rw [if_pos c5] at H;have c5b0:((rd l0 x5_1) == x1_1) = true:=beq_iff_eq.mpr c5;have c5b1:((rd l0 x5_1) != x1_1) = false:=bne_eq_false_iff_eq.mpr c5;clear c5;have H':=Aside0.mk H;clear H;have p629:0 ≤ (x5_1:Int):=of_decide_eq_true (by first | (with_reducible assumption) | assumption);have q629:x5_1 < (l0.length:Int):=of_decide_eq_true (by first | (with_reducible assumption) | assumption);obtain ⟨ad629,e629,hx629_0⟩:=Kd.at_int HR0.out x5_1 p629 q629;cases e629;replace p629:=eq_true p629;replace q629:=eq_true q629;go_wp2;go_roundg k1
     case measure=>have:=HK1.out;omega
     case rel=>exact ⟨(wrap64 (x1_1 + 1)),(wrap64 (x5_1 + 1)),(by first | rfl | (simp;done) | (simp [*];done)),(by first | rfl | (simp;done) | (simp [*];done)),H',⟨by have:=HK1.out;omega⟩,by repeat (first | exact Drawn0.refl _ | apply Drawn0.step)⟩
    ·rw [if_neg c5] at H;have c5b0:((rd l0 x5_1) == x1_1) = false:=beq_eq_false_iff_ne.mpr c5;have c5b1:((rd l0 x5_1) != x1_1) = true:=bne_iff_ne.mpr c5;obtain rfl:=Option.some.inj H;have p629:0 ≤ (x5_1:Int):=of_decide_eq_true (by first | (with_reducible assumption) | assumption);have q629:x5_1 < (l0.length:Int):=of_decide_eq_true (by first | (with_reducible assumption) | assumption);obtain ⟨ad629,e629,hx629_0⟩:=Kd.at_int HR0.out x5_1 p629 q629;cases e629;replace p629:=eq_true p629;replace q629:=eq_true q629;go_wp2;go_ret;exact ⟨by first | rfl | (simp;done) | (simp [*];done),by repeat (first | exact Drawn0.refl _ | apply Drawn0.step)⟩
   ·rw [if_neg c3] at H;have c3b0:decide (x5_1 < (l0.length:Int)) = false:=decide_eq_false c3;clear c3;obtain rfl:=Option.some.inj H;go_wp2;go_ret;exact ⟨by first | rfl | (simp;done) | (simp [*];done),by repeat (first | exact Drawn0.refl _ | apply Drawn0.step)⟩

/-! ### spec_SolutionsBySize: function 25 -/
def spec_SolutionsBySize.f (k:Nat) (a0_0:Int) (a0_1:Int) (l0_2:List (S88)) (l0_3:List Int) (l0_4:List Int):Option (List Int × Bool):=(spec_syGood.f k a0_0 a0_1 l0_2 l0_3 l0_4).bind fun t702=>(if t702 = true then ((spec_syCount.f k a0_0 a0_1 l0_2 l0_3 l0_4).bind fun bt703=>(some (bt703.1,true))) else (some (([]:List Int),false)))
theorem spec_SolutionsBySize.calls (k:Nat) (a0_0:Int) (a0_1:Int) (A0_2:Option Addr) (c0_2:Nat) (l0_2:List (S88)) (A0_3:Option Addr) (c0_3:Nat) (l0_3:List Int) (A0_4:Option Addr) (c0_4:Nat) (l0_4:List Int) (r1:List Int) (r2:Bool) (w:World) (hr0_2:Kd.C k88 w A0_2 l0_2.length l0_2) (hc0_2:l0_2.length ≤ c0_2) (hr0_3:Kd.C (Kd.int .i64) w A0_3 l0_3.length l0_3) (hc0_3:l0_3.length ≤ c0_3) (hr0_4:Kd.C (Kd.int .i64) w A0_4 l0_4.length l0_4) (hc0_4:l0_4.length ≤ c0_4) (h:spec_SolutionsBySize.f k a0_0 a0_1 l0_2 l0_3 l0_4 = some (r1,r2)) :
    Calls Try.prog 25 #[.agg #[.int .i64 a0_0,.int .i64 a0_1,.slice A0_2 l0_2.length c0_2,.slice A0_3 l0_3.length c0_3,.slice A0_4 l0_4.length c0_4]] w fun e w'=>∃ v0_:Value,e = .returned (.tuple #[v0_,.bool r2])∧Kd.R (Kd.int .i64) 3 w' w.heap.size (fun _=>True) v0_ r1∧Below w.heap.size w w':=by
 have S:=St.init (w:=w) (dc k88_heap at88 hr0_2 hc0_2 (dc (Kd.heap_int .i64) (atI .i64) hr0_3 hc0_3 (dc (Kd.heap_int .i64) (atI .i64) hr0_4 hc0_4 dn)))
 clear hr0_2 hc0_2 hr0_3 hc0_3 hr0_4 hc0_4
 have F:=S.fc
 have H:=h;clear h;unfold spec_SolutionsBySize.f at H
 replace H:=Option.bind_eq_some_iff.mp H;obtain ⟨t702,A2,H⟩:=H;(try dsimp only at H)
 replace H:=sp_ H;rcases H with ⟨c3,H⟩ | ⟨c3,H⟩
 · skip
   subst c3
   replace H:=Option.bind_eq_some_iff.mp H;obtain ⟨⟨t703,t706,t707⟩,A4,H⟩:=H;(try dsimp only at H)
   simp only [Option.some.injEq,Prod.mk.injEq] at H
   obtain ⟨rfl,rfl⟩:=H
   go_enter Try.func25,Try.ntmps25
   go_wp2_with (first | ((with_reducible refine gd 1 rfl (L ?_));refine bo 1 (.agg #[_,_,_,_,_]) S ?_;clear S F;intro gb701 W S;have F:=S.fc) | ((with_reducible refine gate_callee (f:=67) rfl (L ?_));refine cl (some 8) Try.func67 (spec_syGood.calls _ _ _ _ _ _ _ _ _ _ _ _ _ _ S.c S.n S.c S.n S.c S.n A2) (hargs:=by (simp only [ma_,mb_,mc_,F] <;> rfl)) (h:=?_);rintro e W ⟨rfl,hb⟩;refine ⟨_,rfl,?_⟩;replace S:=S.go hb;clear F hb;have F:=S.fc) | ((with_reducible refine gate_callee (f:=71) rfl (L ?_));refine cl (some 12) Try.func71 (spec_syCount.calls _ _ _ _ _ _ _ _ _ _ _ _ _ _ _ _ S.c S.n S.c S.n S.c S.n A4) (hargs:=by (simp only [ma_,mb_,mc_,F] <;> rfl)) (h:=?_);rintro e W ⟨v704,rfl,ho0,hb⟩;refine ⟨_,rfl,?_⟩;replace S:=S.got (atI .i64) hb ho0;obtain ⟨At703,ct703,rfl,S⟩:=S;clear F hb ho0;have F:=S.fc))
   go_ret2
   exact ⟨_,(by first | rfl | (simp [e0_,e1_] <;> rfl) | (simp [*,e0_,e1_] <;> rfl)),(by first | exact S.r | exact Kd.R_nil _ _ _ _ _),S.below⟩
 · skip
   replace c3:=cbf c3;subst c3
   simp only [Option.some.injEq,Prod.mk.injEq] at H
   obtain ⟨rfl,rfl⟩:=H
   go_enter Try.func25,Try.ntmps25
   go_wp2_with (first | ((with_reducible refine gd 1 rfl (L ?_));refine bo 1 (.agg #[_,_,_,_,_]) S ?_;clear S F;intro gb701 W S;have F:=S.fc) | ((with_reducible refine gate_callee (f:=67) rfl (L ?_));refine cl (some 8) Try.func67 (spec_syGood.calls _ _ _ _ _ _ _ _ _ _ _ _ _ _ S.c S.n S.c S.n S.c S.n A2) (hargs:=by (simp only [ma_,mb_,mc_,F] <;> rfl)) (h:=?_);rintro e W ⟨rfl,hb⟩;refine ⟨_,rfl,?_⟩;replace S:=S.go hb;clear F hb;have F:=S.fc))
   go_ret2
   exact ⟨_,(by first | rfl | (simp [e0_,e1_] <;> rfl) | (simp [*,e0_,e1_] <;> rfl)),(by first | exact S.r | exact Kd.R_nil _ _ _ _ _),S.below⟩

/-! ### impl_SolutionsBySize: function 26 -/
def impl_SolutionsBySize.l0:Nat→List Int→Int→Int→Int→List (S88)→List Int→List Int→Option (List Int × Bool)
 | 0,_,_,_,_,_,_,_=>none
 | k + 1,x4,x27,x709000,x709001,x709002,x709003,x709004=>(impl_boardsTried.f k x709000 x709001 x709002 x709003 x709004).bind fun t713=>(if x27 < t713 then ((impl_boardOf.f k x709000 x709001 x709002 x709003 x709004 x27).bind fun bt714=>((impl_hasEnds.f k x709000 x709001 x709002 x709003 x709004 bt714.1 bt714.2.1 bt714.2.2).bind fun t720=>(if t720 = true then ((impl_partsOf.f k bt714.1 bt714.2.1 bt714.2.2).bind fun t721=>(if 0 ≤ t721 then (if t721 < (x4.length:Int) then (impl_SolutionsBySize.l0 k (x4.set (t721:Int).toNat (wrap64 ((rd x4 t721) + 1))) (wrap64 (x27 + 1)) x709000 x709001 x709002 x709003 x709004) else (none)) else (none))) else (impl_SolutionsBySize.l0 k x4 (wrap64 (x27 + 1)) x709000 x709001 x709002 x709003 x709004)))) else (some (x4,true)))
def impl_SolutionsBySize.f (k:Nat) (a0_0:Int) (a0_1:Int) (l0_2:List (S88)) (l0_3:List Int) (l0_4:List Int):Option (List Int × Bool):=(impl_IsChallenge.f k a0_0 a0_1 l0_2 l0_3 l0_4).bind fun t709=>(if t709 = true then (if 0 ≤ (wrap64 ((wrap64 (a0_0 * a0_1)) + 1)) then (if (wrap64 ((wrap64 (a0_0 * a0_1)) + 1):Int).toNat ≤ 35184372088832 then (impl_SolutionsBySize.l0 k (List.replicate (wrap64 ((wrap64 (a0_0 * a0_1)) + 1):Int).toNat 0) 0 a0_0 a0_1 l0_2 l0_3 l0_4) else (none)) else (none)) else (some (([]:List Int),false)))
theorem R_okI {k:IntKind} {e:Nat} {w:World} {base:Nat} {ok ok2:Nat→Prop} {v:Value} {xs:List Int} (h:(Kd.int k).R e w base ok v xs) (h2:∀ j,v.ownBlock = some j→ok2 j):(Kd.int k).R e w base ok2 v xs:=⟨h2,h.2.imp_ (fun _ _ hp=>hp)⟩
theorem St_br {b0 W:World} {g t:Nat} {cs:List Value} {D:List (World→Prop)} {α:Type} {d:Kd α} (at_:At d) {e n c:Nat} {A:Option Addr} {xs:List α} {ok:Nat→Prop} (hB:Below b0.heap.size b0 W) (hg:b0.heap.size ≤ g) (h:bxr g t cs W) (ho:d.R e W b0.heap.size ok (.slice A n c) xs) (hne:∀ k,ok k→k ≠ g) (hD:Dok W (fun k=>k = g∨ok k) D):St b0 W (fun k=>k = g∨ok k) D W [box g t cs,row at_ e A n c xs] :=
 ⟨hB,Kept.refl _ _,hD,fun k=>if k = g then 0 else 1,fun i p hi=>by
  match i,hi with
  | 0,hi=>injection hi with hi;subst hi;exact ⟨⟨if_pos rfl,.inl (.inl rfl)⟩,hg,h⟩
  | 1,hi=>injection hi with hi;subst hi;exact Kd.R_mono ho (fun k hk=>⟨if_neg (hne k hk),.inl (.inr hk)⟩)⟩
theorem row_all {b0 w0 w:World} {P:Nat→Prop} {D:List (World→Prop)} {G:List Pc} {α:Type} {d:Kd α} {at_:At d} {e n c:Nat} {A:Option Addr} {xs:List α} (S:St b0 w0 P D w G) (i:Nat) (hi:G[i]? = some (row at_ e A n c xs)):∃ ok:Nat→Prop,d.R e w b0.heap.size ok (.slice A n c) xs∧∀ (j g t:Nat) (cs:List Value),G[j]? = some (box g t cs)→j ≠ i→¬ ok g:=by
 obtain ⟨f,hf⟩:=S.own
 refine ⟨_,hf i _ hi,fun j g t cs hj hn h=>hn ?_⟩
 have h2:=(hf j _ hj).1.1
 exact h2.symm.trans h.1
def sizesStep (k:Nat) (s:List Int) (r c:Int) (xs:List S88):Option (List Int × Bool):=(impl_partsOf.f k r c xs).bind fun t=>if 0 ≤ t then (if t < (s.length:Int) then some (s.set t.toNat (wrap64 (rd s t + 1)),true) else none) else none
theorem sizes_fold (r c:Int) (p:List S88) (e ns:List Int):∀ (k:Nat) (n:Int) (s:List Int) (q1:List Int) (q2:Bool),impl_SolutionsBySize.l0 k s n r c p e ns = some (q1,q2)→solFold sizesStep r c p e ns k n s = some (q1,true)∧q2 = true
 | 0,_,_,_,_,h=>by simp [impl_SolutionsBySize.l0] at h
 | k + 1,n,s,q1,q2,h=>by
  simp only [impl_SolutionsBySize.l0] at h
  simp only [solFold]
  obtain ⟨t,h1,h⟩:=Option.bind_eq_some_iff.mp h
  rw [h1]
  simp only [Option.bind_some]
  split at h
  · rename_i ct
    rw [if_pos ct]
    obtain ⟨b2,h2,h⟩:=Option.bind_eq_some_iff.mp h
    obtain ⟨y,h3,h⟩:=Option.bind_eq_some_iff.mp h
    rw [h2]
    simp only [Option.bind_some]
    rw [h3]
    simp only [Option.bind_some]
    split at h
    · rename_i cy
      rw [if_pos cy]
      obtain ⟨t2,h5,h⟩:=Option.bind_eq_some_iff.mp h
      replace h:=np_ h;obtain ⟨c5,h⟩:=h
      replace h:=np_ h;obtain ⟨c6,h⟩:=h
      unfold sizesStep
      rw [h5]
      simp only [Option.bind_some]
      rw [if_pos c5,if_pos c6]
      simp only [Option.bind_some,if_true]
      exact sizes_fold r c p e ns k _ _ _ _ h
    · rename_i cy
      rw [if_neg cy]
      exact sizes_fold r c p e ns k _ _ _ _ h
  · rename_i ct
    rw [if_neg ct]
    simp only [Option.some.injEq,Prod.mk.injEq] at h
    obtain ⟨rfl,rfl⟩:=h
    exact ⟨rfl,rfl⟩
theorem impl_SolutionsBySize.calls (k:Nat) (a0_0:Int) (a0_1:Int) (A0_2:Option Addr) (c0_2:Nat) (l0_2:List (S88)) (A0_3:Option Addr) (c0_3:Nat) (l0_3:List Int) (A0_4:Option Addr) (c0_4:Nat) (l0_4:List Int) (r1:List Int) (r2:Bool) (w:World) (hr0_2:Kd.C k88 w A0_2 l0_2.length l0_2) (hc0_2:l0_2.length ≤ c0_2) (hr0_3:Kd.C (Kd.int .i64) w A0_3 l0_3.length l0_3) (hc0_3:l0_3.length ≤ c0_3) (hr0_4:Kd.C (Kd.int .i64) w A0_4 l0_4.length l0_4) (hc0_4:l0_4.length ≤ c0_4) (h:impl_SolutionsBySize.f k a0_0 a0_1 l0_2 l0_3 l0_4 = some (r1,r2)) :
  Calls Try.prog 26 #[.agg #[.int .i64 a0_0,.int .i64 a0_1,.slice A0_2 l0_2.length c0_2,.slice A0_3 l0_3.length c0_3,.slice A0_4 l0_4.length c0_4]] w fun e w'=>∃ v0_:Value,e = .returned (.tuple #[v0_,.bool r2])∧Kd.R (Kd.int .i64) 3 w' w.heap.size (fun _=>True) v0_ r1∧Below w.heap.size w w':=by
 unfold impl_SolutionsBySize.f at h
 obtain ⟨t,A2,h⟩:=Option.bind_eq_some_iff.mp h
 have S:=St.init (w:=w) (dc k88_heap at88 hr0_2 hc0_2 (dc (Kd.heap_int .i64) (atI .i64) hr0_3 hc0_3 (dc (Kd.heap_int .i64) (atI .i64) hr0_4 hc0_4 dn)))
 have F:=S.fc
 refine (callsIn_wide (n:=9)).1 ?_
 refine callsIn_of_wp_marks Try.func26 rfl trivial ?_ rfl
 simp only [Try.ntmps26,List.size_toArray,List.length_cons,List.length_nil,Nat.reduceAdd,Nat.reduceSub,Array.replicate_succ,Array.replicate_zero,List.push_toArray,List.append_toArray,List.nil_append,List.cons_append]
 refine wpIn_wide.2 ?_
 by_cases ct:t = true
 case neg =>
  rw [if_neg ct] at h
  replace ct:=cbf ct;subst ct
  simp only [Option.some.injEq,Prod.mk.injEq] at h
  obtain ⟨rfl,rfl⟩:=h
  go_wp2_with (first | ((with_reducible refine gd 1 rfl (L ?_));refine bo 1 (.agg #[_,_,_,_,_]) S ?_;clear S F;intro gb W S;have F:=S.fc) | ((with_reducible refine gate_callee (f:=63) rfl (L ?_));refine cl (some 7) Try.func63 (impl_IsChallenge.calls _ _ _ _ _ _ _ _ _ _ _ _ _ _ S.c S.n S.c S.n S.c S.n A2) (hargs:=by (simp only [ma_,mb_,mc_,F] <;> rfl)) (h:=?_);rintro e W ⟨rfl,hb⟩;refine ⟨_,rfl,?_⟩;replace S:=S.go hb;clear F hb;have F:=S.fc))
  exact ⟨_,results_tmp2 rfl _ _ _,_,rfl,Kd.R_nil _ _ _ _ _,S.below⟩
 subst ct
 rw [if_pos rfl] at h
 obtain ⟨ji,hji⟩:∃ j_:Int,(wrap64 ((wrap64 (a0_0 * a0_1)) + 1)) = j_:=⟨_,rfl⟩
 simp only [hji] at h
 have hjiw:(IntKind.i64.wrap ((wrap64 (a0_0 * a0_1)) + 1)) = ji:=(i64_w _).trans hji
 replace h:=np_ h;obtain ⟨c5,h⟩:=h
 replace h:=np_ h;obtain ⟨c6,h⟩:=h
 obtain ⟨y,hy⟩:∃ y:List Int,y = List.replicate (ji:Int).toNat 0:=⟨_,rfl⟩
 rw [← hy] at h
 have Ny:=Aside0.mk hy;clear hy
 obtain ⟨hf,rfl⟩:=sizes_fold _ _ _ _ _ k _ _ _ _ h
 clear h
 go_wp2_with (first | ((with_reducible refine gd 1 rfl (L ?_));refine bo 1 (.agg #[_,_,_,_,_]) S ?_;clear S F;intro gb W S;have F:=S.fc) | ((with_reducible refine gate_callee (f:=63) rfl (L ?_));refine cl (some 7) Try.func63 (impl_IsChallenge.calls _ _ _ _ _ _ _ _ _ _ _ _ _ _ S.c S.n S.c S.n S.c S.n A2) (hargs:=by (simp only [ma_,mb_,mc_,F] <;> rfl)) (h:=?_);rintro e W ⟨rfl,hb⟩;refine ⟨_,rfl,?_⟩;replace S:=S.go hb;clear F hb;have F:=S.fc) | ((with_reducible refine gd 15 rfl (L ?_));refine mka 15 (atI .i64) S Try.underlying23 info3 ?_;clear S F;intro Ay cy W S;(try rw [← Ny.out] at S ⊢);have F:=S.fc) | ((with_reducible refine gd 4 rfl (L ?_));refine al 4 S zi23 ?_;clear S F;intro gO W S;have F:=S.fc) | ((with_reducible refine gs (t:=23) rfl (L ?_));(first | refine sb (.slice _ _ _) S sz23 ?_ | refine ro (.slice _ _ _) S sz23 ?_ (ho:=rfl) (hx:=rfl) (hy:=rfl));(clear S F;intro W S;have F:=S.fc)) | ((with_reducible refine gate_callee (f:=72) rfl (L ?_));refine cl (some 17) Try.func72 (impl_solutionsOf.calls _ _ _ _ _ _ _ _ _ _ _ W) (hargs:=by (simp only [ma_,mb_,mc_,F] <;> rfl)) (h:=?_);rintro e W2 ⟨gc,rfl,hgc,hge,hb⟩;refine ⟨_,rfl,?_⟩;obtain ⟨okr,hR0,hnr⟩:=row_all S 1 rfl;have hl1:=Kd.R_lt hR0;have hl2:=blk_lt (bx_all S 0 rfl).1;replace S:=S.go hb;clear F hb;have F:=S.fc))
 (try simp only [Act.put,za_,zb_,zc_])
 have hB:=S.below
 have hn:=bx_all S 0 rfl
 have hlt:=blk_lt hn.1
 have hlc:=blk_lt hgc
 have hne:gc ≠ gO:=by omega
 have hsz:=hB.size
 have hbs:=Kd.R_base hR0
 have hno:∀ j,(Value.slice Ay y.length cy).ownBlock = some j→j ≠ gO:=fun j hj e=>hnr 0 gO _ _ rfl (by decide) (e ▸ hR0.1 j hj)
 obtain ⟨okr2,hR1,_⟩:=row_all S 1 rfl
 have hl3:=Kd.R_lt hR1
 obtain ⟨okA,hokA⟩:∃ okA:Nat→Prop,okA = fun j=>(Value.slice Ay y.length cy).ownBlock = some j:=⟨_,rfl⟩
 have hok:∀ j,okA j→j ≠ gO∧w.heap.size ≤ j∧j < W2.heap.size∧j ≠ gc:=fun j hj=>by
  rw [hokA] at hj
  have:=hl1 j hj
  exact ⟨hno j hj,hbs j hj,hl3 j hj,by omega⟩
 have hRA:(Kd.int .i64).R 3 W2 w.heap.size okA (.slice Ay y.length cy) y:=R_okI hR1 (fun j hj=>by rw [hokA];exact hj)
 have hlo:∀ j,okA j→(Value.slice Ay y.length cy).ownBlock = some j:=fun j hj=>by rw [hokA] at hj;exact hj
 have hol:∀ j,(Value.slice Ay y.length cy).ownBlock = some j→okA j:=fun j hj=>by rw [hokA];exact hj
 clear F S hokA
 refine (wpIn_wide (n:=9)).1 ?_
 obtain ⟨I,hI⟩:∃ I:List Int→World→Prop,I = fun s W=>bxr gO 23 [.slice Ay y.length cy] W∧(Kd.int .i64).R 3 W w.heap.size okA (.slice Ay y.length cy) s∧Below w.heap.size w W:=⟨_,rfl⟩
 have hOw:Ow (W2.heap.size + 1) I:=by
  subst hI
  rintro s W W' ⟨h1,h2,h3⟩ hg
  exact ⟨bxr_grown h1 hg (by omega),Kd.R_step h2 (fun j hj hl=>hg.block j hl (by have:=hok j hj;simp;omega)),h3.grown hg h3.size (fun k e=>by cases e;omega)⟩
 refine wpIn_folds (σ:=List Int) (gf:=105) (lb:=#[.pointer (some ⟨gc,0,none⟩)]) (fin:=fun s' go=>(r1,true) = (s',go)) (s0:=y) rfl (by decide) rfl trivial (enters_ Try.func105 (by kernel_rfl) rfl)
  (fun Wl hb hz=>sols_folds sizesStep _ k gc a0_0 a0_1 A0_2 c0_2 l0_2 A0_3 c0_3 l0_3 A0_4 c0_4 l0_4 y (r1,true) (fun j=>(j = gO∨okA j)∨j = W2.heap.size + 1) (W2.heap.size + 2) Wl hz (fun W' hk=>?hq) hc0_2 hc0_3 hc0_4 hf)
  kept_trans (fun W o _=>kept_put _ _ (.inr rfl)) (fun s args W s' go hR=>by obtain ⟨_,_,_,_,_,_,_,rfl,_⟩:=hR;rfl)
  I (fun _ _ _=>False) hOw (fun _ _ _ _ h _=>h)
  (by subst hI;exact ⟨hn.1,hRA,hB⟩)
  (fun s args a' s' go W=>I s W∧∃ gL R C xs A cap kk,sizesStep kk s R C xs = some (s',go)∧gL ≠ gO∧¬ okA gL∧gL ≠ W2.heap.size + 1∧bxr gL 50 [.int .i64 R,.int .i64 C,.slice A xs.length cap] W∧Kd.R k88 88 W (W2.heap.size + 2) (fun j=>W2.heap.size + 2 ≤ j) (.slice A xs.length cap) xs∧a' = { tmps:=#[.agg #[.int .i64 a0_0,.int .i64 a0_1,.slice A0_2 l0_2.length c0_2,.slice A0_3 l0_3.length c0_3,.slice A0_4 l0_4.length c0_4],.pointer (some ⟨gb,0,none⟩),.slice none 0 0,.bool false,.pointer (some ⟨gO,0,none⟩),.pointer (some ⟨gL,0,none⟩),.agg #[.int .i64 a0_0,.int .i64 a0_1,.slice A0_2 l0_2.length c0_2,.slice A0_3 l0_3.length c0_3,.slice A0_4 l0_4.length c0_4],.bool true,.bool false,.pointer (some ⟨gb,0,none⟩),.int .i64 a0_0,.pointer (some ⟨gb,1,none⟩),.int .i64 a0_1,.int .i64 (wrap64 (a0_0 * a0_1)),.int .i64 ji,.slice Ay y.length cy,.agg #[.int .i64 a0_0,.int .i64 a0_1,.slice A0_2 l0_2.length c0_2,.slice A0_3 l0_3.length c0_3,.slice A0_4 l0_4.length c0_4],.func (.func 105) #[] #[.pointer (some ⟨gc,0,none⟩)],.agg #[.int .i64 R,.int .i64 C,.slice A xs.length cap],undef,undef,undef,undef,undef,undef,undef,undef],defers:=[] }) ?hA ?assign ?body ?done ?stop
 case hq =>
  have key:∀ j,j < w.heap.size→W'.heap[j]? = w.heap[j]?:=fun j hj=>(hk.2 j (by have:=hb.size;omega) (fun e=>by
   rcases e with (e | e) | e
   · have:=hn.2;omega
   · have:=hok j e;omega
   · omega)).trans ((hb.block j (by omega)).trans (hB.block j hj))
  exact ⟨(hk.2 gc (by have:=hb.size;omega) (fun e=>by
   rcases e with (e | e) | e
   · exact hne e
   · exact (hok gc e).2.2.2 rfl
   · omega)).trans ((hb.block gc hlc).trans hgc),k88_heap.C key hr0_2,(Kd.heap_int .i64).C key hr0_3,(Kd.heap_int .i64).C key hr0_4⟩
 case hA =>
  rintro s args a' s' go _ W W' ⟨hs,gL,R,C,xs,A,cap,kk,h0,h1,h2,h3,h4,h5,h6⟩ hg
  exact ⟨hOw _ _ _ hs hg,gL,R,C,xs,A,cap,kk,h0,h1,h2,h3,bxr_grown h4 hg h3,Kd.R_step h5 (fun j hj hl=>hg.block j hl (by simp;omega)),h6⟩
 case assign =>
  rintro l s args W s' go K hz hi ⟨kk,R,C,xs,hst,A,cap,rfl,hR⟩ hK
  have S:=St.init (w:=W) dn
  refine reg_in rfl (by rintro ⟨_,_,h⟩;exact h) ?_
  rw [zip1]
  simp only [za_,zb_,zc_]
  go_wp2_with (first | ((with_reducible refine gd 5 rfl (L ?_));refine al 5 S zi50 ?_;clear S;intro gL W S) | ((with_reducible refine gs (t:=50) rfl (L ?_));(first | refine sb (.agg #[_,_,_]) S sz50 ?_ | refine ro (.agg #[_,_,_]) S sz50 ?_ (ho:=rfl) (hx:=rfl) (hy:=rfl));clear S;intro W S))
  have hg:=bx_of S
  refine hK _ _ (keeps_below S.below) (Kept.of_below S.below _) ⟨hOw.below hi S.below,gL,R,C,xs,A,cap,kk,hst,?_,?_,?_,hg.1,Kd.R_mono (Kd.R_bound (Kd.R_below hR S.below)) (fun j hj=>hj.2.1),rfl⟩
  · subst hI;obtain ⟨h1,_⟩:=hi;have:=blk_lt h1;omega
  · intro e;have:=hok gL e;omega
  · omega
 case body =>
  subst hI
  rintro l s args a' W s' go ⟨⟨h1,hRo,hB3⟩,gL,R,C,xs,A,cap,kk,hst,n1,n2,n3,hb,hR,rfl⟩
  obtain ⟨W_,hW_⟩:∃ W_,W_ = W:=⟨W,rfl⟩
  rw [← hW_] at h1 hRo hB3 hb hR ⊢
  clear hW_
  have S:=St_br (atI .i64) hB3 hn.2 h1 hRo (fun k hk=>(hok k hk).1) (dbx hb (fun e=>e.elim n1 n2) (dro at88 hR (fun j hj e=>by
   rcases e with e | e
   · omega
   · have:=hok j e;omega) dn))
  have F:=S.fc
  have hle:=(Kd.R_reads' hRo).1
  unfold sizesStep at hst
  obtain ⟨t,A32,hst⟩:=Option.bind_eq_some_iff.mp hst
  replace hst:=np_ hst;obtain ⟨c1,hst⟩:=hst
  replace hst:=np_ hst;obtain ⟨c2,hst⟩:=hst
  cases hst
  have c3:t < (y.length:Int):=by omega
  clear hle
  refine wpIn_block ?_
  refine rgI S [(1,0),(1,1),(2,2),(0,3),(2,4),(0,5),(0,6),(3,7)] [7] rfl (by rintro ⟨_,_,h⟩;exact h) (by kernel_rfl) (by kernel_rfl) (fun _ d _ _ _ h=>by cases d <;> exact h) ?_
  clear S F;intro W S;have S0:=S;have F:=S.fc
  repeat (first | (refine q0 (h:=?_)) | (refine q1 S0 (h:=?_)) | (refine q0n (h:=?_)) | (refine q1n S0 (h:=?_)) | (refine q2 S0 (h:=?_)))
  refine lk2 (by rfl) (by exact (Eq.refl true)) ?_;refine cl (some 21) Try.func65 (impl_partsOf.calls _ _ _ _ _ _ _ _ S.c S.n A32) (hargs:=by (simp only [ma_,mb_,mc_,F] <;> rfl)) (h:=?_);rintro e W ⟨rfl,hb⟩;refine ⟨_,rfl,?_⟩;replace S:=S.go hb;clear F hb;have F:=S.fc
  clear S0;have S0:=S;refine ⟨S0,?_⟩
  repeat (first | (refine q0 (h:=?_)) | (refine q1 S0 (h:=?_)) | (refine q0n (h:=?_)) | (refine q1n S0 (h:=?_)) | (refine q2 S0 (h:=?_)))
  refine lk3 (by rfl) (by exact (Eq.refl true)) ?_;refine ro (.int _ _) S sz3 ?_ (ho:=rfl) (hx:=rfl) (hy:=rfl);clear S F;intro W S;have F:=S.fc
  refine oz ?_
  obtain ⟨okx,hRx,_⟩:=row_all S 1 rfl
  exact ⟨(by first | rfl | trivial),⟨S.kept.1,fun i o _ ho hc=>(S.kept.2 i (Array.getElem?_eq_some_iff.1 ho).1 (fun e=>by
   rcases e with e | e
   · subst e;rw [show W_.heap[i]? = _ from h1] at ho;cases ho;cases hc
   · obtain ⟨_,_,_,_,_,cells,hc2⟩:=(Kd.R_bound hRo).1 i (hlo i e);rw [hc2] at ho;cases ho;cases hc)).trans ho⟩,S.kept.mono (fun _ h=>.inl h),bx_at S 0 rfl,R_okI hRx hol,S.below⟩
 case done =>
  subst hI
  rintro s' W hs ⟨h1,hRo,hB3⟩ hD
  cases hs
  have hcell:=(blk_cell h1 0).trans rfl
  go_wp2
  refine ⟨by simp,.inl ⟨_,_,rfl,run_takeDeferred hD,?_⟩⟩
  have hg9:=grownBy_putObj' W W2.heap.size (.deferred none)
  exact ⟨_,results_tmp2 rfl _ _ _,_,rfl,Kd.R_mono (Kd.R_step hRo (fun j hj hl=>hg9.block j hl (by have:=hok j hj;simp;omega))) (fun _ _=>trivial),hB3.grown hg9 hB3.size (fun k e=>by cases e;exact hsz)⟩
 case stop=>exact fun c s' W _ h _=>h.elim
end Go.Proofs.Ytipaimgpmgbkiaa.F
