-- Printed by a program; checked here.
import Derived.Test.YtbbhacpahnnlcaaF4
import Derived.Test.YtbbhacpahnnlcaaF0
import Derived.Test.YtbbhacpahnnlcaaF1
import Derived.Test.YtbbhacpahnnlcaaF2
import Derived.Test.YtbbhacpahnnlcaaF3
namespace Go.Proofs.Ytbbhacpahnnlcaa.F
open Go.RowKit Go.Proofs.YtbbhacpahnnlcaaV.PrintWords Go.Proofs.YtbbhacpahnnlcaaV.PrintLast Go.Proofs.YtbbhacpahnnlcaaV.PrintMore Go.Proofs.YtbbhacpahnnlcaaV.Sl
attribute [local go_sem] max2_int min2_int max_two min_two max_three min_three max_four min_four ia_opt it_opt
attribute [local go_sem] Try.underlying23 Try.underlying25 Try.underlying27 Try.underlying35 Try.underlying51
set_option maxHeartbeats 8000000
set_option maxRecDepth 100000
set_option linter.unusedVariables false
set_option linter.unusedSimpArgs false

attribute [local go_sem high] eqA27
/-! ### spec_DrawCellAt: function 19 -/
def spec_DrawCellAt.f (k:Nat) (l0:List Int):Option (Int × Int × (List (S27)) × Int × Int):=(spec_l1Cur_anyBoard.f k l0 0 0).bind fun bt673=>((spec_l1Cur_rowOf.f l0 bt673.2.2.2.1 bt673.2.2.2.2 bt673.1 bt673.2.1 bt673.2.2.1).bind fun bt681=>((spec_l1Cur_columnOf.f l0 bt681.2.1 bt681.2.2 bt673.1 bt673.2.1 bt673.2.2.1).bind fun bt684=>(some (bt673.1,bt673.2.1,bt673.2.2.1,bt681.1,bt684.1))))
theorem spec_DrawCellAt.calls (k:Nat) (A0:Option Addr) (c0:Nat) (l0:List Int) (r1:Int) (r2:Int) (r3:List (S27)) (r4:Int) (r5:Int) (w:World) (hr0:Kd.C (Kd.int .u8) w A0 l0.length l0) (hc0:l0.length ≤ c0) (h:spec_DrawCellAt.f k l0 = some (r1,r2,r3,r4,r5)) :
    Calls Try.prog 19 #[.slice A0 l0.length c0] w fun e w'=>∃ v2_:Value,e = .returned (.tuple #[.agg #[.int .i64 r1,.int .i64 r2,v2_],.int .i64 r4,.int .i64 r5])∧Kd.Q k27 27 w' w.heap.size (fun _=>True) v2_ r3∧Below w.heap.size w w':=by
 have S:=St.init (w:=w) (dc (Kd.heap_int .u8) (atI .u8) hr0 hc0 dn)
 clear hc0
 have F:=S.fc
 have H:=h;clear h;unfold spec_DrawCellAt.f at H
 replace H:=Option.bind_eq_some_iff.mp H;obtain ⟨⟨t673,t674,t675,t678,t679⟩,A2,H⟩:=H;(try dsimp only at H)
 replace H:=Option.bind_eq_some_iff.mp H;obtain ⟨⟨t681,t682,t683⟩,A3,H⟩:=H;(try dsimp only at H)
 replace H:=Option.bind_eq_some_iff.mp H;obtain ⟨⟨t684,t685,t686⟩,A4,H⟩:=H;(try dsimp only at H)
 simp only [Option.some.injEq,Prod.mk.injEq] at H
 obtain ⟨rfl,rfl,rfl,rfl,rfl⟩:=H
 go_enter Try.func19,Try.ntmps19
 go_wp2_with (first | ((with_reducible refine gd 2 rfl (L ?_));refine al 2 S zi25 ?_;clear S F;intro gb671 W S;have F:=S.fc) | ((with_reducible refine gd 9 rfl (L ?_));refine bo 9 (.agg #[_,_,_]) S ?_;clear S F;intro gb672 W S;have F:=S.fc) | ((with_reducible refine gate_callee (f:=26) rfl (L ?_));refine cl (some 11) Try.func26 (spec_l1Cur_anyBoard.calls _ gb672 _ _ _ _ _ _ _ _ _ _ _ _ S.hb (S.hge gb672) hr0 S.below A2) (hargs:=by (simp only [ma_,mb_,mc_,F] <;> rfl)) (h:=?_);rintro e W ⟨v676,rfl,ho0,hi,hb,hk⟩;refine ⟨_,rfl,?_⟩;obtain ⟨W_,hs_,hm_,S⟩:=S.mid gb672 hi hb hk;rw [← hs_] at ho0;replace S:=S.gotq at27 hm_ ho0;obtain ⟨At675,ct675,rfl,S⟩:=S;clear F hi hb hk hs_ hm_ ho0;have F:=S.fc) | ((with_reducible refine gd 6 rfl (L ?_));refine al 6 S zi25 ?_;clear S F;intro gb680 W S;have F:=S.fc) | ((with_reducible refine gs (t:=25) rfl (L ?_));(first | refine sb (.agg #[_,_,_]) S sz25 ?_ | refine ro (.agg #[_,_,_]) S sz25 ?_ (ho:=rfl) (hx:=rfl) (hy:=rfl));(clear S F;intro W S;have F:=S.fc)))
 refine rgP S (fun _ S=>(S.pm [0,1])) [(0,1),(0,4),(1,0),(1,2),(1,5),(2,3),(2,6),(2,7),(0,8),(0,9)] [] (by kernel_rfl) (by kernel_rfl) (fun _ d _ _ _ h=>by cases d <;> exact h) ?_;clear S F;intro W S;have S0:=(S.pm [0,1]);have F:=S.fc
 repeat (first | (refine q0 (h:=?_)) | (refine q1 S0 (h:=?_)) | (refine q0n (h:=?_)) | (refine q1n S0 (h:=?_)))
 refine lk2 (by rfl) (by exact (Eq.refl true)) ?_;refine cl (some 15) Try.func27 (spec_l1Cur_rowOf.calls gb672 _ _ _ _ _ _ _ _ _ _ _ _ _ _ _ S.hb (S.hge gb672) hr0 S.below S.cg S.n A3) (hargs:=by (simp only [ma_,mb_,mc_,F] <;> rfl)) (h:=?_);rintro e W ⟨rfl,hi,hb,hk⟩;refine ⟨_,rfl,?_⟩;obtain ⟨W_,hs_,hm_,S⟩:=S.mid gb672 hi hb hk;replace S:=S.go hm_;clear F hi hb hk hs_ hm_ ;have F:=S.fc
 clear S0;have S0:=(S.pm [0,1]);refine ⟨S0,?_⟩
 refine lk2 (by rfl) (by exact (Eq.refl true)) ?_;refine cl (some 18) Try.func28 (spec_l1Cur_columnOf.calls gb672 _ _ _ _ _ _ _ _ _ _ _ _ _ _ _ S.hb (S.hge gb672) hr0 S.below S.cg S.n A4) (hargs:=by (simp only [ma_,mb_,mc_,F] <;> rfl)) (h:=?_);rintro e W ⟨rfl,hi,hb,hk⟩;refine ⟨_,rfl,?_⟩;obtain ⟨W_,hs_,hm_,S⟩:=S.mid gb672 hi hb hk;replace S:=S.go hm_;clear F hi hb hk hs_ hm_ ;have F:=S.fc
 clear S0;have S0:=(S.pm [0,1]);refine ⟨S0,?_⟩
 refine lk2 (by rfl) (by exact (Eq.refl true)) ?_;(first | refine sb (.agg #[_,_,_]) S sz25 ?_ | refine ro (.agg #[_,_,_]) S sz25 ?_ (ho:=rfl) (hx:=rfl) (hy:=rfl));(clear S F;intro W S;have F:=S.fc)
 clear S0;have S0:=(S.pm [0,1]);refine ⟨S0,?_⟩
 repeat (first | (refine q0 (h:=?_)) | (refine q1 S0 (h:=?_)) | (refine q0n (h:=?_)) | (refine q1n S0 (h:=?_)))
 refine oz ?_
 try clear S0
 go_wp2_with (first | ((with_reducible refine gs (t:=25) rfl (L ?_));(first | refine sb (.agg #[_,_,_]) S sz25 ?_ | refine ro (.agg #[_,_,_]) S sz25 ?_ (ho:=rfl) (hx:=rfl) (hy:=rfl));(clear S F;intro W S;have F:=S.fc)))
 refine bodyPost_ret (results_ctt rfl _ _ gb671 25 #[.int .i64 t673,.int .i64 t674,.slice At675 t675.length ct675] (0,0) _ rfl S.hb Try.underlying25 rfl (by kernel_rfl)) rfl ?_
 exact ⟨_,(by first | rfl | (simp [e0_,e1_] <;> rfl) | (simp [*,e0_,e1_] <;> rfl)),(by first | exact S.q | exact Kd.Q_of_R S.r | exact Kd.Q_nil _ _ _ _ _),S.below⟩

/-! ### impl_CellAt: function 20 -/
def impl_CellAt.f (k:Nat) (a0_0:Int) (a0_1:Int) (l0_2:List (S27)) (a1:Int) (a2:Int):Option (Int × Int × Bool):=(impl_onBoard.f k a0_0 a0_1 l0_2 a1 a2).bind fun t689=>(if t689 = true then (if 0 ≤ (wrap64 ((wrap64 (a1 * a0_1)) + a2)) then (if (wrap64 ((wrap64 (a1 * a0_1)) + a2)) < (l0_2.length:Int) then (some ((rd_T27 l0_2 (wrap64 ((wrap64 (a1 * a0_1)) + a2))).f0,(rd_T27 l0_2 (wrap64 ((wrap64 (a1 * a0_1)) + a2))).f1,true)) else (none)) else (none)) else (some (0,0,false)))
theorem impl_CellAt.calls (k:Nat) (a0_0:Int) (a0_1:Int) (A0_2:Option Addr) (c0_2:Nat) (l0_2:List (S27)) (a1:Int) (a2:Int) (r1:Int) (r2:Int) (r3:Bool) (w:World) (hr0_2:Kd.C k27 w A0_2 l0_2.length l0_2) (hc0_2:l0_2.length ≤ c0_2) (h:impl_CellAt.f k a0_0 a0_1 l0_2 a1 a2 = some (r1,r2,r3)) :
    Calls Try.prog 20 #[.agg #[.int .i64 a0_0,.int .i64 a0_1,.slice A0_2 l0_2.length c0_2],.int .i64 a1,.int .i64 a2] w fun e w'=>e = .returned (.tuple #[.agg #[.int .i64 r1,.int .i64 r2],.bool r3])∧Below w.heap.size w w':=by
 have S:=St.init (w:=w) (dc k27_heap at27 hr0_2 hc0_2 dn)
 clear hr0_2 hc0_2
 have F:=S.fc
 have H:=h;clear h;unfold impl_CellAt.f at H
 replace H:=Option.bind_eq_some_iff.mp H;obtain ⟨t689,A4,H⟩:=H;(try dsimp only at H)
 replace H:=sp_ H;rcases H with ⟨c5,H⟩ | ⟨c5,H⟩
 · skip
   subst c5
   obtain ⟨ji6,hji6⟩:∃ j_:Int,(wrap64 ((wrap64 (a1 * a0_1)) + a2)) = j_:=⟨_,rfl⟩;simp only [hji6] at H
   (try rw [hji6] at A4)
   have hji6w:(IntKind.i64.wrap ((wrap64 (a1 * a0_1)) + a2)) = ji6:=(i64_w _).trans hji6
   replace H:=np_ H;obtain ⟨c7,H⟩:=H
   replace H:=np_ H;obtain ⟨c8,H⟩:=H
   simp only [Option.some.injEq,Prod.mk.injEq] at H
   obtain ⟨rfl,rfl,rfl⟩:=H
   go_enter Try.func20,Try.ntmps20
   go_wp2_with (first | ((with_reducible refine gd 3 rfl (L ?_));refine bo 3 (.agg #[_,_,_]) S ?_;clear S F;intro gb687 W S;have F:=S.fc) | ((with_reducible refine gd 6 rfl (L ?_));refine al 6 S zi27 ?_;clear S F;intro gb688 W S;have F:=S.fc) | ((with_reducible refine gate_callee (f:=30) rfl (L ?_));refine cl (some 11) Try.func30 (impl_onBoard.calls _ _ _ _ _ _ _ _ _ _ S.c S.n A4) (hargs:=by (simp only [ma_,mb_,mc_,F] <;> rfl)) (h:=?_);rintro e W ⟨rfl,hb⟩;refine ⟨_,rfl,?_⟩;replace S:=S.go hb;clear F hb;have F:=S.fc) | ((with_reducible refine gs (t:=27) rfl (L ?_));(first | refine sb (.agg #[_,_]) S sz27 ?_ | refine ro (.agg #[_,_]) S sz27 ?_ (ho:=rfl) (hx:=rfl) (hy:=rfl));(clear S F;intro W S;have F:=S.fc)))
   refine bodyPost_ret (results_ct rfl _ _ gb688 27 #[.int .i64 ((rd_T27 l0_2 (ji6)).f0),.int .i64 ((rd_T27 l0_2 (ji6)).f1)] (0,0) _ rfl S.hb Try.underlying27 rfl (by kernel_rfl)) rfl ?_
   exact ⟨(by first | rfl | (simp [e0_,e1_] <;> rfl) | (simp [*,e0_,e1_] <;> rfl)),S.below⟩
 · skip
   replace c5:=cbf c5;subst c5
   simp only [Option.some.injEq,Prod.mk.injEq] at H
   obtain ⟨rfl,rfl,rfl⟩:=H
   go_enter Try.func20,Try.ntmps20
   go_wp2_with (first | ((with_reducible refine gd 3 rfl (L ?_));refine bo 3 (.agg #[_,_,_]) S ?_;clear S F;intro gb687 W S;have F:=S.fc) | ((with_reducible refine gd 6 rfl (L ?_));refine al 6 S zi27 ?_;clear S F;intro gb688 W S;have F:=S.fc) | ((with_reducible refine gate_callee (f:=30) rfl (L ?_));refine cl (some 11) Try.func30 (impl_onBoard.calls _ _ _ _ _ _ _ _ _ _ S.c S.n A4) (hargs:=by (simp only [ma_,mb_,mc_,F] <;> rfl)) (h:=?_);rintro e W ⟨rfl,hb⟩;refine ⟨_,rfl,?_⟩;replace S:=S.go hb;clear F hb;have F:=S.fc) | ((with_reducible refine gs (t:=27) rfl (L ?_));(first | refine sb (.agg #[_,_]) S sz27 ?_ | refine ro (.agg #[_,_]) S sz27 ?_ (ho:=rfl) (hx:=rfl) (hy:=rfl));(clear S F;intro W S;have F:=S.fc)))
   refine bodyPost_ret (results_ct rfl _ _ gb688 27 #[.int .i64 0,.int .i64 0] (0,0) _ rfl S.hb Try.underlying27 rfl (by kernel_rfl)) rfl ?_
   exact ⟨(by first | rfl | (simp [e0_,e1_] <;> rfl) | (simp [*,e0_,e1_] <;> rfl)),S.below⟩

/-! ### spec_boAt: function 49 -/
def spec_boAt.f (a0_0:Int) (a0_1:Int) (l0_2:List (S27)) (a1:Int) (a2:Int):Option (Int × Int):=if 0 ≤ (wrap64 ((wrap64 (a1 * a0_1)) + a2)) then (if (wrap64 ((wrap64 (a1 * a0_1)) + a2)) < (l0_2.length:Int) then (some ((rd_T27 l0_2 (wrap64 ((wrap64 (a1 * a0_1)) + a2))).f0,(rd_T27 l0_2 (wrap64 ((wrap64 (a1 * a0_1)) + a2))).f1)) else (none)) else (none)
theorem spec_boAt.calls (a0_0:Int) (a0_1:Int) (A0_2:Option Addr) (c0_2:Nat) (l0_2:List (S27)) (a1:Int) (a2:Int) (r1:Int) (r2:Int) (w:World) (hr0_2:Kd.C k27 w A0_2 l0_2.length l0_2) (hc0_2:l0_2.length ≤ c0_2) (h:spec_boAt.f a0_0 a0_1 l0_2 a1 a2 = some (r1,r2)) :
    Calls Try.prog 49 #[.agg #[.int .i64 a0_0,.int .i64 a0_1,.slice A0_2 l0_2.length c0_2],.int .i64 a1,.int .i64 a2] w fun e w'=>e = .returned (.agg #[.int .i64 r1,.int .i64 r2])∧Below w.heap.size w w':=by
 have S:=St.init (w:=w) (dc k27_heap at27 hr0_2 hc0_2 dn)
 clear hr0_2 hc0_2
 have F:=S.fc
 have H:=h;clear h;unfold spec_boAt.f at H
 obtain ⟨ji4,hji4⟩:∃ j_:Int,(wrap64 ((wrap64 (a1 * a0_1)) + a2)) = j_:=⟨_,rfl⟩;simp only [hji4] at H
 have hji4w:(IntKind.i64.wrap ((wrap64 (a1 * a0_1)) + a2)) = ji4:=(i64_w _).trans hji4
 replace H:=np_ H;obtain ⟨c5,H⟩:=H
 replace H:=np_ H;obtain ⟨c6,H⟩:=H
 simp only [Option.some.injEq,Prod.mk.injEq] at H
 obtain ⟨rfl,rfl⟩:=H
 go_enter Try.func49,Try.ntmps49
 go_wp2_with (first | ((with_reducible refine gd 3 rfl (L ?_));refine bo 3 (.agg #[_,_,_]) S ?_;clear S F;intro gb691 W S;have F:=S.fc) | ((with_reducible refine gd 6 rfl (L ?_));refine al 6 S zi27 ?_;clear S F;intro gb692 W S;have F:=S.fc) | ((with_reducible refine gs (t:=27) rfl (L ?_));(first | refine sb (.agg #[_,_]) S sz27 ?_ | refine ro (.agg #[_,_]) S sz27 ?_ (ho:=rfl) (hx:=rfl) (hy:=rfl));(clear S F;intro W S;have F:=S.fc)))
 refine bodyPost_ret (results_cell_row rfl _ _ gb692 27 #[.int .i64 ((rd_T27 l0_2 (ji4)).f0),.int .i64 ((rd_T27 l0_2 (ji4)).f1)] (0,0) _ rfl S.hb Try.underlying27 rfl (by kernel_rfl)) rfl ?_
 exact ⟨(by first | rfl | (simp [e0_,e1_] <;> rfl) | (simp [*,e0_,e1_] <;> rfl)),S.below⟩

/-! ### spec_CellAt: function 21 -/
def spec_CellAt.f (k:Nat) (a0_0:Int) (a0_1:Int) (l0_2:List (S27)) (a1:Int) (a2:Int):Option (Int × Int × Bool):=(spec_boHas.f k a0_0 a0_1 l0_2 a1 a2).bind fun t696=>(if t696 = true then ((spec_boAt.f a0_0 a0_1 l0_2 a1 a2).bind fun bt697=>(some (bt697.1,bt697.2,true))) else (some (0,0,false)))
theorem spec_CellAt.calls (k:Nat) (a0_0:Int) (a0_1:Int) (A0_2:Option Addr) (c0_2:Nat) (l0_2:List (S27)) (a1:Int) (a2:Int) (r1:Int) (r2:Int) (r3:Bool) (w:World) (hr0_2:Kd.C k27 w A0_2 l0_2.length l0_2) (hc0_2:l0_2.length ≤ c0_2) (h:spec_CellAt.f k a0_0 a0_1 l0_2 a1 a2 = some (r1,r2,r3)) :
    Calls Try.prog 21 #[.agg #[.int .i64 a0_0,.int .i64 a0_1,.slice A0_2 l0_2.length c0_2],.int .i64 a1,.int .i64 a2] w fun e w'=>e = .returned (.tuple #[.agg #[.int .i64 r1,.int .i64 r2],.bool r3])∧Below w.heap.size w w':=by
 have S:=St.init (w:=w) (dc k27_heap at27 hr0_2 hc0_2 dn)
 clear hr0_2 hc0_2
 have F:=S.fc
 have H:=h;clear h;unfold spec_CellAt.f at H
 replace H:=Option.bind_eq_some_iff.mp H;obtain ⟨t696,A4,H⟩:=H;(try dsimp only at H)
 replace H:=sp_ H;rcases H with ⟨c5,H⟩ | ⟨c5,H⟩
 · skip
   subst c5
   replace H:=Option.bind_eq_some_iff.mp H;obtain ⟨⟨t697,t698⟩,A6,H⟩:=H;(try dsimp only at H)
   simp only [Option.some.injEq,Prod.mk.injEq] at H
   obtain ⟨rfl,rfl,rfl⟩:=H
   go_enter Try.func21,Try.ntmps21
   go_wp2_with (first | ((with_reducible refine gd 3 rfl (L ?_));refine bo 3 (.agg #[_,_,_]) S ?_;clear S F;intro gb694 W S;have F:=S.fc) | ((with_reducible refine gd 6 rfl (L ?_));refine al 6 S zi27 ?_;clear S F;intro gb695 W S;have F:=S.fc) | ((with_reducible refine gate_callee (f:=33) rfl (L ?_));refine cl (some 11) Try.func33 (spec_boHas.calls _ _ _ _ _ _ _ _ _ _ S.c S.n A4) (hargs:=by (simp only [ma_,mb_,mc_,F] <;> rfl)) (h:=?_);rintro e W ⟨rfl,hb⟩;refine ⟨_,rfl,?_⟩;replace S:=S.go hb;clear F hb;have F:=S.fc) | ((with_reducible refine gate_callee (f:=49) rfl (L ?_));refine cl (some 17) Try.func49 (spec_boAt.calls _ _ _ _ _ _ _ _ _ _ S.c S.n A6) (hargs:=by (simp only [ma_,mb_,mc_,F] <;> rfl)) (h:=?_);rintro e W ⟨rfl,hb⟩;refine ⟨_,rfl,?_⟩;replace S:=S.go hb;clear F hb;have F:=S.fc) | ((with_reducible refine gs (t:=27) rfl (L ?_));(first | refine sb (.agg #[_,_]) S sz27 ?_ | refine ro (.agg #[_,_]) S sz27 ?_ (ho:=rfl) (hx:=rfl) (hy:=rfl));(clear S F;intro W S;have F:=S.fc)))
   refine bodyPost_ret (results_ct rfl _ _ gb695 27 #[.int .i64 t697,.int .i64 t698] (0,0) _ rfl S.hb Try.underlying27 rfl (by kernel_rfl)) rfl ?_
   exact ⟨(by first | rfl | (simp [e0_,e1_] <;> rfl) | (simp [*,e0_,e1_] <;> rfl)),S.below⟩
 · skip
   replace c5:=cbf c5;subst c5
   simp only [Option.some.injEq,Prod.mk.injEq] at H
   obtain ⟨rfl,rfl,rfl⟩:=H
   go_enter Try.func21,Try.ntmps21
   go_wp2_with (first | ((with_reducible refine gd 3 rfl (L ?_));refine bo 3 (.agg #[_,_,_]) S ?_;clear S F;intro gb694 W S;have F:=S.fc) | ((with_reducible refine gd 6 rfl (L ?_));refine al 6 S zi27 ?_;clear S F;intro gb695 W S;have F:=S.fc) | ((with_reducible refine gate_callee (f:=33) rfl (L ?_));refine cl (some 11) Try.func33 (spec_boHas.calls _ _ _ _ _ _ _ _ _ _ S.c S.n A4) (hargs:=by (simp only [ma_,mb_,mc_,F] <;> rfl)) (h:=?_);rintro e W ⟨rfl,hb⟩;refine ⟨_,rfl,?_⟩;replace S:=S.go hb;clear F hb;have F:=S.fc) | ((with_reducible refine gs (t:=27) rfl (L ?_));(first | refine sb (.agg #[_,_]) S sz27 ?_ | refine ro (.agg #[_,_]) S sz27 ?_ (ho:=rfl) (hx:=rfl) (hy:=rfl));(clear S F;intro W S;have F:=S.fc)))
   refine bodyPost_ret (results_ct rfl _ _ gb695 27 #[.int .i64 0,.int .i64 0] (0,0) _ rfl S.hb Try.underlying27 rfl (by kernel_rfl)) rfl ?_
   exact ⟨(by first | rfl | (simp [e0_,e1_] <;> rfl) | (simp [*,e0_,e1_] <;> rfl)),S.below⟩

/-! ### laws_qBoard: function 22 -/
mutual
def laws_qBoard.j0:Nat→Bool→Int→Int→List (S27)→Int→Int→List (S27)→Option (Bool)
  | 0,_,_,_,_,_,_,_=>none
  | k + 1,x26,x700000,x700001,x700002,x701000,x701001,x701002=>if x26 = true then (some false) else (laws_qBoard.l0 k (x700002.length:Int) 0 x700000 x700001 x700002 x701000 x701001 x701002)
def laws_qBoard.l0:Nat→Int→Int→Int→Int→List (S27)→Int→Int→List (S27)→Option (Bool)
  | 0,_,_,_,_,_,_,_,_=>none
  | k + 1,x29,x30,x700000,x700001,x700002,x701000,x701001,x701002=>if x30 < x29 then (if 0 ≤ x30 then (if x30 < (x700002.length:Int) then (if x30 < (x701002.length:Int) then (if (!(((rd_T27 x700002 x30).f0) == ((rd_T27 x701002 x30).f0)) || (!(((rd_T27 x700002 x30).f1) == ((rd_T27 x701002 x30).f1)))) = true then (some false) else (laws_qBoard.l0 k x29 (wrap64 (x30 + 1)) x700000 x700001 x700002 x701000 x701001 x701002)) else (none)) else (none)) else (none)) else (some true)
end
def laws_qBoard.f (k:Nat) (a0_0:Int) (a0_1:Int) (l0_2:List (S27)) (a1_0:Int) (a1_1:Int) (l1_2:List (S27)):Option (Bool):=if a0_0 = a1_0 then (if a0_1 = a1_1 then (laws_qBoard.j0 k ((l0_2.length:Int) != (l1_2.length:Int)) a0_0 a0_1 l0_2 a1_0 a1_1 l1_2) else (laws_qBoard.j0 k true a0_0 a0_1 l0_2 a1_0 a1_1 l1_2)) else (laws_qBoard.j0 k true a0_0 a0_1 l0_2 a1_0 a1_1 l1_2)
theorem laws_qBoard.calls (k:Nat) (a0_0:Int) (a0_1:Int) (A0_2:Option Addr) (c0_2:Nat) (l0_2:List (S27)) (a1_0:Int) (a1_1:Int) (A1_2:Option Addr) (c1_2:Nat) (l1_2:List (S27)) (r:Bool) (w:World) (hr0_2:Kd.C k27 w A0_2 l0_2.length l0_2) (hc0_2:l0_2.length ≤ c0_2) (hr1_2:Kd.C k27 w A1_2 l1_2.length l1_2) (hc1_2:l1_2.length ≤ c1_2) (h:laws_qBoard.f k a0_0 a0_1 l0_2 a1_0 a1_1 l1_2 = some r) :
    Calls Try.prog 22 #[.agg #[.int .i64 a0_0,.int .i64 a0_1,.slice A0_2 l0_2.length c0_2],.agg #[.int .i64 a1_0,.int .i64 a1_1,.slice A1_2 l1_2.length c1_2]] w fun e w'=>e = .returned (.bool r)∧Below w.heap.size w w':=by
 have S:=St.init (w:=w) (dc k27_heap at27 hr0_2 hc0_2 (dc k27_heap at27 hr1_2 hc1_2 dn))
 clear hr0_2 hc0_2 hr1_2 hc1_2
 have F:=S.fc
 have H:=h;clear h;unfold laws_qBoard.f at H
 go_enter Try.func22,Try.ntmps22
 go_upto_region 1 with (first | ((with_reducible refine gd 2 rfl (L ?_));refine bo 2 (.agg #[_,_,_]) S ?_;clear S F;intro gb699 W S;have F:=S.fc) | ((with_reducible refine gd 3 rfl (L ?_));refine bo 3 (.agg #[_,_,_]) S ?_;clear S F;intro gb700 W S;have F:=S.fc))
 try go_upto_region 1 with (first | ((with_reducible refine gd 2 rfl (L ?_));refine bo 2 (.agg #[_,_,_]) S ?_;clear S F;intro gb699 W S;have F:=S.fc) | ((with_reducible refine gd 3 rfl (L ?_));refine bo 3 (.agg #[_,_,_]) S ?_;clear S F;intro gb700 W S;have F:=S.fc) | ((with_reducible refine gd 2 rfl (L ?_));refine bo 2 (.agg #[_,_,_]) S ?_;clear S F;intro gb699 W S;have F:=S.fc) | ((with_reducible refine gd 3 rfl (L ?_));refine bo 3 (.agg #[_,_,_]) S ?_;clear S F;intro gb700 W S;have F:=S.fc) | ((refine rq (id:=6) S [(0,0),(0,2),(0,5),(0,7),(1,1),(0,3),(1,4),(1,6),(0,8),(1,9),(0,10)] [] (h:=?_);clear S F;intro W S;have S0:=S;have F:=S.fc)) | (refine q0 (h:=?_)) | (refine q1 S0 (h:=?_)) | (refine q0n (h:=?_)) | (refine q1n S0 (h:=?_)) | refine oz ?_)
 (try simp only [Act.put,List.setIfInBounds_toArray,List.set_cons_zero,List.set_cons_succ])
 go_cut [26] (fun v26 wc=>∃ (kq:Nat) (x26_2:Bool),v26 = .bool x26_2∧laws_qBoard.j0 kq x26_2 a0_0 a0_1 l0_2 a1_0 a1_1 l1_2 = some r∧kq ≤ k∧St w w (fun _=>False) [bor at27 A0_2 c0_2 l0_2,bor at27 A1_2 c1_2 l1_2] wc  [box gb700 25 [.int .i64 a1_0,.int .i64 a1_1,.slice A1_2 l1_2.length c1_2],box gb699 25 [.int .i64 a0_0,.int .i64 a0_1,.slice A0_2 l0_2.length c0_2]])
 case first =>
  replace H:=sp_ H;rcases H with ⟨c6,H⟩ | ⟨c6,H⟩
  · skip
    replace c6:=ceq c6
    replace H:=sp_ H;rcases H with ⟨c7,H⟩ | ⟨c7,H⟩
    · skip
      replace c7:=ceq c7
      go_wp2
      go_wp2_with (first | ((refine rq (id:=6) S [(0,0),(0,2),(0,5),(0,7),(1,1),(0,3),(1,4),(1,6),(0,8),(1,9),(0,10)] [] (h:=?_);clear S F;intro W S;have S0:=S;have F:=S.fc)) | (refine q0 (h:=?_)) | (refine q1 S0 (h:=?_)) | (refine q0n (h:=?_)) | (refine q1n S0 (h:=?_)) | refine oz ?_)
      go_meet
      case rel=>exact ⟨_,((l0_2.length:Int) != (l1_2.length:Int)),(by first | rfl | (simp;done) | (simp [*];done) | (rw [w6_ (by omega) (by omega)])),H,(by first | omega | exact Nat.le_refl _),S⟩
    · skip
      replace c7:=cne c7
      go_wp2
      go_wp2_with (first | ((refine rq (id:=6) S [(0,0),(0,2),(0,5),(0,7),(1,1),(0,3),(1,4),(1,6),(0,8),(1,9),(0,10)] [] (h:=?_);clear S F;intro W S;have S0:=S;have F:=S.fc)) | (refine q0 (h:=?_)) | (refine q1 S0 (h:=?_)) | (refine q0n (h:=?_)) | (refine q1n S0 (h:=?_)) | refine oz ?_)
      go_meet
      case rel=>exact ⟨_,true,(by first | rfl | (simp;done) | (simp [*];done) | (rw [w6_ (by omega) (by omega)])),H,(by first | omega | exact Nat.le_refl _),S⟩
  · skip
    replace c6:=cne c6
    go_wp2
    go_wp2_with (first | ((refine rq (id:=6) S [(0,0),(0,2),(0,5),(0,7),(1,1),(0,3),(1,4),(1,6),(0,8),(1,9),(0,10)] [] (h:=?_);clear S F;intro W S;have S0:=S;have F:=S.fc)) | (refine q0 (h:=?_)) | (refine q1 S0 (h:=?_)) | (refine q0n (h:=?_)) | (refine q1n S0 (h:=?_)) | refine oz ?_)
    go_meet
    case rel=>exact ⟨_,true,(by first | rfl | (simp;done) | (simp [*];done) | (rw [w6_ (by omega) (by omega)])),H,(by first | omega | exact Nat.le_refl _),S⟩
 case rest =>
  clear H S F
  obtain ⟨kq,x26_2,rfl,HA,HJ2,S⟩:=hcut
  have F:=S.fc
  cases kq with
  | zero=>exact absurd HA (by simp [laws_qBoard.j0])
  | succ kj2 =>
   have H:=HA;clear HA;simp only [laws_qBoard.j0,F] at H
   replace H:=sp_ H;rcases H with ⟨c17,H⟩ | ⟨c17,H⟩
   · skip
     subst c17
     obtain rfl:=Option.some.inj H
     go_wp2
     go_wp2_with (first | ((refine rq (id:=6) S [(0,0),(0,2),(0,5),(0,7),(1,1),(0,3),(1,4),(1,6),(0,8),(1,9),(0,10)] [] (h:=?_);clear S F;intro W S;have S0:=S;have F:=S.fc)) | (refine q0 (h:=?_)) | (refine q1 S0 (h:=?_)) | (refine q0n (h:=?_)) | (refine q1n S0 (h:=?_)) | refine oz ?_)
     go_ret
     exact ⟨(by first | rfl | (simp [e0_,e1_] <;> rfl) | (simp [*,e0_,e1_] <;> rfl)),S.below⟩
   · skip
     replace c17:=cbf c17;subst c17
     go_wp2
     go_wp2_with (first | ((refine rq (id:=6) S [(0,0),(0,2),(0,5),(0,7),(1,1),(0,3),(1,4),(1,6),(0,8),(1,9),(0,10)] [] (h:=?_);clear S F;intro W S;have S0:=S;have F:=S.fc)) | (refine q0 (h:=?_)) | (refine q1 S0 (h:=?_)) | (refine q0n (h:=?_)) | (refine q1n S0 (h:=?_)) | refine oz ?_)
     go_loopg [30] kj2 (fun kq v30 w'=>∃ (x30_2:Int),v30 = .int .i64 x30_2∧laws_qBoard.l0 kq (l0_2.length:Int) x30_2 a0_0 a0_1 l0_2 a1_0 a1_1 l1_2 = some r∧kq ≤ kj2∧St w w (fun _=>False) [bor at27 A0_2 c0_2 l0_2,bor at27 A1_2 c1_2 l1_2] w'  [box gb700 25 [.int .i64 a1_0,.int .i64 a1_1,.slice A1_2 l1_2.length c1_2],box gb699 25 [.int .i64 a0_0,.int .i64 a0_1,.slice A0_2 l0_2.length c0_2]])
     case atStart=>exact ⟨0,(by first | rfl | (simp;done) | (simp [*];done) | (rw [w6_ (by omega) (by omega)])),H,Nat.le_refl _,S⟩
     case round =>
      clear H S F
      obtain ⟨x30_2,rfl,HA,HK2,S⟩:=hrel
      have F:=S.fc
      cases gk with
      | zero=>exact absurd HA (by simp [laws_qBoard.l0])
      | succ k2 =>
       have H:=HA;clear HA;simp only [laws_qBoard.l0,F] at H
       replace H:=sp_ H;rcases H with ⟨c20,H⟩ | ⟨c20,H⟩
       · skip
         replace H:=np_ H;obtain ⟨c21,H⟩:=H
         replace H:=np_ H;obtain ⟨c22,H⟩:=H
         replace H:=np_ H;obtain ⟨c23,H⟩:=H
         replace H:=sp_ H;rcases H with ⟨c24,H⟩ | ⟨c24,H⟩
         · skip
           have c24n:=c24;(try simp at c24n)
           obtain rfl:=Option.some.inj H
           go_wp2
           go_wp2_with (first | ((refine rq (id:=6) S [(0,0),(0,2),(0,5),(0,7),(1,1),(0,3),(1,4),(1,6),(0,8),(1,9),(0,10)] [] (h:=?_);clear S F;intro W S;have S0:=S;have F:=S.fc)) | (refine q0 (h:=?_)) | (refine q1 S0 (h:=?_)) | (refine q0n (h:=?_)) | (refine q1n S0 (h:=?_)) | (refine oz ?_;(try rw [c24])))
           go_ret
           exact ⟨(by first | rfl | (simp [e0_,e1_] <;> rfl) | (simp [*,e0_,e1_] <;> rfl)),S.below⟩
         · skip
           try replace c24:=cbf c24
           have c24n:=c24;(try simp at c24n)
           go_wp2
           go_wp2_with (first | ((refine rq (id:=6) S [(0,0),(0,2),(0,5),(0,7),(1,1),(0,3),(1,4),(1,6),(0,8),(1,9),(0,10)] [] (h:=?_);clear S F;intro W S;have S0:=S;have F:=S.fc)) | (refine q0 (h:=?_)) | (refine q1 S0 (h:=?_)) | (refine q0n (h:=?_)) | (refine q1n S0 (h:=?_)) | (refine oz ?_;(try rw [c24])))
           go_roundg k2
           case measure=>omega
           case rel=>exact ⟨(wrap64 (x30_2 + 1)),(by first | rfl | (simp;done) | (simp [*];done) | (rw [w6_ (by omega) (by omega)])),H,(by first | omega | exact Nat.le_refl _),S⟩
       · skip
         obtain rfl:=Option.some.inj H
         go_wp2
         go_wp2_with (first | ((refine rq (id:=6) S [(0,0),(0,2),(0,5),(0,7),(1,1),(0,3),(1,4),(1,6),(0,8),(1,9),(0,10)] [] (h:=?_);clear S F;intro W S;have S0:=S;have F:=S.fc)) | (refine q0 (h:=?_)) | (refine q1 S0 (h:=?_)) | (refine q0n (h:=?_)) | (refine q1n S0 (h:=?_)) | (refine oz ?_;(try rw [c24])))
         go_ret
         exact ⟨(by first | rfl | (simp [e0_,e1_] <;> rfl) | (simp [*,e0_,e1_] <;> rfl)),S.below⟩

/-! ### laws_qInts: function 23 -/
def laws_qInts.l0:Nat→List Int→List Int→Int→Int→Option (Bool)
 | 0,_,_,_,_=>none
 | k + 1,x0,x1,x12,x13=>if x13 < x12 then (if 0 ≤ x13 then (if x13 < (x0.length:Int) then (if x13 < (x1.length:Int) then (if (rd x0 x13) = (rd x1 x13) then (laws_qInts.l0 k x0 x1 x12 (wrap64 (x13 + 1))) else (some false)) else (none)) else (none)) else (none)) else (some true)
def laws_qInts.f (k:Nat) (l0:List Int) (l1:List Int):Option (Bool):=if (l0.length:Int) = (l1.length:Int) then (laws_qInts.l0 k l0 l1 (l0.length:Int) 0) else (some false)
theorem laws_qInts.calls (k:Nat) (A0:Option Addr) (c0:Nat) (l0:List Int) (A1:Option Addr) (c1:Nat) (l1:List Int) (r:Bool) (w:World) (hr0:Kd.C (Kd.int .i64) w A0 l0.length l0) (hc0:l0.length ≤ c0) (hr1:Kd.C (Kd.int .i64) w A1 l1.length l1) (hc1:l1.length ≤ c1) (h:laws_qInts.f k l0 l1 = some r) :
  Calls Try.prog 23 #[.slice A0 l0.length c0,.slice A1 l1.length c1] w fun e w'=>e = .returned (.bool r)∧Drawn0 w w':=by
 have HR0:=Aside0.mk hr0;have HC0:=Aside0.mk hc0;clear hr0 hc0;have HR1:=Aside0.mk hr1;have HC1:=Aside0.mk hc1;clear hr1 hc1;have H:(if (l0.length:Int) = (l1.length:Int) then (laws_qInts.l0 k l0 l1 (l0.length:Int) 0) else (some false)) = some r:=h;clear h;by_cases c3:(l0.length:Int) = (l1.length:Int)
 ·rw [if_pos c3] at H;have c3b0:((l0.length:Int) == (l1.length:Int)) = true:=beq_iff_eq.mpr c3;have c3b1:((l0.length:Int) != (l1.length:Int)) = false:=bne_eq_false_iff_eq.mpr c3;have c3b2:(l0.length == l1.length) = true:=by first | simpa using c3 | (simp at c3 ⊢;omega)
  clear c3;have H':=Aside0.mk H;clear H;go_enter Try.func23,Try.ntmps23;go_wp2;repeat (go_quiet (fail);try go_wp2)
  go_loopg [13] k (fun kq v13 w'=>∃ (x13_1:Int),v13 = .int .i64 x13_1∧Aside0 (laws_qInts.l0 kq l0 l1 (l0.length:Int) x13_1 = some r)∧Aside0 (kq ≤ k)∧Drawn0 w w')
  case atStart=>exact ⟨(0),(by first | rfl | (simp;done) | (simp [*];done)),H',⟨Nat.le_refl _⟩,by repeat (first | exact Drawn0.refl _ | apply Drawn0.step)⟩
  case round =>
   clear H';(try clear c1);(try clear c2);(try clear p2);(try clear c3);(try clear c3b0);(try clear c3b1);(try clear c3b2);obtain ⟨x13_1,rfl,HA,HK1,⟨m1,rfl⟩⟩:=hrel;cases gk with
   | zero=>exact absurd HA.out (by simp [laws_qInts.l0])
   | succ k1 =>
    have H:=HA.out;clear HA;simp only [laws_qInts.l0] at H;by_cases c4:x13_1 < (l0.length:Int)
    ·rw [if_pos c4] at H;have c4b0:decide (x13_1 < (l0.length:Int)) = true:=decide_eq_true c4;clear c4;replace H:=np_ H;obtain ⟨c5,H⟩:=H;have c5b0:decide (0 ≤ x13_1) = true:=decide_eq_true c5;clear c5;replace H:=np_ H;obtain ⟨c6,H⟩:=H;have c6b0:decide (x13_1 < (l0.length:Int)) = true:=decide_eq_true c6;clear c6;replace H:=np_ H;obtain ⟨c7,H⟩:=H;have c7b0:decide (x13_1 < (l1.length:Int)) = true:=decide_eq_true c7;clear c7;by_cases c8:(rd l0 x13_1) = (rd l1 x13_1)
     ·rw [if_pos c8] at H;have c8b0:((rd l0 x13_1) == (rd l1 x13_1)) = true:=beq_iff_eq.mpr c8;have c8b1:((rd l0 x13_1) != (rd l1 x13_1)) = false:=bne_eq_false_iff_eq.mpr c8;clear c8;have H':=Aside0.mk H;clear H;have p703:0 ≤ (x13_1:Int):=of_decide_eq_true (by first | (with_reducible assumption) | assumption);have q703:x13_1 < (l0.length:Int):=of_decide_eq_true (by first | (with_reducible assumption) | assumption);obtain ⟨ad703,e703,hx703_0⟩:=Kd.at_int HR0.out x13_1 p703 q703;cases e703;replace p703:=eq_true p703;replace q703:=eq_true q703;have p704:0 ≤ (x13_1:Int):=of_decide_eq_true (by first | (with_reducible assumption) | assumption);have q704:x13_1 < (l1.length:Int):=of_decide_eq_true (by first | (with_reducible assumption) | assumption);obtain ⟨ad704,e704,hx704_0⟩:=Kd.at_int HR1.out x13_1 p704 q704;cases e704;replace p704:=eq_true p704;replace q704:=eq_true q704;go_wp2;repeat (go_quiet (fail);try go_wp2)
      go_roundg k1
      case measure=>have:=HK1.out;omega
      case rel=>exact ⟨(wrap64 (x13_1 + 1)),(by first | rfl | (simp;done) | (simp [*];done)),H',⟨by have:=HK1.out;omega⟩,by repeat (first | exact Drawn0.refl _ | apply Drawn0.step)⟩
     ·rw [if_neg c8] at H;have c8b0:((rd l0 x13_1) == (rd l1 x13_1)) = false:=beq_eq_false_iff_ne.mpr c8;have c8b1:((rd l0 x13_1) != (rd l1 x13_1)) = true:=bne_iff_ne.mpr c8;obtain rfl:=Option.some.inj H;have p703:0 ≤ (x13_1:Int):=of_decide_eq_true (by first | (with_reducible assumption) | assumption);have q703:x13_1 < (l0.length:Int):=of_decide_eq_true (by first | (with_reducible assumption) | assumption);obtain ⟨ad703,e703,hx703_0⟩:=Kd.at_int HR0.out x13_1 p703 q703;cases e703;replace p703:=eq_true p703;replace q703:=eq_true q703;have p704:0 ≤ (x13_1:Int):=of_decide_eq_true (by first | (with_reducible assumption) | assumption);have q704:x13_1 < (l1.length:Int):=of_decide_eq_true (by first | (with_reducible assumption) | assumption);obtain ⟨ad704,e704,hx704_0⟩:=Kd.at_int HR1.out x13_1 p704 q704;cases e704;replace p704:=eq_true p704;replace q704:=eq_true q704;go_wp2;repeat (go_quiet (fail);try go_wp2)
      go_ret;exact ⟨by first | rfl | (simp;done) | (simp [*];done),by repeat (first | exact Drawn0.refl _ | apply Drawn0.step)⟩
    ·rw [if_neg c4] at H;have c4b0:decide (x13_1 < (l0.length:Int)) = false:=decide_eq_false c4;clear c4;obtain rfl:=Option.some.inj H;go_wp2;repeat (go_quiet (fail);try go_wp2)
     go_ret;exact ⟨by first | rfl | (simp;done) | (simp [*];done),by repeat (first | exact Drawn0.refl _ | apply Drawn0.step)⟩
 ·rw [if_neg c3] at H;have c3b0:((l0.length:Int) == (l1.length:Int)) = false:=beq_eq_false_iff_ne.mpr c3;have c3b1:((l0.length:Int) != (l1.length:Int)) = true:=bne_iff_ne.mpr c3;have c3b2:(l0.length == l1.length) = false:=by first | simpa using c3 | (simp at c3 ⊢;omega)
  obtain rfl:=Option.some.inj H;go_enter Try.func23,Try.ntmps23;go_wp2;repeat (go_quiet (fail);try go_wp2)
  go_ret;exact ⟨by first | rfl | (simp;done) | (simp [*];done),by repeat (first | exact Drawn0.refl _ | apply Drawn0.step)⟩

/-! ### laws_qHas: function 24 -/
def laws_qHas.l0:Nat→Int→List Int→Int→Int→Option (Bool)
 | 0,_,_,_,_=>none
 | k + 1,x1,x7,x8,x9=>if x9 < x8 then (if 0 ≤ x9 then (if x9 < (x7.length:Int) then (if (rd x7 x9) = x1 then (some true) else (laws_qHas.l0 k x1 x7 x8 (wrap64 (x9 + 1)))) else (none)) else (none)) else (some false)
def laws_qHas.f (k:Nat) (l0:List Int) (a1:Int):Option (Bool):=laws_qHas.l0 k a1 l0 (l0.length:Int) 0
theorem laws_qHas.calls (k:Nat) (A0:Option Addr) (c0:Nat) (l0:List Int) (a1:Int) (r:Bool) (w:World) (hr0:Kd.C (Kd.int .i64) w A0 l0.length l0) (hc0:l0.length ≤ c0) (h:laws_qHas.f k l0 a1 = some r) :
  Calls Try.prog 24 #[.slice A0 l0.length c0,.int .i64 a1] w fun e w'=>e = .returned (.bool r)∧Drawn0 w w':=by
 have HR0:=Aside0.mk hr0;have HC0:=Aside0.mk hc0;clear hr0 hc0;have H:(laws_qHas.l0 k a1 l0 (l0.length:Int) 0) = some r:=h;clear h;have H':=Aside0.mk H;clear H;go_enter Try.func24,Try.ntmps24;go_wp2;go_loopg [9] k (fun kq v9 w'=>∃ (x9_1:Int),v9 = .int .i64 x9_1∧Aside0 (laws_qHas.l0 kq a1 l0 (l0.length:Int) x9_1 = some r)∧Aside0 (kq ≤ k)∧Drawn0 w w')
 case atStart=>exact ⟨(0),(by first | rfl | (simp;done) | (simp [*];done)),H',⟨Nat.le_refl _⟩,by repeat (first | exact Drawn0.refl _ | apply Drawn0.step)⟩
 case round =>
  clear H';(try clear c2);(try clear p2);obtain ⟨x9_1,rfl,HA,HK1,⟨m1,rfl⟩⟩:=hrel;cases gk with
  | zero=>exact absurd HA.out (by simp [laws_qHas.l0])
  | succ k1 =>
   have H:=HA.out;clear HA;simp only [laws_qHas.l0] at H;by_cases c3:x9_1 < (l0.length:Int)
   ·rw [if_pos c3] at H;have c3b0:decide (x9_1 < (l0.length:Int)) = true:=decide_eq_true c3;clear c3;replace H:=np_ H;obtain ⟨c4,H⟩:=H;have c4b0:decide (0 ≤ x9_1) = true:=decide_eq_true c4;clear c4;replace H:=np_ H;obtain ⟨c5,H⟩:=H;have c5b0:decide (x9_1 < (l0.length:Int)) = true:=decide_eq_true c5;clear c5;by_cases c6:(rd l0 x9_1) = a1
    ·rw [if_pos c6] at H;have c6b0:((rd l0 x9_1) == a1) = true:=beq_iff_eq.mpr c6;have c6b1:((rd l0 x9_1) != a1) = false:=bne_eq_false_iff_eq.mpr c6;clear c6;obtain rfl:=Option.some.inj H;have p705:0 ≤ (x9_1:Int):=of_decide_eq_true (by first | (with_reducible assumption) | assumption);have q705:x9_1 < (l0.length:Int):=of_decide_eq_true (by first | (with_reducible assumption) | assumption);obtain ⟨ad705,e705,hx705_0⟩:=Kd.at_int HR0.out x9_1 p705 q705;cases e705;replace p705:=eq_true p705;replace q705:=eq_true q705;go_wp2;go_ret;exact ⟨by first | rfl | (simp;done) | (simp [*];done),by repeat (first | exact Drawn0.refl _ | apply Drawn0.step)⟩
    ·rw [if_neg c6] at H;have c6b0:((rd l0 x9_1) == a1) = false:=beq_eq_false_iff_ne.mpr c6;have c6b1:((rd l0 x9_1) != a1) = true:=bne_iff_ne.mpr c6;have H':=Aside0.mk H;clear H;have p705:0 ≤ (x9_1:Int):=of_decide_eq_true (by first | (with_reducible assumption) | assumption);have q705:x9_1 < (l0.length:Int):=of_decide_eq_true (by first | (with_reducible assumption) | assumption);obtain ⟨ad705,e705,hx705_0⟩:=Kd.at_int HR0.out x9_1 p705 q705;cases e705;replace p705:=eq_true p705;replace q705:=eq_true q705;go_wp2;go_roundg k1
     case measure=>have:=HK1.out;omega
     case rel=>exact ⟨(wrap64 (x9_1 + 1)),(by first | rfl | (simp;done) | (simp [*];done)),H',⟨by have:=HK1.out;omega⟩,by repeat (first | exact Drawn0.refl _ | apply Drawn0.step)⟩
   ·rw [if_neg c3] at H;have c3b0:decide (x9_1 < (l0.length:Int)) = false:=decide_eq_false c3;clear c3;obtain rfl:=Option.some.inj H;go_wp2;go_ret;exact ⟨by first | rfl | (simp;done) | (simp [*];done),by repeat (first | exact Drawn0.refl _ | apply Drawn0.step)⟩
/-! ### laws_FnBoardParts: function 3 -/
mutual
def laws_FnBoardParts.j0:Nat→Int→Int→Bool→Bool→Bool→Bool→List Int→Int→Int→Bool→Bool→Int→Int→List (S27)→Int→Int→Int→Int→List (S27)→Int→Int→List (S27)→Int→Int→List (S27)→Int→Int→List (S27)→Int→Int→List (S27)→Int→Int→List (S27)→Int→Int→List (S27)→Int→Int→List (S27)→Int→Int→List (S27)→Int→Int→List (S27)→Int→Int→List (S27)→Int→Int→List (S27)→Option (Bool)
  | 0,_,_,_,_,_,_,_,_,_,_,_,_,_,_,_,_,_,_,_,_,_,_,_,_,_,_,_,_,_,_,_,_,_,_,_,_,_,_,_,_,_,_,_,_,_,_,_,_,_,_,_,_=>none
  | k + 1,x6,x7,x10,x16,x22,x28,x29,x32,x33,x35,x241,x716000,x716001,x716002,x717000,x717001,x724000,x724001,x724002,x731000,x731001,x731002,x742000,x742001,x742002,x743000,x743001,x743002,x750000,x750001,x750002,x768000,x768001,x768002,x769000,x769001,x769002,x783000,x783001,x783002,x794000,x794001,x794002,x795000,x795001,x795002,x811000,x811001,x811002,x825000,x825001,x825002=>if x241 = true then (some false) else (if x28 = true then (laws_FnBoardParts.l0 k x6 x7 x10 x16 x22 x29 x32 x33 x35 (x794002.length:Int) 0 x716000 x716001 x716002 x717000 x717001 x724000 x724001 x724002 x731000 x731001 x731002 x742000 x742001 x742002 x743000 x743001 x743002 x750000 x750001 x750002 x768000 x768001 x768002 x769000 x769001 x769002 x783000 x783001 x783002 x794000 x794001 x794002 x795000 x795001 x795002 x811000 x811001 x811002 x825000 x825001 x825002) else (laws_FnBoardParts.j2 k x6 x7 x10 x16 x22 x32 x33 x35 x716000 x716001 x716002 x717000 x717001 x724000 x724001 x724002 x731000 x731001 x731002 x742000 x742001 x742002 x743000 x743001 x743002 x750000 x750001 x750002 x768000 x768001 x768002 x769000 x769001 x769002 x783000 x783001 x783002 x811000 x811001 x811002 x825000 x825001 x825002))
def laws_FnBoardParts.j2:Nat→Int→Int→Bool→Bool→Bool→Int→Int→Bool→Int→Int→List (S27)→Int→Int→Int→Int→List (S27)→Int→Int→List (S27)→Int→Int→List (S27)→Int→Int→List (S27)→Int→Int→List (S27)→Int→Int→List (S27)→Int→Int→List (S27)→Int→Int→List (S27)→Int→Int→List (S27)→Int→Int→List (S27)→Option (Bool)
  | 0,_,_,_,_,_,_,_,_,_,_,_,_,_,_,_,_,_,_,_,_,_,_,_,_,_,_,_,_,_,_,_,_,_,_,_,_,_,_,_,_,_,_,_=>none
  | k + 1,x6,x7,x10,x16,x22,x32,x33,x35,x716000,x716001,x716002,x717000,x717001,x724000,x724001,x724002,x731000,x731001,x731002,x742000,x742001,x742002,x743000,x743001,x743002,x750000,x750001,x750002,x768000,x768001,x768002,x769000,x769001,x769002,x783000,x783001,x783002,x811000,x811001,x811002,x825000,x825001,x825002=>if x16 = true then ((impl_CutRows.f k x750000 x750001 x750002 0 x742000).bind fun bt849=>((impl_CutRows.f k x750000 x750001 x750002 x742000 (wrap64 (x742000 + x743000))).bind fun bt856=>(if bt849.2.2.2 = true then ((laws_qBoard.f k bt849.1 bt849.2.1 bt849.2.2.1 x742000 x742001 x742002).bind fun t863=>(if t863 = true then (if bt856.2.2.2 = true then ((laws_qBoard.f k bt856.1 bt856.2.1 bt856.2.2.1 x743000 x743001 x743002).bind fun t864=>(if t864 = true then ((impl_IsBoard.f k x750000 x750001 x750002).bind fun t865=>(if t865 = true then (laws_FnBoardParts.j3 k x6 x7 x10 x22 x32 x33 x35 x716000 x716001 x716002 x717000 x717001 x724000 x724001 x724002 x731000 x731001 x731002 x768000 x768001 x768002 x769000 x769001 x769002 x783000 x783001 x783002 x811000 x811001 x811002 x825000 x825001 x825002) else (some false))) else (some false))) else (some false)) else (some false))) else (some false)))) else (laws_FnBoardParts.j3 k x6 x7 x10 x22 x32 x33 x35 x716000 x716001 x716002 x717000 x717001 x724000 x724001 x724002 x731000 x731001 x731002 x768000 x768001 x768002 x769000 x769001 x769002 x783000 x783001 x783002 x811000 x811001 x811002 x825000 x825001 x825002)
def laws_FnBoardParts.j3:Nat→Int→Int→Bool→Bool→Int→Int→Bool→Int→Int→List (S27)→Int→Int→Int→Int→List (S27)→Int→Int→List (S27)→Int→Int→List (S27)→Int→Int→List (S27)→Int→Int→List (S27)→Int→Int→List (S27)→Int→Int→List (S27)→Option (Bool)
  | 0,_,_,_,_,_,_,_,_,_,_,_,_,_,_,_,_,_,_,_,_,_,_,_,_,_,_,_,_,_,_,_,_,_=>none
  | k + 1,x6,x7,x10,x22,x32,x33,x35,x716000,x716001,x716002,x717000,x717001,x724000,x724001,x724002,x731000,x731001,x731002,x768000,x768001,x768002,x769000,x769001,x769002,x783000,x783001,x783002,x811000,x811001,x811002,x825000,x825001,x825002=>if x22 = true then (laws_FnBoardParts.l1 k x6 x7 x10 x32 x33 x35 0 x716000 x716001 x716002 x717000 x717001 x724000 x724001 x724002 x731000 x731001 x731002 x768000 x768001 x768002 x769000 x769001 x769002 x783000 x783001 x783002 x811000 x811001 x811002 x825000 x825001 x825002) else (laws_FnBoardParts.j6 k x6 x7 x10 x32 x33 x35 x716000 x716001 x716002 x717000 x717001 x724000 x724001 x724002 x731000 x731001 x731002 x811000 x811001 x811002 x825000 x825001 x825002)
def laws_FnBoardParts.j6:Nat→Int→Int→Bool→Int→Int→Bool→Int→Int→List (S27)→Int→Int→Int→Int→List (S27)→Int→Int→List (S27)→Int→Int→List (S27)→Int→Int→List (S27)→Option (Bool)
  | 0,_,_,_,_,_,_,_,_,_,_,_,_,_,_,_,_,_,_,_,_,_,_,_=>none
  | k + 1,x6,x7,x10,x32,x33,x35,x716000,x716001,x716002,x717000,x717001,x724000,x724001,x724002,x731000,x731001,x731002,x811000,x811001,x811002,x825000,x825001,x825002=>if x35 = true then (if x825000 = (wrap64 (x33 - x32)) then (laws_FnBoardParts.j7 k x6 x7 x10 (x825001 != x811001) x716000 x716001 x716002 x717000 x717001 x724000 x724001 x724002 x731000 x731001 x731002) else (laws_FnBoardParts.j7 k x6 x7 x10 true x716000 x716001 x716002 x717000 x717001 x724000 x724001 x724002 x731000 x731001 x731002)) else (laws_FnBoardParts.j7 k x6 x7 x10 false x716000 x716001 x716002 x717000 x717001 x724000 x724001 x724002 x731000 x731001 x731002)
def laws_FnBoardParts.j7:Nat→Int→Int→Bool→Bool→Int→Int→List (S27)→Int→Int→Int→Int→List (S27)→Int→Int→List (S27)→Option (Bool)
  | 0,_,_,_,_,_,_,_,_,_,_,_,_,_,_,_=>none
  | k + 1,x6,x7,x10,x390,x716000,x716001,x716002,x717000,x717001,x724000,x724001,x724002,x731000,x731001,x731002=>if x390 = true then (some false) else (if x10 = true then ((impl_CellAt.f k x724000 x724001 x724002 x6 x7).bind fun bt871=>((impl_DifferentCells.f k x716000 x716001 x716002 x724000 x724001 x724002).bind fun bt875=>((spec_DifferentCells.f k x716000 x716001 x716002 x731000 x731001 x731002).bind fun bt879=>(if bt871.2.2 = true then (if (!(bt871.1 == x717000) || (!(bt871.2.1 == x717001))) = true then (some false) else (if bt875.2 = true then (if bt879.2 = true then ((laws_qInts.f k bt875.1 bt879.1).bind fun t883=>(if t883 = true then (if (bt879.1.length:Int) > 1 then (some false) else (if (bt879.1.length:Int) = 0 then (some true) else (if 0 < (bt879.1.length:Int) then (some ((rd bt879.1 0) == (wrap64 ((wrap64 (x6 * x716001)) + x7)))) else (none)))) else (some false))) else (some false)) else (some false))) else (some false))))) else (some true))
def laws_FnBoardParts.l1:Nat→Int→Int→Bool→Int→Int→Bool→Int→Int→Int→List (S27)→Int→Int→Int→Int→List (S27)→Int→Int→List (S27)→Int→Int→List (S27)→Int→Int→List (S27)→Int→Int→List (S27)→Int→Int→List (S27)→Int→Int→List (S27)→Option (Bool)
  | 0,_,_,_,_,_,_,_,_,_,_,_,_,_,_,_,_,_,_,_,_,_,_,_,_,_,_,_,_,_,_,_,_,_=>none
  | k + 1,x6,x7,x10,x32,x33,x35,x50,x716000,x716001,x716002,x717000,x717001,x724000,x724001,x724002,x731000,x731001,x731002,x768000,x768001,x768002,x769000,x769001,x769002,x783000,x783001,x783002,x811000,x811001,x811002,x825000,x825001,x825002=>if x50 < x768000 then (laws_FnBoardParts.l2 k x6 x7 x10 x32 x33 x35 x50 0 x716000 x716001 x716002 x717000 x717001 x724000 x724001 x724002 x731000 x731001 x731002 x768000 x768001 x768002 x769000 x769001 x769002 x783000 x783001 x783002 x811000 x811001 x811002 x825000 x825001 x825002) else (laws_FnBoardParts.j6 k x6 x7 x10 x32 x33 x35 x716000 x716001 x716002 x717000 x717001 x724000 x724001 x724002 x731000 x731001 x731002 x811000 x811001 x811002 x825000 x825001 x825002)
def laws_FnBoardParts.l2:Nat→Int→Int→Bool→Int→Int→Bool→Int→Int→Int→Int→List (S27)→Int→Int→Int→Int→List (S27)→Int→Int→List (S27)→Int→Int→List (S27)→Int→Int→List (S27)→Int→Int→List (S27)→Int→Int→List (S27)→Int→Int→List (S27)→Option (Bool)
  | 0,_,_,_,_,_,_,_,_,_,_,_,_,_,_,_,_,_,_,_,_,_,_,_,_,_,_,_,_,_,_,_,_,_,_=>none
  | k + 1,x6,x7,x10,x32,x33,x35,x50,x51,x716000,x716001,x716002,x717000,x717001,x724000,x724001,x724002,x731000,x731001,x731002,x768000,x768001,x768002,x769000,x769001,x769002,x783000,x783001,x783002,x811000,x811001,x811002,x825000,x825001,x825002=>if x51 < (wrap64 (x768001 + x769001)) then (if 0 ≤ (wrap64 ((wrap64 (x50 * x783001)) + x51)) then (if (wrap64 ((wrap64 (x50 * x783001)) + x51)) < (x783002.length:Int) then (if x51 < x768001 then (if 0 ≤ (wrap64 ((wrap64 (x50 * x768001)) + x51)) then (if (wrap64 ((wrap64 (x50 * x768001)) + x51)) < (x768002.length:Int) then (if (!(((rd_T27 x783002 (wrap64 ((wrap64 (x50 * x783001)) + x51))).f0) == ((rd_T27 x768002 (wrap64 ((wrap64 (x50 * x768001)) + x51))).f0)) || (!(((rd_T27 x783002 (wrap64 ((wrap64 (x50 * x783001)) + x51))).f1) == ((rd_T27 x768002 (wrap64 ((wrap64 (x50 * x768001)) + x51))).f1)))) = true then (some false) else (if x51 ≥ x768001 then (if 0 ≤ (wrap64 ((wrap64 ((wrap64 (x50 * x769001)) + x51)) - x768001)) then (if (wrap64 ((wrap64 ((wrap64 (x50 * x769001)) + x51)) - x768001)) < (x769002.length:Int) then (if (!(((rd_T27 x783002 (wrap64 ((wrap64 (x50 * x783001)) + x51))).f0) == ((rd_T27 x769002 (wrap64 ((wrap64 ((wrap64 (x50 * x769001)) + x51)) - x768001))).f0)) || (!(((rd_T27 x783002 (wrap64 ((wrap64 (x50 * x783001)) + x51))).f1) == ((rd_T27 x769002 (wrap64 ((wrap64 ((wrap64 (x50 * x769001)) + x51)) - x768001))).f1)))) = true then (some false) else (laws_FnBoardParts.l2 k x6 x7 x10 x32 x33 x35 x50 (wrap64 (x51 + 1)) x716000 x716001 x716002 x717000 x717001 x724000 x724001 x724002 x731000 x731001 x731002 x768000 x768001 x768002 x769000 x769001 x769002 x783000 x783001 x783002 x811000 x811001 x811002 x825000 x825001 x825002)) else (none)) else (none)) else (laws_FnBoardParts.l2 k x6 x7 x10 x32 x33 x35 x50 (wrap64 (x51 + 1)) x716000 x716001 x716002 x717000 x717001 x724000 x724001 x724002 x731000 x731001 x731002 x768000 x768001 x768002 x769000 x769001 x769002 x783000 x783001 x783002 x811000 x811001 x811002 x825000 x825001 x825002))) else (none)) else (none)) else (if x51 ≥ x768001 then (if 0 ≤ (wrap64 ((wrap64 ((wrap64 (x50 * x769001)) + x51)) - x768001)) then (if (wrap64 ((wrap64 ((wrap64 (x50 * x769001)) + x51)) - x768001)) < (x769002.length:Int) then (if (!(((rd_T27 x783002 (wrap64 ((wrap64 (x50 * x783001)) + x51))).f0) == ((rd_T27 x769002 (wrap64 ((wrap64 ((wrap64 (x50 * x769001)) + x51)) - x768001))).f0)) || (!(((rd_T27 x783002 (wrap64 ((wrap64 (x50 * x783001)) + x51))).f1) == ((rd_T27 x769002 (wrap64 ((wrap64 ((wrap64 (x50 * x769001)) + x51)) - x768001))).f1)))) = true then (some false) else (laws_FnBoardParts.l2 k x6 x7 x10 x32 x33 x35 x50 (wrap64 (x51 + 1)) x716000 x716001 x716002 x717000 x717001 x724000 x724001 x724002 x731000 x731001 x731002 x768000 x768001 x768002 x769000 x769001 x769002 x783000 x783001 x783002 x811000 x811001 x811002 x825000 x825001 x825002)) else (none)) else (none)) else (laws_FnBoardParts.l2 k x6 x7 x10 x32 x33 x35 x50 (wrap64 (x51 + 1)) x716000 x716001 x716002 x717000 x717001 x724000 x724001 x724002 x731000 x731001 x731002 x768000 x768001 x768002 x769000 x769001 x769002 x783000 x783001 x783002 x811000 x811001 x811002 x825000 x825001 x825002))) else (none)) else (none)) else (laws_FnBoardParts.l1 k x6 x7 x10 x32 x33 x35 (wrap64 (x50 + 1)) x716000 x716001 x716002 x717000 x717001 x724000 x724001 x724002 x731000 x731001 x731002 x768000 x768001 x768002 x769000 x769001 x769002 x783000 x783001 x783002 x811000 x811001 x811002 x825000 x825001 x825002)
def laws_FnBoardParts.l0:Nat→Int→Int→Bool→Bool→Bool→List Int→Int→Int→Bool→Int→Int→Int→Int→List (S27)→Int→Int→Int→Int→List (S27)→Int→Int→List (S27)→Int→Int→List (S27)→Int→Int→List (S27)→Int→Int→List (S27)→Int→Int→List (S27)→Int→Int→List (S27)→Int→Int→List (S27)→Int→Int→List (S27)→Int→Int→List (S27)→Int→Int→List (S27)→Int→Int→List (S27)→Option (Bool)
  | 0,_,_,_,_,_,_,_,_,_,_,_,_,_,_,_,_,_,_,_,_,_,_,_,_,_,_,_,_,_,_,_,_,_,_,_,_,_,_,_,_,_,_,_,_,_,_,_,_,_,_,_,_=>none
  | k + 1,x6,x7,x10,x16,x22,x29,x32,x33,x35,x245,x246,x716000,x716001,x716002,x717000,x717001,x724000,x724001,x724002,x731000,x731001,x731002,x742000,x742001,x742002,x743000,x743001,x743002,x750000,x750001,x750002,x768000,x768001,x768002,x769000,x769001,x769002,x783000,x783001,x783002,x794000,x794001,x794002,x795000,x795001,x795002,x811000,x811001,x811002,x825000,x825001,x825002=>if x246 < x245 then ((laws_qHas.f k x29 x246).bind fun t846=>(if 0 ≤ x246 then (if x246 < (x794002.length:Int) then (if x246 < (x795002.length:Int) then (if (t846 != (!(((rd_T27 x794002 x246).f0) == ((rd_T27 x795002 x246).f0)) || (!(((rd_T27 x794002 x246).f1) == ((rd_T27 x795002 x246).f1))))) = true then (some false) else (laws_FnBoardParts.l0 k x6 x7 x10 x16 x22 x29 x32 x33 x35 x245 (wrap64 (x246 + 1)) x716000 x716001 x716002 x717000 x717001 x724000 x724001 x724002 x731000 x731001 x731002 x742000 x742001 x742002 x743000 x743001 x743002 x750000 x750001 x750002 x768000 x768001 x768002 x769000 x769001 x769002 x783000 x783001 x783002 x794000 x794001 x794002 x795000 x795001 x795002 x811000 x811001 x811002 x825000 x825001 x825002)) else (none)) else (none)) else (none))) else (laws_FnBoardParts.j2 k x6 x7 x10 x16 x22 x32 x33 x35 x716000 x716001 x716002 x717000 x717001 x724000 x724001 x724002 x731000 x731001 x731002 x742000 x742001 x742002 x743000 x743001 x743002 x750000 x750001 x750002 x768000 x768001 x768002 x769000 x769001 x769002 x783000 x783001 x783002 x811000 x811001 x811002 x825000 x825001 x825002)
end
def laws_FnBoardParts.f (k:Nat) (l0:List Int) (l1:List Int):Option (Bool):=if (wrap64 ((l0.length:Int) + (l1.length:Int))) > 1048576 then (some true) else ((spec_DrawPutCell.f k l0).bind fun bt706=>((impl_PutCell.f k bt706.1 bt706.2.1 bt706.2.2.1 bt706.2.2.2.1 bt706.2.2.2.2.1 bt706.2.2.2.2.2.1 bt706.2.2.2.2.2.2).bind fun bt717=>((spec_PutCell.f k bt706.1 bt706.2.1 bt706.2.2.1 bt706.2.2.2.1 bt706.2.2.2.2.1 bt706.2.2.2.2.2.1 bt706.2.2.2.2.2.2).bind fun bt724=>((spec_DrawStackBoards.f k l1).bind fun bt731=>((impl_StackBoards.f k bt731.1 bt731.2.1 bt731.2.2.1 bt731.2.2.2.1 bt731.2.2.2.2.1 bt731.2.2.2.2.2).bind fun bt743=>((spec_StackBoards.f k bt731.1 bt731.2.1 bt731.2.2.1 bt731.2.2.2.1 bt731.2.2.2.2.1 bt731.2.2.2.2.2).bind fun bt750=>((spec_DrawBesideBoards.f k l1).bind fun bt757=>((impl_BesideBoards.f k bt757.1 bt757.2.1 bt757.2.2.1 bt757.2.2.2.1 bt757.2.2.2.2.1 bt757.2.2.2.2.2).bind fun bt769=>((spec_BesideBoards.f k bt757.1 bt757.2.1 bt757.2.2.1 bt757.2.2.2.1 bt757.2.2.2.2.1 bt757.2.2.2.2.2).bind fun bt776=>((spec_DrawDifferentCells.f k l1).bind fun bt783=>((impl_DifferentCells.f k bt783.1 bt783.2.1 bt783.2.2.1 bt783.2.2.2.1 bt783.2.2.2.2.1 bt783.2.2.2.2.2).bind fun bt795=>((spec_DifferentCells.f k bt783.1 bt783.2.1 bt783.2.2.1 bt783.2.2.2.1 bt783.2.2.2.2.1 bt783.2.2.2.2.2).bind fun bt799=>((spec_DrawCutRows.f k l1).bind fun bt803=>((impl_CutRows.f k bt803.1 bt803.2.1 bt803.2.2.1 bt803.2.2.2.1 bt803.2.2.2.2).bind fun bt811=>((spec_CutRows.f k bt803.1 bt803.2.1 bt803.2.2.1 bt803.2.2.2.1 bt803.2.2.2.2).bind fun bt818=>((spec_DrawCellAt.f k l1).bind fun bt825=>((impl_CellAt.f k bt825.1 bt825.2.1 bt825.2.2.1 bt825.2.2.2.1 bt825.2.2.2.2).bind fun bt833=>((spec_CellAt.f k bt825.1 bt825.2.1 bt825.2.2.1 bt825.2.2.2.1 bt825.2.2.2.2).bind fun bt837=>(if (bt717.2.2.2 != bt724.2.2.2) = true then (laws_FnBoardParts.j0 k bt706.2.2.2.1 bt706.2.2.2.2.1 bt717.2.2.2 bt743.2.2.2 bt769.2.2.2 bt795.2 bt799.1 bt803.2.2.2.1 bt803.2.2.2.2 bt811.2.2.2 true bt706.1 bt706.2.1 bt706.2.2.1 bt706.2.2.2.2.2.1 bt706.2.2.2.2.2.2 bt717.1 bt717.2.1 bt717.2.2.1 bt724.1 bt724.2.1 bt724.2.2.1 bt731.1 bt731.2.1 bt731.2.2.1 bt731.2.2.2.1 bt731.2.2.2.2.1 bt731.2.2.2.2.2 bt743.1 bt743.2.1 bt743.2.2.1 bt757.1 bt757.2.1 bt757.2.2.1 bt757.2.2.2.1 bt757.2.2.2.2.1 bt757.2.2.2.2.2 bt776.1 bt776.2.1 bt776.2.2.1 bt783.1 bt783.2.1 bt783.2.2.1 bt783.2.2.2.1 bt783.2.2.2.2.1 bt783.2.2.2.2.2 bt803.1 bt803.2.1 bt803.2.2.1 bt818.1 bt818.2.1 bt818.2.2.1) else ((laws_qBoard.f k bt717.1 bt717.2.1 bt717.2.2.1 bt724.1 bt724.2.1 bt724.2.2.1).bind fun t841=>(if t841 = true then (if (bt743.2.2.2 != bt750.2.2.2) = true then (laws_FnBoardParts.j0 k bt706.2.2.2.1 bt706.2.2.2.2.1 bt717.2.2.2 bt743.2.2.2 bt769.2.2.2 bt795.2 bt799.1 bt803.2.2.2.1 bt803.2.2.2.2 bt811.2.2.2 true bt706.1 bt706.2.1 bt706.2.2.1 bt706.2.2.2.2.2.1 bt706.2.2.2.2.2.2 bt717.1 bt717.2.1 bt717.2.2.1 bt724.1 bt724.2.1 bt724.2.2.1 bt731.1 bt731.2.1 bt731.2.2.1 bt731.2.2.2.1 bt731.2.2.2.2.1 bt731.2.2.2.2.2 bt743.1 bt743.2.1 bt743.2.2.1 bt757.1 bt757.2.1 bt757.2.2.1 bt757.2.2.2.1 bt757.2.2.2.2.1 bt757.2.2.2.2.2 bt776.1 bt776.2.1 bt776.2.2.1 bt783.1 bt783.2.1 bt783.2.2.1 bt783.2.2.2.1 bt783.2.2.2.2.1 bt783.2.2.2.2.2 bt803.1 bt803.2.1 bt803.2.2.1 bt818.1 bt818.2.1 bt818.2.2.1) else ((laws_qBoard.f k bt743.1 bt743.2.1 bt743.2.2.1 bt750.1 bt750.2.1 bt750.2.2.1).bind fun t842=>(if t842 = true then (if (bt769.2.2.2 != bt776.2.2.2) = true then (laws_FnBoardParts.j0 k bt706.2.2.2.1 bt706.2.2.2.2.1 bt717.2.2.2 bt743.2.2.2 bt769.2.2.2 bt795.2 bt799.1 bt803.2.2.2.1 bt803.2.2.2.2 bt811.2.2.2 true bt706.1 bt706.2.1 bt706.2.2.1 bt706.2.2.2.2.2.1 bt706.2.2.2.2.2.2 bt717.1 bt717.2.1 bt717.2.2.1 bt724.1 bt724.2.1 bt724.2.2.1 bt731.1 bt731.2.1 bt731.2.2.1 bt731.2.2.2.1 bt731.2.2.2.2.1 bt731.2.2.2.2.2 bt743.1 bt743.2.1 bt743.2.2.1 bt757.1 bt757.2.1 bt757.2.2.1 bt757.2.2.2.1 bt757.2.2.2.2.1 bt757.2.2.2.2.2 bt776.1 bt776.2.1 bt776.2.2.1 bt783.1 bt783.2.1 bt783.2.2.1 bt783.2.2.2.1 bt783.2.2.2.2.1 bt783.2.2.2.2.2 bt803.1 bt803.2.1 bt803.2.2.1 bt818.1 bt818.2.1 bt818.2.2.1) else ((laws_qBoard.f k bt769.1 bt769.2.1 bt769.2.2.1 bt776.1 bt776.2.1 bt776.2.2.1).bind fun t843=>(if t843 = true then (if (bt795.2 != bt799.2) = true then (laws_FnBoardParts.j0 k bt706.2.2.2.1 bt706.2.2.2.2.1 bt717.2.2.2 bt743.2.2.2 bt769.2.2.2 bt795.2 bt799.1 bt803.2.2.2.1 bt803.2.2.2.2 bt811.2.2.2 true bt706.1 bt706.2.1 bt706.2.2.1 bt706.2.2.2.2.2.1 bt706.2.2.2.2.2.2 bt717.1 bt717.2.1 bt717.2.2.1 bt724.1 bt724.2.1 bt724.2.2.1 bt731.1 bt731.2.1 bt731.2.2.1 bt731.2.2.2.1 bt731.2.2.2.2.1 bt731.2.2.2.2.2 bt743.1 bt743.2.1 bt743.2.2.1 bt757.1 bt757.2.1 bt757.2.2.1 bt757.2.2.2.1 bt757.2.2.2.2.1 bt757.2.2.2.2.2 bt776.1 bt776.2.1 bt776.2.2.1 bt783.1 bt783.2.1 bt783.2.2.1 bt783.2.2.2.1 bt783.2.2.2.2.1 bt783.2.2.2.2.2 bt803.1 bt803.2.1 bt803.2.2.1 bt818.1 bt818.2.1 bt818.2.2.1) else ((laws_qInts.f k bt795.1 bt799.1).bind fun t844=>(if t844 = true then (if (bt811.2.2.2 != bt818.2.2.2) = true then (laws_FnBoardParts.j0 k bt706.2.2.2.1 bt706.2.2.2.2.1 bt717.2.2.2 bt743.2.2.2 bt769.2.2.2 bt795.2 bt799.1 bt803.2.2.2.1 bt803.2.2.2.2 bt811.2.2.2 true bt706.1 bt706.2.1 bt706.2.2.1 bt706.2.2.2.2.2.1 bt706.2.2.2.2.2.2 bt717.1 bt717.2.1 bt717.2.2.1 bt724.1 bt724.2.1 bt724.2.2.1 bt731.1 bt731.2.1 bt731.2.2.1 bt731.2.2.2.1 bt731.2.2.2.2.1 bt731.2.2.2.2.2 bt743.1 bt743.2.1 bt743.2.2.1 bt757.1 bt757.2.1 bt757.2.2.1 bt757.2.2.2.1 bt757.2.2.2.2.1 bt757.2.2.2.2.2 bt776.1 bt776.2.1 bt776.2.2.1 bt783.1 bt783.2.1 bt783.2.2.1 bt783.2.2.2.1 bt783.2.2.2.2.1 bt783.2.2.2.2.2 bt803.1 bt803.2.1 bt803.2.2.1 bt818.1 bt818.2.1 bt818.2.2.1) else ((laws_qBoard.f k bt811.1 bt811.2.1 bt811.2.2.1 bt818.1 bt818.2.1 bt818.2.2.1).bind fun t845=>(if t845 = true then (if (bt833.2.2 != bt837.2.2) = true then (laws_FnBoardParts.j0 k bt706.2.2.2.1 bt706.2.2.2.2.1 bt717.2.2.2 bt743.2.2.2 bt769.2.2.2 bt795.2 bt799.1 bt803.2.2.2.1 bt803.2.2.2.2 bt811.2.2.2 true bt706.1 bt706.2.1 bt706.2.2.1 bt706.2.2.2.2.2.1 bt706.2.2.2.2.2.2 bt717.1 bt717.2.1 bt717.2.2.1 bt724.1 bt724.2.1 bt724.2.2.1 bt731.1 bt731.2.1 bt731.2.2.1 bt731.2.2.2.1 bt731.2.2.2.2.1 bt731.2.2.2.2.2 bt743.1 bt743.2.1 bt743.2.2.1 bt757.1 bt757.2.1 bt757.2.2.1 bt757.2.2.2.1 bt757.2.2.2.2.1 bt757.2.2.2.2.2 bt776.1 bt776.2.1 bt776.2.2.1 bt783.1 bt783.2.1 bt783.2.2.1 bt783.2.2.2.1 bt783.2.2.2.2.1 bt783.2.2.2.2.2 bt803.1 bt803.2.1 bt803.2.2.1 bt818.1 bt818.2.1 bt818.2.2.1) else (laws_FnBoardParts.j0 k bt706.2.2.2.1 bt706.2.2.2.2.1 bt717.2.2.2 bt743.2.2.2 bt769.2.2.2 bt795.2 bt799.1 bt803.2.2.2.1 bt803.2.2.2.2 bt811.2.2.2 (!(bt833.1 == bt837.1) || (!(bt833.2.1 == bt837.2.1))) bt706.1 bt706.2.1 bt706.2.2.1 bt706.2.2.2.2.2.1 bt706.2.2.2.2.2.2 bt717.1 bt717.2.1 bt717.2.2.1 bt724.1 bt724.2.1 bt724.2.2.1 bt731.1 bt731.2.1 bt731.2.2.1 bt731.2.2.2.1 bt731.2.2.2.2.1 bt731.2.2.2.2.2 bt743.1 bt743.2.1 bt743.2.2.1 bt757.1 bt757.2.1 bt757.2.2.1 bt757.2.2.2.1 bt757.2.2.2.2.1 bt757.2.2.2.2.2 bt776.1 bt776.2.1 bt776.2.2.1 bt783.1 bt783.2.1 bt783.2.2.1 bt783.2.2.2.1 bt783.2.2.2.2.1 bt783.2.2.2.2.2 bt803.1 bt803.2.1 bt803.2.2.1 bt818.1 bt818.2.1 bt818.2.2.1)) else (laws_FnBoardParts.j0 k bt706.2.2.2.1 bt706.2.2.2.2.1 bt717.2.2.2 bt743.2.2.2 bt769.2.2.2 bt795.2 bt799.1 bt803.2.2.2.1 bt803.2.2.2.2 bt811.2.2.2 true bt706.1 bt706.2.1 bt706.2.2.1 bt706.2.2.2.2.2.1 bt706.2.2.2.2.2.2 bt717.1 bt717.2.1 bt717.2.2.1 bt724.1 bt724.2.1 bt724.2.2.1 bt731.1 bt731.2.1 bt731.2.2.1 bt731.2.2.2.1 bt731.2.2.2.2.1 bt731.2.2.2.2.2 bt743.1 bt743.2.1 bt743.2.2.1 bt757.1 bt757.2.1 bt757.2.2.1 bt757.2.2.2.1 bt757.2.2.2.2.1 bt757.2.2.2.2.2 bt776.1 bt776.2.1 bt776.2.2.1 bt783.1 bt783.2.1 bt783.2.2.1 bt783.2.2.2.1 bt783.2.2.2.2.1 bt783.2.2.2.2.2 bt803.1 bt803.2.1 bt803.2.2.1 bt818.1 bt818.2.1 bt818.2.2.1)))) else (laws_FnBoardParts.j0 k bt706.2.2.2.1 bt706.2.2.2.2.1 bt717.2.2.2 bt743.2.2.2 bt769.2.2.2 bt795.2 bt799.1 bt803.2.2.2.1 bt803.2.2.2.2 bt811.2.2.2 true bt706.1 bt706.2.1 bt706.2.2.1 bt706.2.2.2.2.2.1 bt706.2.2.2.2.2.2 bt717.1 bt717.2.1 bt717.2.2.1 bt724.1 bt724.2.1 bt724.2.2.1 bt731.1 bt731.2.1 bt731.2.2.1 bt731.2.2.2.1 bt731.2.2.2.2.1 bt731.2.2.2.2.2 bt743.1 bt743.2.1 bt743.2.2.1 bt757.1 bt757.2.1 bt757.2.2.1 bt757.2.2.2.1 bt757.2.2.2.2.1 bt757.2.2.2.2.2 bt776.1 bt776.2.1 bt776.2.2.1 bt783.1 bt783.2.1 bt783.2.2.1 bt783.2.2.2.1 bt783.2.2.2.2.1 bt783.2.2.2.2.2 bt803.1 bt803.2.1 bt803.2.2.1 bt818.1 bt818.2.1 bt818.2.2.1)))) else (laws_FnBoardParts.j0 k bt706.2.2.2.1 bt706.2.2.2.2.1 bt717.2.2.2 bt743.2.2.2 bt769.2.2.2 bt795.2 bt799.1 bt803.2.2.2.1 bt803.2.2.2.2 bt811.2.2.2 true bt706.1 bt706.2.1 bt706.2.2.1 bt706.2.2.2.2.2.1 bt706.2.2.2.2.2.2 bt717.1 bt717.2.1 bt717.2.2.1 bt724.1 bt724.2.1 bt724.2.2.1 bt731.1 bt731.2.1 bt731.2.2.1 bt731.2.2.2.1 bt731.2.2.2.2.1 bt731.2.2.2.2.2 bt743.1 bt743.2.1 bt743.2.2.1 bt757.1 bt757.2.1 bt757.2.2.1 bt757.2.2.2.1 bt757.2.2.2.2.1 bt757.2.2.2.2.2 bt776.1 bt776.2.1 bt776.2.2.1 bt783.1 bt783.2.1 bt783.2.2.1 bt783.2.2.2.1 bt783.2.2.2.2.1 bt783.2.2.2.2.2 bt803.1 bt803.2.1 bt803.2.2.1 bt818.1 bt818.2.1 bt818.2.2.1)))) else (laws_FnBoardParts.j0 k bt706.2.2.2.1 bt706.2.2.2.2.1 bt717.2.2.2 bt743.2.2.2 bt769.2.2.2 bt795.2 bt799.1 bt803.2.2.2.1 bt803.2.2.2.2 bt811.2.2.2 true bt706.1 bt706.2.1 bt706.2.2.1 bt706.2.2.2.2.2.1 bt706.2.2.2.2.2.2 bt717.1 bt717.2.1 bt717.2.2.1 bt724.1 bt724.2.1 bt724.2.2.1 bt731.1 bt731.2.1 bt731.2.2.1 bt731.2.2.2.1 bt731.2.2.2.2.1 bt731.2.2.2.2.2 bt743.1 bt743.2.1 bt743.2.2.1 bt757.1 bt757.2.1 bt757.2.2.1 bt757.2.2.2.1 bt757.2.2.2.2.1 bt757.2.2.2.2.2 bt776.1 bt776.2.1 bt776.2.2.1 bt783.1 bt783.2.1 bt783.2.2.1 bt783.2.2.2.1 bt783.2.2.2.2.1 bt783.2.2.2.2.2 bt803.1 bt803.2.1 bt803.2.2.1 bt818.1 bt818.2.1 bt818.2.2.1)))) else (laws_FnBoardParts.j0 k bt706.2.2.2.1 bt706.2.2.2.2.1 bt717.2.2.2 bt743.2.2.2 bt769.2.2.2 bt795.2 bt799.1 bt803.2.2.2.1 bt803.2.2.2.2 bt811.2.2.2 true bt706.1 bt706.2.1 bt706.2.2.1 bt706.2.2.2.2.2.1 bt706.2.2.2.2.2.2 bt717.1 bt717.2.1 bt717.2.2.1 bt724.1 bt724.2.1 bt724.2.2.1 bt731.1 bt731.2.1 bt731.2.2.1 bt731.2.2.2.1 bt731.2.2.2.2.1 bt731.2.2.2.2.2 bt743.1 bt743.2.1 bt743.2.2.1 bt757.1 bt757.2.1 bt757.2.2.1 bt757.2.2.2.1 bt757.2.2.2.2.1 bt757.2.2.2.2.2 bt776.1 bt776.2.1 bt776.2.2.1 bt783.1 bt783.2.1 bt783.2.2.1 bt783.2.2.2.1 bt783.2.2.2.2.1 bt783.2.2.2.2.2 bt803.1 bt803.2.1 bt803.2.2.1 bt818.1 bt818.2.1 bt818.2.2.1))))))))))))))))))))))
end Go.Proofs.Ytbbhacpahnnlcaa.F
