-- Printed by a program; checked here.
import Derived.Test.YtimeepcpgjnajaaF0
import Derived.Test.YtimeepcpgjnajaaF1
import Derived.Test.YtimeepcpgjnajaaF2
import Derived.Test.YtimeepcpgjnajaaF3
import Derived.Test.YtimeepcpgjnajaaF5
namespace Go.Proofs.Ytimeepcpgjnajaa.F
open Go.RowKit Go.Proofs.YtimeepcpgjnajaaV.PrintWords Go.Proofs.YtimeepcpgjnajaaV.PrintLast Go.Proofs.YtimeepcpgjnajaaV.PrintMore Go.Proofs.YtimeepcpgjnajaaV.Sl
attribute [local go_sem] max2_int min2_int max_two min_two max_three min_three max_four min_four ia_opt it_opt
attribute [local go_sem] Try.underlying23 Try.underlying25 Try.underlying27 Try.underlying35 Try.underlying50 Try.underlying80 Try.underlying114 Try.underlying137
set_option maxHeartbeats 8000000
set_option maxRecDepth 100000
set_option linter.unusedVariables false
set_option linter.unusedSimpArgs false

/-! ### spec_NextStates: function 44 -/
def spec_NextStates.f (k:Nat) (a0_0:Int) (a0_1:Int) (l0_2:List (S27)) (a1:Int):Option (List Int × Bool):=(spec_rvHas.f k a0_0 a0_1 l0_2 a1).bind fun t589=>(if t589 = true then ((spec_rvNext.f k a0_0 a0_1 l0_2 a1).bind fun t590=>(some (t590,true))) else (some (([]:List Int),false)))
theorem spec_NextStates.calls (k:Nat) (a0_0:Int) (a0_1:Int) (A0_2:Option Addr) (c0_2:Nat) (l0_2:List (S27)) (a1:Int) (r1:List Int) (r2:Bool) (w:World) (hr0_2:Kd.C k27 w A0_2 l0_2.length l0_2) (hc0_2:l0_2.length ≤ c0_2) (h:spec_NextStates.f k a0_0 a0_1 l0_2 a1 = some (r1,r2)) :
    Calls Try.prog 44 #[.agg #[.int .i64 a0_0,.int .i64 a0_1,.slice A0_2 l0_2.length c0_2],.int .i64 a1] w fun e w'=>∃ v0_:Value,e = .returned (.tuple #[v0_,.bool r2])∧Kd.R (Kd.int .i64) 3 w' w.heap.size (fun _=>True) v0_ r1∧Below w.heap.size w w':=by
 have S:=St.init (w:=w) (dc k27_heap at27 hr0_2 hc0_2 dn)
 clear hr0_2 hc0_2
 have F:=S.fc
 have H:=h;clear h;unfold spec_NextStates.f at H
 replace H:=Option.bind_eq_some_iff.mp H;obtain ⟨t589,A3,H⟩:=H;(try dsimp only at H)
 replace H:=sp_ H;rcases H with ⟨c4,H⟩ | ⟨c4,H⟩
 · skip
   subst c4
   replace H:=Option.bind_eq_some_iff.mp H;obtain ⟨t590,A5,H⟩:=H;(try dsimp only at H)
   simp only [Option.some.injEq,Prod.mk.injEq] at H
   obtain ⟨rfl,rfl⟩:=H
   go_enter Try.func44,Try.ntmps44
   go_wp2_with (first | ((with_reducible refine gd 2 rfl (L ?_));refine bo 2 (.agg #[_,_,_]) S ?_;clear S F;intro gb588 W S;have F:=S.fc) | ((with_reducible refine gate_callee (f:=100) rfl (L ?_));refine cl (some 8) Try.func100 (spec_rvHas.calls _ _ _ _ _ _ _ _ _ S.c S.n A3) (hargs:=by (simp only [ma_,mb_,mc_,F] <;> rfl)) (h:=?_);rintro e W ⟨rfl,hb⟩;refine ⟨_,rfl,?_⟩;replace S:=S.go hb;clear F hb;have F:=S.fc) | ((with_reducible refine gate_callee (f:=101) rfl (L ?_));refine cl (some 12) Try.func101 (spec_rvNext.calls _ _ _ _ _ _ _ _ _ S.c S.n A5) (hargs:=by (simp only [ma_,mb_,mc_,F] <;> rfl)) (h:=?_);rintro e W ⟨v591,rfl,ho0,hb⟩;refine ⟨_,rfl,?_⟩;replace S:=S.got (atI .i64) hb ho0;obtain ⟨At590,ct590,rfl,S⟩:=S;clear F hb ho0;have F:=S.fc))
   go_ret2
   exact ⟨_,(by first | rfl | (simp [e0_,e1_] <;> rfl) | (simp [*,e0_,e1_] <;> rfl)),(by first | exact S.r | exact Kd.R_nil _ _ _ _ _),S.below⟩
 · skip
   replace c4:=cbf c4;subst c4
   simp only [Option.some.injEq,Prod.mk.injEq] at H
   obtain ⟨rfl,rfl⟩:=H
   go_enter Try.func44,Try.ntmps44
   go_wp2_with (first | ((with_reducible refine gd 2 rfl (L ?_));refine bo 2 (.agg #[_,_,_]) S ?_;clear S F;intro gb588 W S;have F:=S.fc) | ((with_reducible refine gate_callee (f:=100) rfl (L ?_));refine cl (some 8) Try.func100 (spec_rvHas.calls _ _ _ _ _ _ _ _ _ S.c S.n A3) (hargs:=by (simp only [ma_,mb_,mc_,F] <;> rfl)) (h:=?_);rintro e W ⟨rfl,hb⟩;refine ⟨_,rfl,?_⟩;replace S:=S.go hb;clear F hb;have F:=S.fc))
   go_ret2
   exact ⟨_,(by first | rfl | (simp [e0_,e1_] <;> rfl) | (simp [*,e0_,e1_] <;> rfl)),(by first | exact S.r | exact Kd.R_nil _ _ _ _ _),S.below⟩

/-! ### impl_NextStates: function 45 -/
def impl_NextStates.f (k:Nat) (a0_0:Int) (a0_1:Int) (l0_2:List (S27)) (a1:Int):Option (List Int × Bool):=(impl_goesBack.f k a0_0 a0_1 l0_2 a1).bind fun t594=>(if t594 = true then ((impl_numbersAfter.f k a0_0 a0_1 l0_2 (([a1]:List Int))).bind fun t598=>(if 0 < (t598.length:Int) then (some (rd_L3 t598 0,true)) else (none))) else (some (([]:List Int),false)))
theorem impl_NextStates.calls (k:Nat) (a0_0:Int) (a0_1:Int) (A0_2:Option Addr) (c0_2:Nat) (l0_2:List (S27)) (a1:Int) (r1:List Int) (r2:Bool) (w:World) (hr0_2:Kd.C k27 w A0_2 l0_2.length l0_2) (hc0_2:l0_2.length ≤ c0_2) (h:impl_NextStates.f k a0_0 a0_1 l0_2 a1 = some (r1,r2)) :
    Calls Try.prog 45 #[.agg #[.int .i64 a0_0,.int .i64 a0_1,.slice A0_2 l0_2.length c0_2],.int .i64 a1] w fun e w'=>∃ v0_:Value,e = .returned (.tuple #[v0_,.bool r2])∧Kd.R (Kd.int .i64) 3 w' w.heap.size (fun _=>True) v0_ r1∧Below w.heap.size w w':=by
 have S:=St.init (w:=w) (dc k27_heap at27 hr0_2 hc0_2 dn)
 clear hr0_2 hc0_2
 have F:=S.fc
 have H:=h;clear h;unfold impl_NextStates.f at H
 replace H:=Option.bind_eq_some_iff.mp H;obtain ⟨t594,A3,H⟩:=H;(try dsimp only at H)
 replace H:=sp_ H;rcases H with ⟨c4,H⟩ | ⟨c4,H⟩
 · skip
   subst c4
   (first | (with_reducible replace H:=ob_ H;obtain ⟨y595,hy595,H⟩:=H;(try dsimp only at H)) | (obtain ⟨y595,hy595⟩:∃ y_:List Int,y_ = (([a1]:List Int)):=⟨_,rfl⟩;(try rw [← hy595] at H);(try simp only [Option.bind_some] at H)));have Ny595:=Aside0.mk hy595;clear hy595
   replace H:=Option.bind_eq_some_iff.mp H;obtain ⟨t598,A5,H⟩:=H;(try dsimp only at H)
   replace H:=np_ H;obtain ⟨c6,H⟩:=H;(try have m_t598:0 < t598.length:=by omega)
   simp only [Option.some.injEq,Prod.mk.injEq] at H
   obtain ⟨rfl,rfl⟩:=H
   go_enter Try.func45,Try.ntmps45
   go_wp2_with (first | ((with_reducible refine gd 2 rfl (L ?_));refine bo 2 (.agg #[_,_,_]) S ?_;clear S F;intro gb593 W S;have F:=S.fc) | ((with_reducible refine gate_callee (f:=104) rfl (L ?_));refine cl (some 8) Try.func104 (impl_goesBack.calls _ _ _ _ _ _ _ _ _ S.c S.n A3) (hargs:=by (simp only [ma_,mb_,mc_,F] <;> rfl)) (h:=?_);rintro e W ⟨rfl,hb⟩;refine ⟨_,rfl,?_⟩;replace S:=S.go hb;clear F hb;have F:=S.fc) | ((with_reducible refine gd 12 rfl (L ?_));refine lia 12 (atI .i64) 3 S ([a1]:List Int) (fun _ _=>(Reps.one (show Kd.M (Kd.int .i64) _ _ _ a1 [.int .i64 a1] from rfl) (Reps.none _ _))) (by first | (go_simp;done) | (go_simp;rfl)) ?_;clear S F;intro Ay595 cy595 W S;(try rw [← Ny595.out] at S ⊢);have F:=S.fc) | ((with_reducible refine gate_callee (f:=106) rfl (L ?_));refine cl (some 13) Try.func106 (impl_numbersAfter.calls _ _ _ _ _ _ _ _ _ _ _ S.c S.n S.c S.n A5) (hargs:=by (simp only [ma_,mb_,mc_,F] <;> rfl)) (h:=?_);rintro e W ⟨v599,rfl,ho0,hb⟩;refine ⟨_,rfl,?_⟩;replace S:=S.got (atU (d:=Kd.slice 3 (Kd.int .i64))) hb ho0;obtain ⟨At598,ct598,rfl,S⟩:=S;clear F hb ho0;(try rw [← Ny595.out] at S);have hi0:=S.in0 At598 (rd_L3 t598 0) (by rfl) (by omega);obtain ⟨Ai0,ci0,hx0,hx1,hR0⟩:=hi0;have F:=S.fc))
   go_ret2
   exact ⟨_,(by first | rfl | (simp [e0_,e1_] <;> rfl) | (simp [*,e0_,e1_] <;> rfl)),hR0,S.below⟩
 · skip
   replace c4:=cbf c4;subst c4
   simp only [Option.some.injEq,Prod.mk.injEq] at H
   obtain ⟨rfl,rfl⟩:=H
   go_enter Try.func45,Try.ntmps45
   go_wp2_with (first | ((with_reducible refine gd 2 rfl (L ?_));refine bo 2 (.agg #[_,_,_]) S ?_;clear S F;intro gb593 W S;have F:=S.fc) | ((with_reducible refine gate_callee (f:=104) rfl (L ?_));refine cl (some 8) Try.func104 (impl_goesBack.calls _ _ _ _ _ _ _ _ _ S.c S.n A3) (hargs:=by (simp only [ma_,mb_,mc_,F] <;> rfl)) (h:=?_);rintro e W ⟨rfl,hb⟩;refine ⟨_,rfl,?_⟩;replace S:=S.go hb;clear F hb;have F:=S.fc))
   go_ret2
   exact ⟨_,(by first | rfl | (simp [e0_,e1_] <;> rfl) | (simp [*,e0_,e1_] <;> rfl)),(by first | exact S.r | exact Kd.R_nil _ _ _ _ _),S.below⟩

/-! ### laws_FnExactNextStates: function 6 -/
mutual
def laws_FnExactNextStates.j0:Nat→Int→List Int→Bool→List Int→Bool→Bool→Int→Int→List (S80)→Int→Int→List (S27)→Option (Bool)
  | 0,_,_,_,_,_,_,_,_,_,_,_,_=>none
  | k + 1,x1,x6,x7,x9,x10,x44,x612000,x612001,x612002,x628000,x628001,x628002=>if x44 = true then (some false) else ((laws_toBoard.f k x612000 x612001 x612002).bind fun bt633=>((laws_eqBoard.f k x628000 x628001 x628002 bt633.1 bt633.2.1 bt633.2.2).bind fun t638=>(if t638 = true then ((laws_markBoard.f k x628000 x628001 x628002 1).bind fun bt639=>(if bt639.1 < 0 then (laws_FnExactNextStates.j1 k x1 x6 x7 x9 true x612000 x612001 x612002) else ((laws_eqIntS.f k x9 x6).bind fun t641=>(if t641 = true then (laws_FnExactNextStates.j1 k x1 x6 x7 x9 (x10 != x7) x612000 x612001 x612002) else (laws_FnExactNextStates.j1 k x1 x6 x7 x9 true x612000 x612001 x612002))))) else (some false))))
def laws_FnExactNextStates.j1:Nat→Int→List Int→Bool→List Int→Bool→Int→Int→List (S80)→Option (Bool)
  | 0,_,_,_,_,_,_,_,_=>none
  | k + 1,x1,x6,x7,x9,x65,x612000,x612001,x612002=>if x65 = true then (some false) else ((laws_markIntS.f k x9 1).bind fun bt642=>((laws_heldIntS.f k bt642.2 1).bind fun t644=>(if t644 < 0 then (some false) else (if t644 = bt642.1 then ((laws_toBoard.f k x612000 x612001 x612002).bind fun bt645=>((impl_NextStates.f k bt645.1 bt645.2.1 bt645.2.2 x1).bind fun bt650=>((laws_eqIntS.f k bt650.1 x6).bind fun t654=>(if t654 = true then (laws_FnExactNextStates.j2 k bt642.2 bt642.1 (bt650.2 != x7)) else (laws_FnExactNextStates.j2 k bt642.2 bt642.1 true))))) else (some false)))))
def laws_FnExactNextStates.j2:Nat→List Int→Int→Bool→Option (Bool)
  | 0,_,_,_=>none
  | k + 1,x9,x12,x92=>if x92 = true then (some false) else ((laws_heldIntS.f k x9 1).bind fun t655=>(if t655 < 0 then (some false) else (if t655 = x12 then (some true) else (some false))))
end
def laws_FnExactNextStates.f (k:Nat) (a0_0:Int) (a0_1:Int) (l0_2:List (S80)) (a1:Int):Option (Bool):=(laws_szBoard.f a0_0 a0_1 l0_2 1048576).bind fun t612=>(if t612 < 0 then (some true) else ((laws_toBoard.f k a0_0 a0_1 l0_2).bind fun bt613=>((spec_NextStates.f k bt613.1 bt613.2.1 bt613.2.2 a1).bind fun bt618=>((laws_toBoard.f k a0_0 a0_1 l0_2).bind fun bt622=>((impl_NextStates.f k bt622.1 bt622.2.1 bt622.2.2 a1).bind fun bt628=>((laws_eqIntS.f k bt628.1 bt618.1).bind fun t632=>(if t632 = true then (laws_FnExactNextStates.j0 k a1 bt618.1 bt618.2 bt628.1 bt628.2 (bt628.2 != bt618.2) a0_0 a0_1 l0_2 bt622.1 bt622.2.1 bt622.2.2) else (laws_FnExactNextStates.j0 k a1 bt618.1 bt618.2 bt628.1 bt628.2 true a0_0 a0_1 l0_2 bt622.1 bt622.2.1 bt622.2.2))))))))
theorem laws_FnExactNextStates.calls (k:Nat) (a0_0:Int) (a0_1:Int) (A0_2:Option Addr) (c0_2:Nat) (l0_2:List (S80)) (a1:Int) (r:Bool) (w:World) (hr0_2:Kd.C k80 w A0_2 l0_2.length l0_2) (hc0_2:l0_2.length ≤ c0_2) (hrt:r = true) (h:laws_FnExactNextStates.f k a0_0 a0_1 l0_2 a1 = some r) :
    Calls Try.prog 6 #[.agg #[.int .i64 a0_0,.int .i64 a0_1,.slice A0_2 l0_2.length c0_2],.int .i64 a1] w fun e w'=>e = .returned (.bool r)∧Below w.heap.size w w':=by
 have S:=St.init (w:=w) (dc k80_heap at80 hr0_2 hc0_2 dn)
 have HRT:=Aside0.mk hrt;clear hrt
 clear hr0_2 hc0_2
 have F:=S.fc
 have H:=h;clear h;unfold laws_FnExactNextStates.f at H
 replace H:=Option.bind_eq_some_iff.mp H;obtain ⟨t612,A3,H⟩:=H;(try dsimp only at H)
 replace H:=sp_ H;rcases H with ⟨c4,H⟩ | ⟨c4,H⟩
 · skip
   obtain rfl:=Option.some.inj H
   go_enter Try.func6,Try.ntmps6
   go_wp2_with (first | ((with_reducible refine gd 2 rfl (L ?_));refine bo 2 (.agg #[_,_,_]) S ?_;clear S F;intro gb611 W S;have F:=S.fc) | ((with_reducible refine gate_callee (f:=37) rfl (L ?_));refine cl (some 18) Try.func37 (laws_szBoard.calls _ _ _ _ _ _ _ _ S.c S.n A3) (hargs:=by (simp only [ma_,mb_,mc_,F] <;> rfl)) (h:=?_);rintro e W ⟨rfl,hb⟩;refine ⟨_,rfl,?_⟩;replace S:=S.go hb;clear F hb;have F:=S.fc) | ((with_reducible refine gs (t:=25) rfl (L ?_));(first | refine sb (.agg #[_,_,_]) S sz25 ?_ | refine ro (.agg #[_,_,_]) S sz25 ?_ (ho:=rfl) (hx:=rfl) (hy:=rfl));(clear S F;intro W S;have F:=S.fc)))
   go_ret
   exact ⟨(by first | rfl | (simp [e0_,e1_] <;> rfl) | (simp [*,e0_,e1_] <;> rfl)),S.below⟩
 · skip
   replace H:=Option.bind_eq_some_iff.mp H;obtain ⟨⟨t613,t614,t615⟩,A8,H⟩:=H;(try dsimp only at H)
   replace H:=Option.bind_eq_some_iff.mp H;obtain ⟨⟨t618,t621⟩,A9,H⟩:=H;(try dsimp only at H)
   replace H:=Option.bind_eq_some_iff.mp H;obtain ⟨⟨t622,t623,t624⟩,A10,H⟩:=H;(try dsimp only at H)
   replace H:=Option.bind_eq_some_iff.mp H;obtain ⟨⟨t628,t631⟩,A11,H⟩:=H;(try dsimp only at H)
   go_enter Try.func6,Try.ntmps6
   go_upto_region 8 with (first | ((with_reducible refine gd 2 rfl (L ?_));refine bo 2 (.agg #[_,_,_]) S ?_;clear S F;intro gb611 W S;have F:=S.fc) | ((with_reducible refine gate_callee (f:=37) rfl (L ?_));refine cl (some 18) Try.func37 (laws_szBoard.calls _ _ _ _ _ _ _ _ S.c S.n A3) (hargs:=by (simp only [ma_,mb_,mc_,F] <;> rfl)) (h:=?_);rintro e W ⟨rfl,hb⟩;refine ⟨_,rfl,?_⟩;replace S:=S.go hb;clear F hb;have F:=S.fc) | ((with_reducible refine gate_callee (f:=39) rfl (L ?_));refine cl (some 23) Try.func39 (laws_toBoard.calls _ _ _ _ _ _ _ _ _ _ S.c S.n A8) (hargs:=by (simp only [ma_,mb_,mc_,F] <;> rfl)) (h:=?_);rintro e W ⟨v616,rfl,ho0,hb⟩;refine ⟨_,rfl,?_⟩;replace S:=S.got at27 hb ho0;obtain ⟨At615,ct615,rfl,S⟩:=S;clear F hb ho0;have F:=S.fc) | ((with_reducible refine gate_callee (f:=44) rfl (L ?_));refine cl (some 25) Try.func44 (spec_NextStates.calls _ _ _ _ _ _ _ _ _ _ S.c S.n A9) (hargs:=by (simp only [ma_,mb_,mc_,F] <;> rfl)) (h:=?_);rintro e W ⟨v619,rfl,ho0,hb⟩;refine ⟨_,rfl,?_⟩;replace S:=S.got (atI .i64) hb ho0;obtain ⟨At618,ct618,rfl,S⟩:=S;clear F hb ho0;have F:=S.fc) | ((with_reducible refine gate_callee (f:=39) rfl (L ?_));refine cl (some 29) Try.func39 (laws_toBoard.calls _ _ _ _ _ _ _ _ _ _ S.c S.n A10) (hargs:=by (simp only [ma_,mb_,mc_,F] <;> rfl)) (h:=?_);rintro e W ⟨v625,rfl,ho0,hb⟩;refine ⟨_,rfl,?_⟩;replace S:=S.got at27 hb ho0;obtain ⟨At624,ct624,rfl,S⟩:=S;clear F hb ho0;have F:=S.fc) | ((with_reducible refine gd 8 rfl (L ?_));refine al 8 S zi25 ?_;clear S F;intro gb627 W S;have F:=S.fc) | ((with_reducible refine gate_callee (f:=45) rfl (L ?_));refine cl (some 33) Try.func45 (impl_NextStates.calls _ _ _ _ _ _ _ _ _ _ S.c S.n A11) (hargs:=by (simp only [ma_,mb_,mc_,F] <;> rfl)) (h:=?_);rintro e W ⟨v629,rfl,ho0,hb⟩;refine ⟨_,rfl,?_⟩;replace S:=S.got (atI .i64) hb ho0;obtain ⟨At628,ct628,rfl,S⟩:=S;clear F hb ho0;have F:=S.fc) | ((with_reducible refine gs (t:=25) rfl (L ?_));(first | refine sb (.agg #[_,_,_]) S sz25 ?_ | refine ro (.agg #[_,_,_]) S sz25 ?_ (ho:=rfl) (hx:=rfl) (hy:=rfl));(clear S F;intro W S;have F:=S.fc)))
   (try simp only [Act.put,List.setIfInBounds_toArray,List.set_cons_zero,List.set_cons_succ])
   go_cut [44] (fun v44 wc=>∃ (kq:Nat) (x44_11:Bool),v44 = .bool x44_11∧laws_FnExactNextStates.j0 kq a1 t618 t621 t628 t631 x44_11 a0_0 a0_1 l0_2 t622 t623 t624 = some r∧kq ≤ k∧St w w (fun _=>False) [bor at80 A0_2 c0_2 l0_2] wc  [row (atI .i64) 3 At628 t628.length ct628 t628,box gb627 25 [.int .i64 t622,.int .i64 t623,.slice At624 t624.length ct624],row at27 27 At624 t624.length ct624 t624,row (atI .i64) 3 At618 t618.length ct618 t618,box gb611 50 [.int .i64 a0_0,.int .i64 a0_1,.slice A0_2 l0_2.length c0_2]])
   case first =>
    replace H:=Option.bind_eq_some_iff.mp H;obtain ⟨t632,A27,H⟩:=H;(try dsimp only at H)
    replace H:=sp_ H;rcases H with ⟨c28,H⟩ | ⟨c28,H⟩
    · skip
      subst c28
      go_wp2_with (first | ((with_reducible refine gate_callee (f:=46) rfl (L ?_));refine cl (some 38) Try.func46 (laws_eqIntS.calls _ _ _ _ _ _ _ _ _ S.c S.n S.c S.n A27) (hargs:=by (simp only [ma_,mb_,mc_,F] <;> rfl)) (h:=?_);rintro e W ⟨rfl,hb⟩;refine ⟨_,rfl,?_⟩;replace S:=S.gw hb;clear F hb;have F:=S.fc) | ((with_reducible refine gs (t:=25) rfl (L ?_));(first | refine sb (.agg #[_,_,_]) S sz25 ?_ | refine ro (.agg #[_,_,_]) S sz25 ?_ (ho:=rfl) (hx:=rfl) (hy:=rfl));(clear S F;intro W S;have F:=S.fc)))
      go_meet
      case rel=>exact ⟨_,(t631 != t621),(by first | rfl | (simp;done) | (simp [*];done) | (rw [w6_ (by omega) (by omega)])),H,(by first | omega | exact Nat.le_refl _),(S.pm [0,1,2,3,5])⟩
    · skip
      replace c28:=cbf c28;subst c28
      go_wp2_with (first | ((with_reducible refine gate_callee (f:=46) rfl (L ?_));refine cl (some 38) Try.func46 (laws_eqIntS.calls _ _ _ _ _ _ _ _ _ S.c S.n S.c S.n A27) (hargs:=by (simp only [ma_,mb_,mc_,F] <;> rfl)) (h:=?_);rintro e W ⟨rfl,hb⟩;refine ⟨_,rfl,?_⟩;replace S:=S.gw hb;clear F hb;have F:=S.fc) | ((with_reducible refine gs (t:=25) rfl (L ?_));(first | refine sb (.agg #[_,_,_]) S sz25 ?_ | refine ro (.agg #[_,_,_]) S sz25 ?_ (ho:=rfl) (hx:=rfl) (hy:=rfl));(clear S F;intro W S;have F:=S.fc)))
      go_meet
      case rel=>exact ⟨_,true,(by first | rfl | (simp;done) | (simp [*];done) | (rw [w6_ (by omega) (by omega)])),H,(by first | omega | exact Nat.le_refl _),(S.pm [0,1,2,3,5])⟩
   case rest =>
    clear H S F
    obtain ⟨kq,x44_11,rfl,HA,HJ11,S⟩:=hcut
    have F:=S.fc
    cases kq with
    | zero=>exact absurd HA (by simp [laws_FnExactNextStates.j0])
    | succ kj11 =>
     have H:=HA;clear HA;simp only [laws_FnExactNextStates.j0,F] at H
     replace H:=sp_ H;rcases H with ⟨c33,H⟩ | ⟨c33,H⟩
     · skip
       subst c33
       exact absurd (H.trans (congrArg some HRT.out)) (by simp)
     · skip
       replace c33:=cbf c33;subst c33
       replace H:=Option.bind_eq_some_iff.mp H;obtain ⟨⟨t633,t634,t635⟩,A34,H⟩:=H;(try dsimp only at H)
       replace H:=Option.bind_eq_some_iff.mp H;obtain ⟨t638,A35,H⟩:=H;(try dsimp only at H)
       replace H:=sp_ H;rcases H with ⟨c36,H⟩ | ⟨c36,H⟩
       · skip
         subst c36
         replace H:=Option.bind_eq_some_iff.mp H;obtain ⟨⟨t639,t640⟩,A37,H⟩:=H;(try dsimp only at H)
         go_wp2_with (first | ((with_reducible refine gs (t:=25) rfl (L ?_));(first | refine sb (.agg #[_,_,_]) S sz25 ?_ | refine ro (.agg #[_,_,_]) S sz25 ?_ (ho:=rfl) (hx:=rfl) (hy:=rfl));(clear S F;intro W S;have F:=S.fc)))
         refine rq S [(1,0),(1,1),(2,2),(2,3),(0,4)] [] (h:=?_);clear S F;intro W S;have S0:=S;have F:=S.fc
         repeat (first | (refine q0 (h:=?_)) | (refine q1 S0 (h:=?_)) | (refine q0n (h:=?_)) | (refine q1n S0 (h:=?_)))
         refine lk2 (by rfl) (by exact (Eq.refl true)) ?_;refine cl (some 47) Try.func39 (laws_toBoard.calls _ _ _ _ _ _ _ _ _ _ S.c S.n A34) (hargs:=by (simp only [ma_,mb_,mc_,F] <;> rfl)) (h:=?_);rintro e W ⟨v636,rfl,ho0,hb⟩;refine ⟨_,rfl,?_⟩;replace S:=S.got at27 hb ho0;obtain ⟨At635,ct635,rfl,S⟩:=S;clear F hb ho0;have F:=S.fc
         clear S0;have S0:=S.tl;refine ⟨S0,?_⟩
         refine lk2 (by rfl) (by exact (Eq.refl true)) ?_;refine cl (some 48) Try.func41 (laws_eqBoard.calls _ _ _ _ _ _ _ _ _ _ _ _ _ S.c S.n S.c S.n A35) (hargs:=by (simp only [ma_,mb_,mc_,F] <;> rfl)) (h:=?_);rintro e W ⟨rfl,hb⟩;refine ⟨_,rfl,?_⟩;replace S:=S.go hb;clear F hb;have F:=S.fc
         clear S0;have S0:=S.tl;refine ⟨S0,?_⟩
         repeat (first | (refine q0 (h:=?_)) | (refine q1 S0 (h:=?_)) | (refine q0n (h:=?_)) | (refine q1n S0 (h:=?_)))
         refine oz ?_
         try clear S0
         go_upto_region 14 with (first | ((with_reducible refine gate_callee (f:=47) rfl (L ?_));obtain ⟨ok_,k_⟩:=S.lend (A:=At624);refine cl (some 52) Try.func47 (laws_markBoard.calls _ _ _ ok_ _ _ _ _ _ _ _ k_.below k_.own A37) (hargs:=by (simp only [ma_,mb_,mc_,F] <;> rfl)) (h:=?_);rintro e W ⟨rfl,hy,hb,hk⟩;refine ⟨_,rfl,?_⟩;clear S F;have S:=k_.back _ _ hy hb hk;clear k_ hy hb hk ok_;have F:=S.fc) | ((with_reducible refine gs (t:=25) rfl (L ?_));(first | refine sb (.agg #[_,_,_]) S sz25 ?_ | refine ro (.agg #[_,_,_]) S sz25 ?_ (ho:=rfl) (hx:=rfl) (hy:=rfl));(clear S F;intro W S;have F:=S.fc)))
         (try simp only [Act.put,List.setIfInBounds_toArray,List.set_cons_zero,List.set_cons_succ])
         go_cut [65] (fun v65 wc=>∃ (kq:Nat) (x65_37:Bool),v65 = .bool x65_37∧laws_FnExactNextStates.j1 kq a1 t618 t621 t628 x65_37 a0_0 a0_1 l0_2 = some r∧kq ≤ kj11∧St w w (fun _=>False) [bor at80 A0_2 c0_2 l0_2] wc  [row (atI .i64) 3 At628 t628.length ct628 t628,box gb627 25 [.int .i64 t622,.int .i64 t623,.slice At624 t624.length ct624],row at27 27 At624 t624.length ct624 t640,row (atI .i64) 3 At618 t618.length ct618 t618,box gb611 50 [.int .i64 a0_0,.int .i64 a0_1,.slice A0_2 l0_2.length c0_2]])
         case first =>
          replace H:=sp_ H;rcases H with ⟨c46,H⟩ | ⟨c46,H⟩
          · skip
            go_wp2_with (first | ((with_reducible refine gs (t:=25) rfl (L ?_));(first | refine sb (.agg #[_,_,_]) S sz25 ?_ | refine ro (.agg #[_,_,_]) S sz25 ?_ (ho:=rfl) (hx:=rfl) (hy:=rfl));(clear S F;intro W S;have F:=S.fc)))
            go_meet
            case rel=>exact ⟨_,true,(by first | rfl | (simp;done) | (simp [*];done) | (rw [w6_ (by omega) (by omega)])),(by first | exact H | (simp only [F];exact H)),(by first | omega | exact Nat.le_refl _),S.tl⟩
          · skip
            replace H:=Option.bind_eq_some_iff.mp H;obtain ⟨t641,A47,H⟩:=H;(try dsimp only at H)
            replace H:=sp_ H;rcases H with ⟨c48,H⟩ | ⟨c48,H⟩
            · skip
              subst c48
              go_wp2_with (first | (go_at_call 46;(try simp only [F]);refine (laws_eqIntS.calls _ _ _ _ _ _ _ _ _ S.c S.n S.c S.n A47).mono ?_;rintro e W ⟨rfl,hb⟩;replace S:=S.gw hb;clear F hb;have F:=S.fc) | ((with_reducible refine gs (t:=25) rfl (L ?_));(first | refine sb (.agg #[_,_,_]) S sz25 ?_ | refine ro (.agg #[_,_,_]) S sz25 ?_ (ho:=rfl) (hx:=rfl) (hy:=rfl));(clear S F;intro W S;have F:=S.fc)))
              go_meet
              case rel=>exact ⟨_,(t631 != t621),(by first | rfl | (simp;done) | (simp [*];done) | (rw [w6_ (by omega) (by omega)])),(by first | exact H | (simp only [F];exact H)),(by first | omega | exact Nat.le_refl _),S.tl⟩
            · skip
              replace c48:=cbf c48;subst c48
              go_wp2_with (first | (go_at_call 46;(try simp only [F]);refine (laws_eqIntS.calls _ _ _ _ _ _ _ _ _ S.c S.n S.c S.n A47).mono ?_;rintro e W ⟨rfl,hb⟩;replace S:=S.gw hb;clear F hb;have F:=S.fc) | ((with_reducible refine gs (t:=25) rfl (L ?_));(first | refine sb (.agg #[_,_,_]) S sz25 ?_ | refine ro (.agg #[_,_,_]) S sz25 ?_ (ho:=rfl) (hx:=rfl) (hy:=rfl));(clear S F;intro W S;have F:=S.fc)))
              go_meet
              case rel=>exact ⟨_,true,(by first | rfl | (simp;done) | (simp [*];done) | (rw [w6_ (by omega) (by omega)])),(by first | exact H | (simp only [F];exact H)),(by first | omega | exact Nat.le_refl _),S.tl⟩
         case rest =>
          clear H S F
          obtain ⟨kq,x65_37,rfl,HA,HJ37,S⟩:=hcut
          have F:=S.fc
          cases kq with
          | zero=>exact absurd HA (by simp [laws_FnExactNextStates.j1])
          | succ kj37 =>
           have H:=HA;clear HA;simp only [laws_FnExactNextStates.j1,F] at H
           replace H:=sp_ H;rcases H with ⟨c53,H⟩ | ⟨c53,H⟩
           · skip
             subst c53
             exact absurd (H.trans (congrArg some HRT.out)) (by simp)
           · skip
             replace c53:=cbf c53;subst c53
             replace H:=Option.bind_eq_some_iff.mp H;obtain ⟨⟨t642,t643⟩,A54,H⟩:=H;(try dsimp only at H)
             replace H:=Option.bind_eq_some_iff.mp H;obtain ⟨t644,A55,H⟩:=H;(try dsimp only at H)
             replace H:=sp_ H;rcases H with ⟨c56,H⟩ | ⟨c56,H⟩
             · skip
               exact absurd (H.trans (congrArg some HRT.out)) (by simp)
             · skip
               replace H:=sp_ H;rcases H with ⟨c57,H⟩ | ⟨c57,H⟩
               · skip
                 replace c57:=ceq c57
                 replace H:=Option.bind_eq_some_iff.mp H;obtain ⟨⟨t645,t646,t647⟩,A58,H⟩:=H;(try dsimp only at H)
                 replace H:=Option.bind_eq_some_iff.mp H;obtain ⟨⟨t650,t653⟩,A59,H⟩:=H;(try dsimp only at H)
                 go_upto_region 25 with (first | ((with_reducible refine gate_callee (f:=48) rfl (L ?_));obtain ⟨ok_,k_⟩:=S.lend (A:=At628);refine cl (some 68) Try.func48 (laws_markIntS.calls _ ok_ _ _ _ _ _ _ _ k_.below k_.own A54) (hargs:=by (simp only [ma_,mb_,mc_,F] <;> rfl)) (h:=?_);rintro e W ⟨rfl,hy,hb,hk⟩;refine ⟨_,rfl,?_⟩;clear S F;have S:=k_.back _ _ hy hb hk;clear k_ hy hb hk ok_;have F:=S.fc) | ((with_reducible refine gate_callee (f:=49) rfl (L ?_));refine cl (some 71) Try.func49 (laws_heldIntS.calls _ _ _ _ _ _ _ S.c S.n A55) (hargs:=by (simp only [ma_,mb_,mc_,F] <;> rfl)) (h:=?_);rintro e W ⟨rfl,hb⟩;refine ⟨_,rfl,?_⟩;replace S:=S.gw hb;clear F hb;have F:=S.fc) | ((with_reducible refine gate_callee (f:=39) rfl (L ?_));refine cl (some 79) Try.func39 (laws_toBoard.calls _ _ _ _ _ _ _ _ _ _ S.c S.n A58) (hargs:=by (simp only [ma_,mb_,mc_,F] <;> rfl)) (h:=?_);rintro e W ⟨v648,rfl,ho0,hb⟩;refine ⟨_,rfl,?_⟩;replace S:=S.got at27 hb ho0;obtain ⟨At647,ct647,rfl,S⟩:=S;clear F hb ho0;have F:=S.fc) | ((with_reducible refine gate_callee (f:=45) rfl (L ?_));refine cl (some 81) Try.func45 (impl_NextStates.calls _ _ _ _ _ _ _ _ _ _ S.c S.n A59) (hargs:=by (simp only [ma_,mb_,mc_,F] <;> rfl)) (h:=?_);rintro e W ⟨v651,rfl,ho0,hb⟩;refine ⟨_,rfl,?_⟩;replace S:=S.got (atI .i64) hb ho0;obtain ⟨At650,ct650,rfl,S⟩:=S;clear F hb ho0;have F:=S.fc) | ((with_reducible refine gs (t:=25) rfl (L ?_));(first | refine sb (.agg #[_,_,_]) S sz25 ?_ | refine ro (.agg #[_,_,_]) S sz25 ?_ (ho:=rfl) (hx:=rfl) (hy:=rfl));(clear S F;intro W S;have F:=S.fc)))
                 (try simp only [Act.put,List.setIfInBounds_toArray,List.set_cons_zero,List.set_cons_succ])
                 go_cut [92] (fun v92 wc=>∃ (kq:Nat) (x92_59:Bool),v92 = .bool x92_59∧laws_FnExactNextStates.j2 kq t643 t642 x92_59 = some r∧kq ≤ kj37∧St w w (fun _=>False) [bor at80 A0_2 c0_2 l0_2] wc  [row (atI .i64) 3 At628 t628.length ct628 t643,box gb627 25 [.int .i64 t622,.int .i64 t623,.slice At624 t624.length ct624],row at27 27 At624 t624.length ct624 t640,box gb611 50 [.int .i64 a0_0,.int .i64 a0_1,.slice A0_2 l0_2.length c0_2]])
                 case first =>
                  replace H:=Option.bind_eq_some_iff.mp H;obtain ⟨t654,A68,H⟩:=H;(try dsimp only at H)
                  replace H:=sp_ H;rcases H with ⟨c69,H⟩ | ⟨c69,H⟩
                  · skip
                    subst c69
                    go_wp2_with (first | ((with_reducible refine gate_callee (f:=46) rfl (L ?_));refine cl (some 86) Try.func46 (laws_eqIntS.calls _ _ _ _ _ _ _ _ _ S.c S.n S.c S.n A68) (hargs:=by (simp only [ma_,mb_,mc_,F] <;> rfl)) (h:=?_);rintro e W ⟨rfl,hb⟩;refine ⟨_,rfl,?_⟩;replace S:=S.gw hb;clear F hb;have F:=S.fc) | ((with_reducible refine gs (t:=25) rfl (L ?_));(first | refine sb (.agg #[_,_,_]) S sz25 ?_ | refine ro (.agg #[_,_,_]) S sz25 ?_ (ho:=rfl) (hx:=rfl) (hy:=rfl));(clear S F;intro W S;have F:=S.fc)))
                    go_meet
                    case rel=>exact ⟨_,(t653 != t621),(by first | rfl | (simp;done) | (simp [*];done) | (rw [w6_ (by omega) (by omega)])),(by first | exact H | (simp only [F];exact H)),(by first | omega | exact Nat.le_refl _),(S.ms [0,0,1,1,1,0])⟩
                  · skip
                    replace c69:=cbf c69;subst c69
                    go_wp2_with (first | ((with_reducible refine gate_callee (f:=46) rfl (L ?_));refine cl (some 86) Try.func46 (laws_eqIntS.calls _ _ _ _ _ _ _ _ _ S.c S.n S.c S.n A68) (hargs:=by (simp only [ma_,mb_,mc_,F] <;> rfl)) (h:=?_);rintro e W ⟨rfl,hb⟩;refine ⟨_,rfl,?_⟩;replace S:=S.gw hb;clear F hb;have F:=S.fc) | ((with_reducible refine gs (t:=25) rfl (L ?_));(first | refine sb (.agg #[_,_,_]) S sz25 ?_ | refine ro (.agg #[_,_,_]) S sz25 ?_ (ho:=rfl) (hx:=rfl) (hy:=rfl));(clear S F;intro W S;have F:=S.fc)))
                    go_meet
                    case rel=>exact ⟨_,true,(by first | rfl | (simp;done) | (simp [*];done) | (rw [w6_ (by omega) (by omega)])),(by first | exact H | (simp only [F];exact H)),(by first | omega | exact Nat.le_refl _),(S.ms [0,0,1,1,1,0])⟩
                 case rest =>
                  clear H S F
                  obtain ⟨kq,x92_59,rfl,HA,HJ59,S⟩:=hcut
                  have F:=S.fc
                  cases kq with
                  | zero=>exact absurd HA (by simp [laws_FnExactNextStates.j2])
                  | succ kj59 =>
                   have H:=HA;clear HA;simp only [laws_FnExactNextStates.j2,F] at H
                   replace H:=sp_ H;rcases H with ⟨c74,H⟩ | ⟨c74,H⟩
                   · skip
                     subst c74
                     exact absurd (H.trans (congrArg some HRT.out)) (by simp)
                   · skip
                     replace c74:=cbf c74;subst c74
                     replace H:=Option.bind_eq_some_iff.mp H;obtain ⟨t655,A75,H⟩:=H;(try dsimp only at H)
                     replace H:=sp_ H;rcases H with ⟨c76,H⟩ | ⟨c76,H⟩
                     · skip
                       exact absurd (H.trans (congrArg some HRT.out)) (by simp)
                     · skip
                       replace H:=sp_ H;rcases H with ⟨c77,H⟩ | ⟨c77,H⟩
                       · skip
                         replace c77:=ceq c77
                         obtain rfl:=Option.some.inj H
                         go_wp2_with (first | ((with_reducible refine gate_callee (f:=49) rfl (L ?_));refine cl (some 95) Try.func49 (laws_heldIntS.calls _ _ _ _ _ _ _ S.c S.n A75) (hargs:=by (simp only [ma_,mb_,mc_,F] <;> rfl)) (h:=?_);rintro e W ⟨rfl,hb⟩;refine ⟨_,rfl,?_⟩;replace S:=S.gw hb;clear F hb;have F:=S.fc) | ((with_reducible refine gs (t:=25) rfl (L ?_));(first | refine sb (.agg #[_,_,_]) S sz25 ?_ | refine ro (.agg #[_,_,_]) S sz25 ?_ (ho:=rfl) (hx:=rfl) (hy:=rfl));(clear S F;intro W S;have F:=S.fc)))
                         go_ret
                         exact ⟨(by first | rfl | (simp [e0_,e1_] <;> rfl) | (simp [*,e0_,e1_] <;> rfl)),S.below⟩
                       · skip
                         replace c77:=cne c77
                         exact absurd (H.trans (congrArg some HRT.out)) (by simp)
               · skip
                 replace c57:=cne c57
                 exact absurd (H.trans (congrArg some HRT.out)) (by simp)
       · skip
         replace c36:=cbf c36;subst c36
         exact absurd (H.trans (congrArg some HRT.out)) (by simp)
end Go.Proofs.Ytimeepcpgjnajaa.F
