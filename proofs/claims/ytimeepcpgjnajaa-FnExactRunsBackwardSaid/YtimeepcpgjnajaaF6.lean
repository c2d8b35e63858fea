-- Printed by a program; checked here.
import Derived.Test.YtimeepcpgjnajaaF0
import Derived.Test.YtimeepcpgjnajaaF1
import Derived.Test.YtimeepcpgjnajaaF2
import Derived.Test.YtimeepcpgjnajaaF3
import Derived.Test.YtimeepcpgjnajaaF4
namespace Go.Proofs.Ytimeepcpgjnajaa.F
open Go.RowKit Go.Proofs.YtimeepcpgjnajaaV.PrintWords Go.Proofs.YtimeepcpgjnajaaV.PrintLast Go.Proofs.YtimeepcpgjnajaaV.PrintMore Go.Proofs.YtimeepcpgjnajaaV.Sl
attribute [local go_sem] max2_int min2_int max_two min_two max_three min_three max_four min_four ia_opt it_opt
attribute [local go_sem] Try.underlying23 Try.underlying25 Try.underlying27 Try.underlying35 Try.underlying50 Try.underlying80 Try.underlying114 Try.underlying137
set_option maxHeartbeats 8000000
set_option maxRecDepth 100000
set_option linter.unusedVariables false
set_option linter.unusedSimpArgs false

/-! ### spec_RunsBackward: function 38 -/
def spec_RunsBackward.l0:Nat→List Int→Int→Int→Option (Bool × Bool)
  | 0,_,_,_=>none
  | k + 1,x6,x16,x17=>if x17 < x16 then ((spec_rvBefore.f k x6 x17).bind fun t330=>(if (t330.length:Int) = 1 then (spec_RunsBackward.l0 k x6 x16 (wrap64 (x17 + 1))) else (some (false,true)))) else (some (true,true))
def spec_RunsBackward.f (k:Nat) (a0_0:Int) (a0_1:Int) (l0_2:List (S27)) (a1:Int):Option (Bool × Bool):=(spec_rvHas.f k a0_0 a0_1 l0_2 a1).bind fun t326=>(if t326 = true then ((spec_rvNext.f k a0_0 a0_1 l0_2 a1).bind fun t327=>(spec_RunsBackward.l0 k t327 (t327.length:Int) 0)) else (some (false,false)))
theorem spec_RunsBackward.calls (k:Nat) (a0_0:Int) (a0_1:Int) (A0_2:Option Addr) (c0_2:Nat) (l0_2:List (S27)) (a1:Int) (r1:Bool) (r2:Bool) (w:World) (hr0_2:Kd.C k27 w A0_2 l0_2.length l0_2) (hc0_2:l0_2.length ≤ c0_2) (h:spec_RunsBackward.f k a0_0 a0_1 l0_2 a1 = some (r1,r2)) :
    Calls Try.prog 38 #[.agg #[.int .i64 a0_0,.int .i64 a0_1,.slice A0_2 l0_2.length c0_2],.int .i64 a1] w fun e w'=>e = .returned (.tuple #[.bool r1,.bool r2])∧Below w.heap.size w w':=by
 have S:=St.init (w:=w) (dc k27_heap at27 hr0_2 hc0_2 dn)
 clear hr0_2 hc0_2
 have F:=S.fc
 have H:=h;clear h;unfold spec_RunsBackward.f at H
 replace H:=Option.bind_eq_some_iff.mp H;obtain ⟨t326,A3,H⟩:=H;(try dsimp only at H)
 replace H:=sp_ H;rcases H with ⟨c4,H⟩ | ⟨c4,H⟩
 · skip
   subst c4
   replace H:=Option.bind_eq_some_iff.mp H;obtain ⟨t327,A5,H⟩:=H;(try dsimp only at H)
   go_enter Try.func38,Try.ntmps38
   go_wp2_with (first | ((with_reducible refine gd 2 rfl (L ?_));refine bo 2 (.agg #[_,_,_]) S ?_;clear S F;intro gb325 W S;have F:=S.fc) | ((with_reducible refine gate_callee (f:=100) rfl (L ?_));refine cl (some 10) Try.func100 (spec_rvHas.calls _ _ _ _ _ _ _ _ _ S.c S.n A3) (hargs:=by (simp only [ma_,mb_,mc_,F] <;> rfl)) (h:=?_);rintro e W ⟨rfl,hb⟩;refine ⟨_,rfl,?_⟩;replace S:=S.go hb;clear F hb;have F:=S.fc) | ((with_reducible refine gate_callee (f:=101) rfl (L ?_));refine cl (some 14) Try.func101 (spec_rvNext.calls _ _ _ _ _ _ _ _ _ S.c S.n A5) (hargs:=by (simp only [ma_,mb_,mc_,F] <;> rfl)) (h:=?_);rintro e W ⟨v328,rfl,ho0,hb⟩;refine ⟨_,rfl,?_⟩;replace S:=S.got (atI .i64) hb ho0;obtain ⟨At327,ct327,rfl,S⟩:=S;clear F hb ho0;have F:=S.fc))
   go_loopg [17] k (fun kq v17 w'=>∃ (x17_1:Int),v17 = .int .i64 x17_1∧spec_RunsBackward.l0 kq t327 (t327.length:Int) x17_1 = some (r1,r2)∧kq ≤ k∧St w w (fun _=>False) [bor at27 A0_2 c0_2 l0_2] w'  [row (atI .i64) 3 At327 t327.length ct327 t327,box gb325 25 [.int .i64 a0_0,.int .i64 a0_1,.slice A0_2 l0_2.length c0_2]])
   case atStart=>exact ⟨0,(by first | rfl | (simp;done) | (simp [*];done) | (rw [w6_ (by omega) (by omega)])),H,Nat.le_refl _,S⟩
   case round =>
    clear H S F
    obtain ⟨x17_1,rfl,HA,HK1,S⟩:=hrel
    have F:=S.fc
    cases gk with
    | zero=>exact absurd HA (by simp [spec_RunsBackward.l0])
    | succ k1 =>
     have H:=HA;clear HA;simp only [spec_RunsBackward.l0,F] at H
     replace H:=sp_ H;rcases H with ⟨c12,H⟩ | ⟨c12,H⟩
     · skip
       replace H:=Option.bind_eq_some_iff.mp H;obtain ⟨t330,A13,H⟩:=H;(try dsimp only at H)
       replace H:=sp_ H;rcases H with ⟨c14,H⟩ | ⟨c14,H⟩
       · skip
         replace c14:=ceq c14
         go_wp2_with (first | ((with_reducible refine gate_callee (f:=102) rfl (L ?_));refine cl (some 22) Try.func102 (spec_rvBefore.calls _ _ _ _ _ _ _ S.c S.n A13) (hargs:=by (simp only [ma_,mb_,mc_,F] <;> rfl)) (h:=?_);rintro e W ⟨v331,rfl,ho0,hb⟩;refine ⟨_,rfl,?_⟩;replace S:=S.got (atI .i64) hb ho0;obtain ⟨At330,ct330,rfl,S⟩:=S;clear F hb ho0;have F:=S.fc))
         go_roundg k1
         case measure=>omega
         case rel=>exact ⟨(wrap64 (x17_1 + 1)),(by first | rfl | (simp;done) | (simp [*];done) | (rw [w6_ (by omega) (by omega)])),H,(by first | omega | exact Nat.le_refl _),S.tl⟩
       · skip
         replace c14:=cne c14
         simp only [Option.some.injEq,Prod.mk.injEq] at H
         obtain ⟨rfl,rfl⟩:=H
         go_wp2_with (first | ((with_reducible refine gate_callee (f:=102) rfl (L ?_));refine cl (some 22) Try.func102 (spec_rvBefore.calls _ _ _ _ _ _ _ S.c S.n A13) (hargs:=by (simp only [ma_,mb_,mc_,F] <;> rfl)) (h:=?_);rintro e W ⟨v331,rfl,ho0,hb⟩;refine ⟨_,rfl,?_⟩;replace S:=S.got (atI .i64) hb ho0;obtain ⟨At330,ct330,rfl,S⟩:=S;clear F hb ho0;have F:=S.fc))
         go_ret2
         exact ⟨(by first | rfl | (simp [e0_,e1_] <;> rfl) | (simp [*,e0_,e1_] <;> rfl)),S.below⟩
     · skip
       simp only [Option.some.injEq,Prod.mk.injEq] at H
       obtain ⟨rfl,rfl⟩:=H
       go_wp2
       go_ret2
       exact ⟨(by first | rfl | (simp [e0_,e1_] <;> rfl) | (simp [*,e0_,e1_] <;> rfl)),S.below⟩
 · skip
   replace c4:=cbf c4;subst c4
   simp only [Option.some.injEq,Prod.mk.injEq] at H
   obtain ⟨rfl,rfl⟩:=H
   go_enter Try.func38,Try.ntmps38
   go_wp2_with (first | ((with_reducible refine gd 2 rfl (L ?_));refine bo 2 (.agg #[_,_,_]) S ?_;clear S F;intro gb325 W S;have F:=S.fc) | ((with_reducible refine gate_callee (f:=100) rfl (L ?_));refine cl (some 10) Try.func100 (spec_rvHas.calls _ _ _ _ _ _ _ _ _ S.c S.n A3) (hargs:=by (simp only [ma_,mb_,mc_,F] <;> rfl)) (h:=?_);rintro e W ⟨rfl,hb⟩;refine ⟨_,rfl,?_⟩;replace S:=S.go hb;clear F hb;have F:=S.fc))
   go_ret2
   exact ⟨(by first | rfl | (simp [e0_,e1_] <;> rfl) | (simp [*,e0_,e1_] <;> rfl)),S.below⟩

/-! ### impl_RunsBackward: function 40 -/
def impl_RunsBackward.l0:Nat→List Int→Int→Int→Option (Bool × Bool)
  | 0,_,_,_=>none
  | k + 1,x18,x19,x20=>if x20 < x19 then (if 0 ≤ x20 then (if x20 < (x18.length:Int) then (if (rd x18 x20) = 1 then (impl_RunsBackward.l0 k x18 x19 (wrap64 (x20 + 1))) else (some (false,true))) else (none)) else (none)) else (some (true,true))
def impl_RunsBackward.f (k:Nat) (a0_0:Int) (a0_1:Int) (l0_2:List (S27)) (a1:Int):Option (Bool × Bool):=(impl_goesBack.f k a0_0 a0_1 l0_2 a1).bind fun t485=>(if t485 = true then ((impl_numbersAfter.f k a0_0 a0_1 l0_2 (([a1]:List Int))).bind fun t489=>(if 0 < (t489.length:Int) then ((impl_timesReached.f k (rd_L3 t489 0)).bind fun t493=>(impl_RunsBackward.l0 k t493 (t493.length:Int) 0)) else (none))) else (some (false,false)))
theorem impl_RunsBackward.calls (k:Nat) (a0_0:Int) (a0_1:Int) (A0_2:Option Addr) (c0_2:Nat) (l0_2:List (S27)) (a1:Int) (r1:Bool) (r2:Bool) (w:World) (hr0_2:Kd.C k27 w A0_2 l0_2.length l0_2) (hc0_2:l0_2.length ≤ c0_2) (h:impl_RunsBackward.f k a0_0 a0_1 l0_2 a1 = some (r1,r2)) :
    Calls Try.prog 40 #[.agg #[.int .i64 a0_0,.int .i64 a0_1,.slice A0_2 l0_2.length c0_2],.int .i64 a1] w fun e w'=>e = .returned (.tuple #[.bool r1,.bool r2])∧Below w.heap.size w w':=by
 have S:=St.init (w:=w) (dc k27_heap at27 hr0_2 hc0_2 dn)
 clear hr0_2 hc0_2
 have F:=S.fc
 have H:=h;clear h;unfold impl_RunsBackward.f at H
 replace H:=Option.bind_eq_some_iff.mp H;obtain ⟨t485,A3,H⟩:=H;(try dsimp only at H)
 replace H:=sp_ H;rcases H with ⟨c4,H⟩ | ⟨c4,H⟩
 · skip
   subst c4
   (first | (with_reducible replace H:=ob_ H;obtain ⟨y486,hy486,H⟩:=H;(try dsimp only at H)) | (obtain ⟨y486,hy486⟩:∃ y_:List Int,y_ = (([a1]:List Int)):=⟨_,rfl⟩;(try rw [← hy486] at H);(try simp only [Option.bind_some] at H)));have Ny486:=Aside0.mk hy486;clear hy486
   replace H:=Option.bind_eq_some_iff.mp H;obtain ⟨t489,A5,H⟩:=H;(try dsimp only at H)
   replace H:=np_ H;obtain ⟨c6,H⟩:=H;(try have m_t489:0 < t489.length:=by omega)
   replace H:=Option.bind_eq_some_iff.mp H;obtain ⟨t493,A7,H⟩:=H;(try dsimp only at H)
   go_enter Try.func40,Try.ntmps40
   go_wp2_with (first | ((with_reducible refine gd 2 rfl (L ?_));refine bo 2 (.agg #[_,_,_]) S ?_;clear S F;intro gb484 W S;have F:=S.fc) | ((with_reducible refine gate_callee (f:=104) rfl (L ?_));refine cl (some 10) Try.func104 (impl_goesBack.calls _ _ _ _ _ _ _ _ _ S.c S.n A3) (hargs:=by (simp only [ma_,mb_,mc_,F] <;> rfl)) (h:=?_);rintro e W ⟨rfl,hb⟩;refine ⟨_,rfl,?_⟩;replace S:=S.go hb;clear F hb;have F:=S.fc) | ((with_reducible refine gd 14 rfl (L ?_));refine lia 14 (atI .i64) 3 S ([a1]:List Int) (fun _ _=>(Reps.one (show Kd.M (Kd.int .i64) _ _ _ a1 [.int .i64 a1] from rfl) (Reps.none _ _))) (by first | (go_simp;done) | (go_simp;rfl)) ?_;clear S F;intro Ay486 cy486 W S;(try rw [← Ny486.out] at S ⊢);have F:=S.fc) | ((with_reducible refine gate_callee (f:=106) rfl (L ?_));refine cl (some 15) Try.func106 (impl_numbersAfter.calls _ _ _ _ _ _ _ _ _ _ _ S.c S.n S.c S.n A5) (hargs:=by (simp only [ma_,mb_,mc_,F] <;> rfl)) (h:=?_);rintro e W ⟨v490,rfl,ho0,hb⟩;refine ⟨_,rfl,?_⟩;replace S:=S.got (atU (d:=Kd.slice 3 (Kd.int .i64))) hb ho0;obtain ⟨At489,ct489,rfl,S⟩:=S;clear F hb ho0;(try rw [← Ny486.out] at S);replace S:=S.fzr At489 rfl;obtain ⟨Ait489,cit489,S⟩:=S.innz t489 (atI .i64) (rd_L3 t489 0);have F:=S.fc) | ((with_reducible refine gate_callee (f:=105) rfl (L ?_));refine cl (some 18) Try.func105 (impl_timesReached.calls _ _ _ _ _ _ S.c S.n A7) (hargs:=by (simp only [ma_,mb_,mc_,F] <;> rfl)) (h:=?_);rintro e W ⟨v494,rfl,ho0,hb⟩;refine ⟨_,rfl,?_⟩;replace S:=S.got (atI .i64) hb ho0;obtain ⟨At493,ct493,rfl,S⟩:=S;clear F hb ho0;(try rw [← Ny486.out] at S);have F:=S.fc))
   go_loopg [20] k (fun kq v20 w'=>∃ (x20_1:Int),v20 = .int .i64 x20_1∧impl_RunsBackward.l0 kq t493 (t493.length:Int) x20_1 = some (r1,r2)∧kq ≤ k∧St w w (fun _=>False) [bcell (adr At489) (.slice Ait489 (rd_L3 t489 0).length cit489),bcell ((adr At489).add 0) (.slice Ait489 (rd_L3 t489 0).length cit489),bor (atI .i64) Ait489 cit489 (rd_L3 t489 0),bor (atU (d:=Kd.slice 3 (Kd.int .i64))) At489 ct489 t489,bor at27 A0_2 c0_2 l0_2] w'  [row (atI .i64) 3 At493 t493.length ct493 t493,box gb484 25 [.int .i64 a0_0,.int .i64 a0_1,.slice A0_2 l0_2.length c0_2]])
   case atStart=>exact ⟨0,(by first | rfl | (simp;done) | (simp [*];done) | (rw [w6_ (by omega) (by omega)])),H,Nat.le_refl _,(S.pm [0,3])⟩
   case round =>
    clear H S F
    obtain ⟨x20_1,rfl,HA,HK1,S⟩:=hrel
    have F:=S.fc
    cases gk with
    | zero=>exact absurd HA (by simp [impl_RunsBackward.l0])
    | succ k1 =>
     have H:=HA;clear HA;simp only [impl_RunsBackward.l0,F] at H
     replace H:=sp_ H;rcases H with ⟨c19,H⟩ | ⟨c19,H⟩
     · skip
       replace H:=np_ H;obtain ⟨c20,H⟩:=H
       replace H:=np_ H;obtain ⟨c21,H⟩:=H
       replace H:=sp_ H;rcases H with ⟨c22,H⟩ | ⟨c22,H⟩
       · skip
         replace c22:=ceq c22
         go_wp2
         go_roundg k1
         case measure=>omega
         case rel=>exact ⟨(wrap64 (x20_1 + 1)),(by first | rfl | (simp;done) | (simp [*];done) | (rw [w6_ (by omega) (by omega)])),H,(by first | omega | exact Nat.le_refl _),S⟩
       · skip
         replace c22:=cne c22
         simp only [Option.some.injEq,Prod.mk.injEq] at H
         obtain ⟨rfl,rfl⟩:=H
         go_wp2
         go_ret2
         exact ⟨(by first | rfl | (simp [e0_,e1_] <;> rfl) | (simp [*,e0_,e1_] <;> rfl)),S.below⟩
     · skip
       simp only [Option.some.injEq,Prod.mk.injEq] at H
       obtain ⟨rfl,rfl⟩:=H
       go_wp2
       go_ret2
       exact ⟨(by first | rfl | (simp [e0_,e1_] <;> rfl) | (simp [*,e0_,e1_] <;> rfl)),S.below⟩
 · skip
   replace c4:=cbf c4;subst c4
   simp only [Option.some.injEq,Prod.mk.injEq] at H
   obtain ⟨rfl,rfl⟩:=H
   go_enter Try.func40,Try.ntmps40
   go_wp2_with (first | ((with_reducible refine gd 2 rfl (L ?_));refine bo 2 (.agg #[_,_,_]) S ?_;clear S F;intro gb484 W S;have F:=S.fc) | ((with_reducible refine gate_callee (f:=104) rfl (L ?_));refine cl (some 10) Try.func104 (impl_goesBack.calls _ _ _ _ _ _ _ _ _ S.c S.n A3) (hargs:=by (simp only [ma_,mb_,mc_,F] <;> rfl)) (h:=?_);rintro e W ⟨rfl,hb⟩;refine ⟨_,rfl,?_⟩;replace S:=S.go hb;clear F hb;have F:=S.fc))
   go_ret2
   exact ⟨(by first | rfl | (simp [e0_,e1_] <;> rfl) | (simp [*,e0_,e1_] <;> rfl)),S.below⟩

/-! ### laws_FnExactRunsBackward: function 4 -/
def laws_FnExactRunsBackward.j0:Nat→Bool→Int→Int→List (S80)→Int→Int→List (S27)→Option (Bool)
  | 0,_,_,_,_,_,_,_=>none
  | k + 1,x38,x506000,x506001,x506002,x520000,x520001,x520002=>if x38 = true then (some false) else ((laws_toBoard.f k x506000 x506001 x506002).bind fun bt522=>((laws_eqBoard.f k x520000 x520001 x520002 bt522.1 bt522.2.1 bt522.2.2).bind fun t527=>(if t527 = true then (some true) else (some false))))
def laws_FnExactRunsBackward.f (k:Nat) (a0_0:Int) (a0_1:Int) (l0_2:List (S80)) (a1:Int):Option (Bool):=(laws_szBoard.f a0_0 a0_1 l0_2 1048576).bind fun t506=>(if t506 < 0 then (some true) else ((laws_toBoard.f k a0_0 a0_1 l0_2).bind fun bt507=>((spec_RunsBackward.f k bt507.1 bt507.2.1 bt507.2.2 a1).bind fun bt512=>((laws_toBoard.f k a0_0 a0_1 l0_2).bind fun bt514=>((impl_RunsBackward.f k bt514.1 bt514.2.1 bt514.2.2 a1).bind fun bt520=>(if (bt520.1 != bt512.1) = true then (laws_FnExactRunsBackward.j0 k true a0_0 a0_1 l0_2 bt514.1 bt514.2.1 bt514.2.2) else (laws_FnExactRunsBackward.j0 k (bt520.2 != bt512.2) a0_0 a0_1 l0_2 bt514.1 bt514.2.1 bt514.2.2)))))))
theorem laws_FnExactRunsBackward.calls (k:Nat) (a0_0:Int) (a0_1:Int) (A0_2:Option Addr) (c0_2:Nat) (l0_2:List (S80)) (a1:Int) (r:Bool) (w:World) (hr0_2:Kd.C k80 w A0_2 l0_2.length l0_2) (hc0_2:l0_2.length ≤ c0_2) (hrt:r = true) (h:laws_FnExactRunsBackward.f k a0_0 a0_1 l0_2 a1 = some r) :
    Calls Try.prog 4 #[.agg #[.int .i64 a0_0,.int .i64 a0_1,.slice A0_2 l0_2.length c0_2],.int .i64 a1] w fun e w'=>e = .returned (.bool r)∧Below w.heap.size w w':=by
 have S:=St.init (w:=w) (dc k80_heap at80 hr0_2 hc0_2 dn)
 have HRT:=Aside0.mk hrt;clear hrt
 clear hr0_2 hc0_2
 have F:=S.fc
 have H:=h;clear h;unfold laws_FnExactRunsBackward.f at H
 replace H:=Option.bind_eq_some_iff.mp H;obtain ⟨t506,A3,H⟩:=H;(try dsimp only at H)
 replace H:=sp_ H;rcases H with ⟨c4,H⟩ | ⟨c4,H⟩
 · skip
   obtain rfl:=Option.some.inj H
   go_enter Try.func4,Try.ntmps4
   go_wp2_with (first | ((with_reducible refine gd 2 rfl (L ?_));refine bo 2 (.agg #[_,_,_]) S ?_;clear S F;intro gb505 W S;have F:=S.fc) | ((with_reducible refine gate_callee (f:=37) rfl (L ?_));refine cl (some 13) Try.func37 (laws_szBoard.calls _ _ _ _ _ _ _ _ S.c S.n A3) (hargs:=by (simp only [ma_,mb_,mc_,F] <;> rfl)) (h:=?_);rintro e W ⟨rfl,hb⟩;refine ⟨_,rfl,?_⟩;replace S:=S.go hb;clear F hb;have F:=S.fc) | ((with_reducible refine gs (t:=25) rfl (L ?_));(first | refine sb (.agg #[_,_,_]) S sz25 ?_ | refine ro (.agg #[_,_,_]) S sz25 ?_ (ho:=rfl) (hx:=rfl) (hy:=rfl));(clear S F;intro W S;have F:=S.fc)))
   go_ret
   exact ⟨(by first | rfl | (simp [e0_,e1_] <;> rfl) | (simp [*,e0_,e1_] <;> rfl)),S.below⟩
 · skip
   replace H:=Option.bind_eq_some_iff.mp H;obtain ⟨⟨t507,t508,t509⟩,A8,H⟩:=H;(try dsimp only at H)
   replace H:=Option.bind_eq_some_iff.mp H;obtain ⟨⟨t512,t513⟩,A9,H⟩:=H;(try dsimp only at H)
   replace H:=Option.bind_eq_some_iff.mp H;obtain ⟨⟨t514,t515,t516⟩,A10,H⟩:=H;(try dsimp only at H)
   replace H:=Option.bind_eq_some_iff.mp H;obtain ⟨⟨t520,t521⟩,A11,H⟩:=H;(try dsimp only at H)
   go_enter Try.func4,Try.ntmps4
   go_upto_region 8 with (first | ((with_reducible refine gd 2 rfl (L ?_));refine bo 2 (.agg #[_,_,_]) S ?_;clear S F;intro gb505 W S;have F:=S.fc) | ((with_reducible refine gate_callee (f:=37) rfl (L ?_));refine cl (some 13) Try.func37 (laws_szBoard.calls _ _ _ _ _ _ _ _ S.c S.n A3) (hargs:=by (simp only [ma_,mb_,mc_,F] <;> rfl)) (h:=?_);rintro e W ⟨rfl,hb⟩;refine ⟨_,rfl,?_⟩;replace S:=S.go hb;clear F hb;have F:=S.fc) | ((with_reducible refine gate_callee (f:=39) rfl (L ?_));refine cl (some 18) Try.func39 (laws_toBoard.calls _ _ _ _ _ _ _ _ _ _ S.c S.n A8) (hargs:=by (simp only [ma_,mb_,mc_,F] <;> rfl)) (h:=?_);rintro e W ⟨v510,rfl,ho0,hb⟩;refine ⟨_,rfl,?_⟩;replace S:=S.got at27 hb ho0;obtain ⟨At509,ct509,rfl,S⟩:=S;clear F hb ho0;have F:=S.fc) | ((with_reducible refine gate_callee (f:=38) rfl (L ?_));refine cl (some 20) Try.func38 (spec_RunsBackward.calls _ _ _ _ _ _ _ _ _ _ S.c S.n A9) (hargs:=by (simp only [ma_,mb_,mc_,F] <;> rfl)) (h:=?_);rintro e W ⟨rfl,hb⟩;refine ⟨_,rfl,?_⟩;replace S:=S.go hb;clear F hb;have F:=S.fc) | ((with_reducible refine gate_callee (f:=39) rfl (L ?_));refine cl (some 24) Try.func39 (laws_toBoard.calls _ _ _ _ _ _ _ _ _ _ S.c S.n A10) (hargs:=by (simp only [ma_,mb_,mc_,F] <;> rfl)) (h:=?_);rintro e W ⟨v517,rfl,ho0,hb⟩;refine ⟨_,rfl,?_⟩;replace S:=S.got at27 hb ho0;obtain ⟨At516,ct516,rfl,S⟩:=S;clear F hb ho0;have F:=S.fc) | ((with_reducible refine gd 8 rfl (L ?_));refine al 8 S zi25 ?_;clear S F;intro gb519 W S;have F:=S.fc) | ((with_reducible refine gate_callee (f:=40) rfl (L ?_));refine cl (some 28) Try.func40 (impl_RunsBackward.calls _ _ _ _ _ _ _ _ _ _ S.c S.n A11) (hargs:=by (simp only [ma_,mb_,mc_,F] <;> rfl)) (h:=?_);rintro e W ⟨rfl,hb⟩;refine ⟨_,rfl,?_⟩;replace S:=S.go hb;clear F hb;have F:=S.fc) | ((with_reducible refine gs (t:=25) rfl (L ?_));(first | refine sb (.agg #[_,_,_]) S sz25 ?_ | refine ro (.agg #[_,_,_]) S sz25 ?_ (ho:=rfl) (hx:=rfl) (hy:=rfl));(clear S F;intro W S;have F:=S.fc)))
   (try simp only [Act.put,List.setIfInBounds_toArray,List.set_cons_zero,List.set_cons_succ])
   go_cut [38] (fun v38 wc=>∃ (kq:Nat) (x38_11:Bool),v38 = .bool x38_11∧laws_FnExactRunsBackward.j0 kq x38_11 a0_0 a0_1 l0_2 t514 t515 t516 = some r∧kq ≤ k∧St w w (fun _=>False) [bor at80 A0_2 c0_2 l0_2] wc  [box gb519 25 [.int .i64 t514,.int .i64 t515,.slice At516 t516.length ct516],row at27 27 At516 t516.length ct516 t516,box gb505 50 [.int .i64 a0_0,.int .i64 a0_1,.slice A0_2 l0_2.length c0_2]])
   case first =>
    replace H:=sp_ H;rcases H with ⟨c27,H⟩ | ⟨c27,H⟩
    · skip
      have c27n:=c27;(try simp only [bne_iff_ne,ne_eq] at c27n)
      go_wp2_with (first | ((with_reducible refine gs (t:=25) rfl (L ?_));(first | refine sb (.agg #[_,_,_]) S sz25 ?_ | refine ro (.agg #[_,_,_]) S sz25 ?_ (ho:=rfl) (hx:=rfl) (hy:=rfl));(clear S F;intro W S;have F:=S.fc)))
      go_meet
      case rel=>exact ⟨_,true,(by first | rfl | (simp;done) | (simp [*];done) | (rw [w6_ (by omega) (by omega)])),H,(by first | omega | exact Nat.le_refl _),(S.pm [0,1,3])⟩
    · skip
      try replace c27:=cbf c27
      have c27n:=c27;(try simp only [bne_eq_false_iff_eq] at c27n);(try subst c27n);(try subst c27n)
      go_wp2_with (first | ((with_reducible refine gs (t:=25) rfl (L ?_));(first | refine sb (.agg #[_,_,_]) S sz25 ?_ | refine ro (.agg #[_,_,_]) S sz25 ?_ (ho:=rfl) (hx:=rfl) (hy:=rfl));(clear S F;intro W S;have F:=S.fc)))
      go_meet
      case rel=>exact ⟨_,(t521 != t513),(by first | rfl | (simp;done) | (simp [*];done) | (rw [w6_ (by omega) (by omega)])),H,(by first | omega | exact Nat.le_refl _),(S.pm [0,1,3])⟩
   case rest =>
    clear H S F
    obtain ⟨kq,x38_11,rfl,HA,HJ11,S⟩:=hcut
    have F:=S.fc
    cases kq with
    | zero=>exact absurd HA (by simp [laws_FnExactRunsBackward.j0])
    | succ kj11 =>
     have H:=HA;clear HA;simp only [laws_FnExactRunsBackward.j0,F] at H
     replace H:=sp_ H;rcases H with ⟨c28,H⟩ | ⟨c28,H⟩
     · skip
       subst c28
       exact absurd (H.trans (congrArg some HRT.out)) (by simp)
     · skip
       replace c28:=cbf c28;subst c28
       replace H:=Option.bind_eq_some_iff.mp H;obtain ⟨⟨t522,t523,t524⟩,A29,H⟩:=H;(try dsimp only at H)
       replace H:=Option.bind_eq_some_iff.mp H;obtain ⟨t527,A30,H⟩:=H;(try dsimp only at H)
       replace H:=sp_ H;rcases H with ⟨c31,H⟩ | ⟨c31,H⟩
       · skip
         subst c31
         obtain rfl:=Option.some.inj H
         go_wp2_with (first | ((with_reducible refine gs (t:=25) rfl (L ?_));(first | refine sb (.agg #[_,_,_]) S sz25 ?_ | refine ro (.agg #[_,_,_]) S sz25 ?_ (ho:=rfl) (hx:=rfl) (hy:=rfl));(clear S F;intro W S;have F:=S.fc)))
         refine rq S [(1,0),(1,1),(2,2),(2,3),(0,4)] [] (h:=?_);clear S F;intro W S;have S0:=S;have F:=S.fc
         repeat (first | (refine q0 (h:=?_)) | (refine q1 S0 (h:=?_)) | (refine q0n (h:=?_)) | (refine q1n S0 (h:=?_)))
         refine lk2 (by rfl) (by exact (Eq.refl true)) ?_;refine cl (some 41) Try.func39 (laws_toBoard.calls _ _ _ _ _ _ _ _ _ _ S.c S.n A29) (hargs:=by (simp only [ma_,mb_,mc_,F] <;> rfl)) (h:=?_);rintro e W ⟨v525,rfl,ho0,hb⟩;refine ⟨_,rfl,?_⟩;replace S:=S.got at27 hb ho0;obtain ⟨At524,ct524,rfl,S⟩:=S;clear F hb ho0;have F:=S.fc
         clear S0;have S0:=S.tl;refine ⟨S0,?_⟩
         refine lk2 (by rfl) (by exact (Eq.refl true)) ?_;refine cl (some 42) Try.func41 (laws_eqBoard.calls _ _ _ _ _ _ _ _ _ _ _ _ _ S.c S.n S.c S.n A30) (hargs:=by (simp only [ma_,mb_,mc_,F] <;> rfl)) (h:=?_);rintro e W ⟨rfl,hb⟩;refine ⟨_,rfl,?_⟩;replace S:=S.go hb;clear F hb;have F:=S.fc
         clear S0;have S0:=S.tl;refine ⟨S0,?_⟩
         repeat (first | (refine q0 (h:=?_)) | (refine q1 S0 (h:=?_)) | (refine q0n (h:=?_)) | (refine q1n S0 (h:=?_)))
         refine oz ?_
         try clear S0
         go_wp2_with (first | ((with_reducible refine gs (t:=25) rfl (L ?_));(first | refine sb (.agg #[_,_,_]) S sz25 ?_ | refine ro (.agg #[_,_,_]) S sz25 ?_ (ho:=rfl) (hx:=rfl) (hy:=rfl));(clear S F;intro W S;have F:=S.fc)))
         go_ret
         exact ⟨(by first | rfl | (simp [e0_,e1_] <;> rfl) | (simp [*,e0_,e1_] <;> rfl)),S.below⟩
       · skip
         replace c31:=cbf c31;subst c31
         exact absurd (H.trans (congrArg some HRT.out)) (by simp)
end Go.Proofs.Ytimeepcpgjnajaa.F
