-- Printed by a program; checked here.
import Derived.Test.YtimeepcpgjnajaaF0
import Derived.Test.YtimeepcpgjnajaaF1
import Derived.Test.YtimeepcpgjnajaaF2
import Derived.Test.YtimeepcpgjnajaaF3
import Derived.Test.YtimeepcpgjnajaaF4
import Derived.Test.YtimeepcpgjnajaaF5
namespace Go.Proofs.Ytimeepcpgjnajaa.F
open Go.RowKit Go.Proofs.YtimeepcpgjnajaaV.PrintWords Go.Proofs.YtimeepcpgjnajaaV.PrintLast Go.Proofs.YtimeepcpgjnajaaV.PrintMore Go.Proofs.YtimeepcpgjnajaaV.Sl
attribute [local go_sem] max2_int min2_int max_two min_two max_three min_three max_four min_four ia_opt it_opt
attribute [local go_sem] Try.underlying23 Try.underlying25 Try.underlying27 Try.underlying35 Try.underlying50 Try.underlying80 Try.underlying114 Try.underlying137
set_option maxHeartbeats 8000000
set_option maxRecDepth 100000
set_option linter.unusedVariables false
set_option linter.unusedSimpArgs false

/-! ### spec_FirstStates: function 72 -/
def spec_FirstStates.l0:Nat→List Int→List Int→Int→Int→Option (List Int × Bool)
  | 0,_,_,_,_=>none
  | k + 1,x6,x7,x17,x18=>if x18 < x17 then ((spec_rvBefore.f k x6 x18).bind fun t661=>(if (t661.length:Int) = 0 then (if x7.length < 17592186044416 then (spec_FirstStates.l0 k x6 (x7 ++ [x18]) x17 (wrap64 (x18 + 1))) else (none)) else (spec_FirstStates.l0 k x6 x7 x17 (wrap64 (x18 + 1))))) else (some (x7,true))
def spec_FirstStates.f (k:Nat) (a0_0:Int) (a0_1:Int) (l0_2:List (S27)) (a1:Int):Option (List Int × Bool):=(spec_rvHas.f k a0_0 a0_1 l0_2 a1).bind fun t657=>(if t657 = true then ((spec_rvNext.f k a0_0 a0_1 l0_2 a1).bind fun t658=>(spec_FirstStates.l0 k t658 ([]:List Int) (t658.length:Int) 0)) else (some (([]:List Int),false)))
theorem spec_FirstStates.calls (k:Nat) (a0_0:Int) (a0_1:Int) (A0_2:Option Addr) (c0_2:Nat) (l0_2:List (S27)) (a1:Int) (r1:List Int) (r2:Bool) (w:World) (hr0_2:Kd.C k27 w A0_2 l0_2.length l0_2) (hc0_2:l0_2.length ≤ c0_2) (h:spec_FirstStates.f k a0_0 a0_1 l0_2 a1 = some (r1,r2)) :
    Calls Try.prog 72 #[.agg #[.int .i64 a0_0,.int .i64 a0_1,.slice A0_2 l0_2.length c0_2],.int .i64 a1] w fun e w'=>∃ v0_:Value,e = .returned (.tuple #[v0_,.bool r2])∧Kd.R (Kd.int .i64) 3 w' w.heap.size (fun _=>True) v0_ r1∧Below w.heap.size w w':=by
 have S:=St.init (w:=w) (dc k27_heap at27 hr0_2 hc0_2 dn)
 clear hr0_2 hc0_2
 have F:=S.fc
 have H:=h;clear h;unfold spec_FirstStates.f at H
 replace H:=Option.bind_eq_some_iff.mp H;obtain ⟨t657,A3,H⟩:=H;(try dsimp only at H)
 replace H:=sp_ H;rcases H with ⟨c4,H⟩ | ⟨c4,H⟩
 · skip
   subst c4
   replace H:=Option.bind_eq_some_iff.mp H;obtain ⟨t658,A5,H⟩:=H;(try dsimp only at H)
   go_enter Try.func72,Try.ntmps72
   go_wp2_with (first | ((with_reducible refine gd 2 rfl (L ?_));refine bo 2 (.agg #[_,_,_]) S ?_;clear S F;intro gb656 W S;have F:=S.fc) | ((with_reducible refine gate_callee (f:=100) rfl (L ?_));refine cl (some 11) Try.func100 (spec_rvHas.calls _ _ _ _ _ _ _ _ _ S.c S.n A3) (hargs:=by (simp only [ma_,mb_,mc_,F] <;> rfl)) (h:=?_);rintro e W ⟨rfl,hb⟩;refine ⟨_,rfl,?_⟩;replace S:=S.go hb;clear F hb;have F:=S.fc) | ((with_reducible refine gate_callee (f:=101) rfl (L ?_));refine cl (some 15) Try.func101 (spec_rvNext.calls _ _ _ _ _ _ _ _ _ S.c S.n A5) (hargs:=by (simp only [ma_,mb_,mc_,F] <;> rfl)) (h:=?_);rintro e W ⟨v659,rfl,ho0,hb⟩;refine ⟨_,rfl,?_⟩;replace S:=S.got (atI .i64) hb ho0;obtain ⟨At658,ct658,rfl,S⟩:=S;clear F hb ho0;have F:=S.fc))
   go_loopg [7,18] k (fun kq v7 v18 w'=>∃ (x7_1:List Int) (x18_1:Int) (Ax7_1:Option Addr) (cx7_1:Nat),v18 = .int .i64 x18_1∧v7 = .slice Ax7_1 x7_1.length cx7_1∧spec_FirstStates.l0 kq t658 x7_1 (t658.length:Int) x18_1 = some (r1,r2)∧kq ≤ k∧St w w (fun _=>False) [bor at27 A0_2 c0_2 l0_2] w'  [row (atI .i64) 3 Ax7_1 x7_1.length cx7_1 x7_1,row (atI .i64) 3 At658 t658.length ct658 t658,box gb656 25 [.int .i64 a0_0,.int .i64 a0_1,.slice A0_2 l0_2.length c0_2]])
   case atStart=>exact ⟨_,0,_,_,(by first | rfl | (simp;done) | (simp [*];done) | (rw [w6_ (by omega) (by omega)])),rfl,H,Nat.le_refl _,(S.nl (e:=3) (atI .i64))⟩
   case round =>
    clear H S F
    obtain ⟨x7_1,x18_1,Ax7_1,cx7_1,rfl,rfl,HA,HK1,S⟩:=hrel
    have F:=S.fc
    cases gk with
    | zero=>exact absurd HA (by simp [spec_FirstStates.l0])
    | succ k1 =>
     have H:=HA;clear HA;simp only [spec_FirstStates.l0,F] at H
     replace H:=sp_ H;rcases H with ⟨c12,H⟩ | ⟨c12,H⟩
     · skip
       replace H:=Option.bind_eq_some_iff.mp H;obtain ⟨t661,A13,H⟩:=H;(try dsimp only at H)
       replace H:=sp_ H;rcases H with ⟨c14,H⟩ | ⟨c14,H⟩
       · skip
         replace c14:=ceq c14
         replace H:=np_ H;obtain ⟨c15,H⟩:=H
         (first | (with_reducible replace H:=ob_ H;obtain ⟨y664,hy664,H⟩:=H;(try dsimp only at H)) | (obtain ⟨y664,hy664⟩:∃ y_:List Int,y_ = (x7_1 ++ [x18_1]):=⟨_,rfl⟩;(try rw [← hy664] at H);(try simp only [Option.bind_some] at H)));have Ny664:=Aside0.mk hy664;clear hy664
         go_wp2_with (first | ((with_reducible refine gate_callee (f:=102) rfl (L ?_));refine cl (some 23) Try.func102 (spec_rvBefore.calls _ _ _ _ _ _ _ S.c S.n A13) (hargs:=by (simp only [ma_,mb_,mc_,F] <;> rfl)) (h:=?_);rintro e W ⟨v662,rfl,ho0,hb⟩;refine ⟨_,rfl,?_⟩;replace S:=S.got (atI .i64) hb ho0;obtain ⟨At661,ct661,rfl,S⟩:=S;clear F hb ho0;(try rw [← Ny664.out] at S);have F:=S.fc) | ((with_reducible refine gd 29 rfl (L ?_));refine apa (A:=Ax7_1) 29 S Try.underlying35 info3 ?_ (ho:=rfl) (hs:=rfl) (hx:=rfl);clear S F;intro Ay664 cy664 W S;(try rw [← Ny664.out] at S ⊢);have F:=S.fc))
         go_roundg k1
         case measure=>omega
         case rel=>exact ⟨y664,(wrap64 (x18_1 + 1)),_,_,(by first | rfl | (simp;done) | (simp [*];done) | (rw [w6_ (by omega) (by omega)])),rfl,H,(by first | omega | exact Nat.le_refl _),S.tl⟩
       · skip
         replace c14:=cne c14
         go_wp2_with (first | ((with_reducible refine gate_callee (f:=102) rfl (L ?_));refine cl (some 23) Try.func102 (spec_rvBefore.calls _ _ _ _ _ _ _ S.c S.n A13) (hargs:=by (simp only [ma_,mb_,mc_,F] <;> rfl)) (h:=?_);rintro e W ⟨v662,rfl,ho0,hb⟩;refine ⟨_,rfl,?_⟩;replace S:=S.got (atI .i64) hb ho0;obtain ⟨At661,ct661,rfl,S⟩:=S;clear F hb ho0;have F:=S.fc))
         go_roundg k1
         case measure=>omega
         case rel=>exact ⟨x7_1,(wrap64 (x18_1 + 1)),_,_,(by first | rfl | (simp;done) | (simp [*];done) | (rw [w6_ (by omega) (by omega)])),rfl,H,(by first | omega | exact Nat.le_refl _),S.tl⟩
     · skip
       simp only [Option.some.injEq,Prod.mk.injEq] at H
       obtain ⟨rfl,rfl⟩:=H
       go_wp2
       go_ret2
       exact ⟨_,(by first | rfl | (simp [e0_,e1_] <;> rfl) | (simp [*,e0_,e1_] <;> rfl)),(by first | exact S.r | exact Kd.R_nil _ _ _ _ _),S.below⟩
 · skip
   replace c4:=cbf c4;subst c4
   simp only [Option.some.injEq,Prod.mk.injEq] at H
   obtain ⟨rfl,rfl⟩:=H
   go_enter Try.func72,Try.ntmps72
   go_wp2_with (first | ((with_reducible refine gd 2 rfl (L ?_));refine bo 2 (.agg #[_,_,_]) S ?_;clear S F;intro gb656 W S;have F:=S.fc) | ((with_reducible refine gate_callee (f:=100) rfl (L ?_));refine cl (some 11) Try.func100 (spec_rvHas.calls _ _ _ _ _ _ _ _ _ S.c S.n A3) (hargs:=by (simp only [ma_,mb_,mc_,F] <;> rfl)) (h:=?_);rintro e W ⟨rfl,hb⟩;refine ⟨_,rfl,?_⟩;replace S:=S.go hb;clear F hb;have F:=S.fc))
   go_ret2
   exact ⟨_,(by first | rfl | (simp [e0_,e1_] <;> rfl) | (simp [*,e0_,e1_] <;> rfl)),(by first | exact S.r | exact Kd.R_nil _ _ _ _ _),S.below⟩

/-! ### impl_FirstStates: function 73 -/
def impl_FirstStates.l0:Nat→List Int→List Int→Int→Int→Option (List Int × Bool)
  | 0,_,_,_,_=>none
  | k + 1,x6,x20,x21,x22=>if x22 < x21 then (if 0 ≤ x22 then (if x22 < (x20.length:Int) then (if (rd x20 x22) = 0 then (if x6.length < 17592186044416 then (impl_FirstStates.l0 k (x6 ++ [x22]) x20 x21 (wrap64 (x22 + 1))) else (none)) else (impl_FirstStates.l0 k x6 x20 x21 (wrap64 (x22 + 1)))) else (none)) else (none)) else (some (x6,true))
def impl_FirstStates.f (k:Nat) (a0_0:Int) (a0_1:Int) (l0_2:List (S27)) (a1:Int):Option (List Int × Bool):=(impl_goesBack.f k a0_0 a0_1 l0_2 a1).bind fun t668=>(if t668 = true then ((impl_numbersAfter.f k a0_0 a0_1 l0_2 (([a1]:List Int))).bind fun t675=>(if 0 < (t675.length:Int) then ((impl_timesReached.f k (rd_L3 t675 0)).bind fun t679=>(impl_FirstStates.l0 k (([]:List Int)) t679 (t679.length:Int) 0)) else (none))) else (some (([]:List Int),false)))
theorem impl_FirstStates.calls (k:Nat) (a0_0:Int) (a0_1:Int) (A0_2:Option Addr) (c0_2:Nat) (l0_2:List (S27)) (a1:Int) (r1:List Int) (r2:Bool) (w:World) (hr0_2:Kd.C k27 w A0_2 l0_2.length l0_2) (hc0_2:l0_2.length ≤ c0_2) (h:impl_FirstStates.f k a0_0 a0_1 l0_2 a1 = some (r1,r2)) :
    Calls Try.prog 73 #[.agg #[.int .i64 a0_0,.int .i64 a0_1,.slice A0_2 l0_2.length c0_2],.int .i64 a1] w fun e w'=>∃ v0_:Value,e = .returned (.tuple #[v0_,.bool r2])∧Kd.R (Kd.int .i64) 3 w' w.heap.size (fun _=>True) v0_ r1∧Below w.heap.size w w':=by
 have S:=St.init (w:=w) (dc k27_heap at27 hr0_2 hc0_2 dn)
 clear hr0_2 hc0_2
 have F:=S.fc
 have H:=h;clear h;unfold impl_FirstStates.f at H
 replace H:=Option.bind_eq_some_iff.mp H;obtain ⟨t668,A3,H⟩:=H;(try dsimp only at H)
 replace H:=sp_ H;rcases H with ⟨c4,H⟩ | ⟨c4,H⟩
 · skip
   subst c4
   (first | (with_reducible replace H:=ob_ H;obtain ⟨y669,hy669,H⟩:=H;(try dsimp only at H)) | (obtain ⟨y669,hy669⟩:∃ y_:List Int,y_ = (([]:List Int)):=⟨_,rfl⟩;(try rw [← hy669] at H);(try simp only [Option.bind_some] at H)));have Ny669:=Aside0.mk hy669;clear hy669
   (first | (with_reducible replace H:=ob_ H;obtain ⟨y672,hy672,H⟩:=H;(try dsimp only at H)) | (obtain ⟨y672,hy672⟩:∃ y_:List Int,y_ = (([a1]:List Int)):=⟨_,rfl⟩;(try rw [← hy672] at H);(try simp only [Option.bind_some] at H)));have Ny672:=Aside0.mk hy672;clear hy672;(try rw [show a1 :: y669 = y672 by rw [Ny669.out,Ny672.out]] at H);(try rw [show a1 :: y669 = y672 by rw [Ny669.out,Ny672.out]] at H)
   replace H:=Option.bind_eq_some_iff.mp H;obtain ⟨t675,A5,H⟩:=H;(try dsimp only at H)
   replace H:=np_ H;obtain ⟨c6,H⟩:=H;(try have m_t675:0 < t675.length:=by omega)
   replace H:=Option.bind_eq_some_iff.mp H;obtain ⟨t679,A7,H⟩:=H;(try dsimp only at H)
   go_enter Try.func73,Try.ntmps73
   go_wp2_with (first | ((with_reducible refine gd 2 rfl (L ?_));refine bo 2 (.agg #[_,_,_]) S ?_;clear S F;intro gb667 W S;have F:=S.fc) | ((with_reducible refine gate_callee (f:=104) rfl (L ?_));refine cl (some 11) Try.func104 (impl_goesBack.calls _ _ _ _ _ _ _ _ _ S.c S.n A3) (hargs:=by (simp only [ma_,mb_,mc_,F] <;> rfl)) (h:=?_);rintro e W ⟨rfl,hb⟩;refine ⟨_,rfl,?_⟩;replace S:=S.go hb;clear F hb;have F:=S.fc) | ((with_reducible refine gd 13 rfl (L ?_));refine lia 13 (atI .i64) 3 S ([]:List Int) (fun _ _=>(Reps.none _ _)) (by first | (go_simp;done) | (go_simp;rfl)) ?_;clear S F;intro Ay669 cy669 W S;(try rw [← Ny669.out] at S ⊢);(try rw [← Ny672.out] at S ⊢);have F:=S.fc) | ((with_reducible refine gd 16 rfl (L ?_));refine lia 16 (atI .i64) 3 S ([a1]:List Int) (fun _ _=>(Reps.one (show Kd.M (Kd.int .i64) _ _ _ a1 [.int .i64 a1] from rfl) (Reps.none _ _))) (by first | (go_simp;done) | (go_simp;rfl)) ?_;clear S F;intro Ay672 cy672 W S;(try rw [← Ny672.out] at S ⊢);have F:=S.fc) | ((with_reducible refine gate_callee (f:=106) rfl (L ?_));refine cl (some 17) Try.func106 (impl_numbersAfter.calls _ _ _ _ _ _ _ _ _ _ _ S.c S.n S.c S.n A5) (hargs:=by (simp only [ma_,mb_,mc_,F] <;> rfl)) (h:=?_);rintro e W ⟨v676,rfl,ho0,hb⟩;refine ⟨_,rfl,?_⟩;replace S:=S.got (atU (d:=Kd.slice 3 (Kd.int .i64))) hb ho0;obtain ⟨At675,ct675,rfl,S⟩:=S;clear F hb ho0;(try rw [← Ny672.out] at S);replace S:=S.fzr At675 rfl;obtain ⟨Ait675,cit675,S⟩:=S.innz t675 (atI .i64) (rd_L3 t675 0);have F:=S.fc) | ((with_reducible refine gate_callee (f:=105) rfl (L ?_));refine cl (some 20) Try.func105 (impl_timesReached.calls _ _ _ _ _ _ S.c S.n A7) (hargs:=by (simp only [ma_,mb_,mc_,F] <;> rfl)) (h:=?_);rintro e W ⟨v680,rfl,ho0,hb⟩;refine ⟨_,rfl,?_⟩;replace S:=S.got (atI .i64) hb ho0;obtain ⟨At679,ct679,rfl,S⟩:=S;clear F hb ho0;(try rw [← Ny672.out] at S);have F:=S.fc))
   go_loopg [6,22] k (fun kq v6 v22 w'=>∃ (x6_1:List Int) (x22_1:Int) (Ax6_1:Option Addr) (cx6_1:Nat),v22 = .int .i64 x22_1∧v6 = .slice Ax6_1 x6_1.length cx6_1∧impl_FirstStates.l0 kq x6_1 t679 (t679.length:Int) x22_1 = some (r1,r2)∧kq ≤ k∧St w w (fun _=>False) [bcell (adr At675) (.slice Ait675 (rd_L3 t675 0).length cit675),bcell ((adr At675).add 0) (.slice Ait675 (rd_L3 t675 0).length cit675),bor (atI .i64) Ait675 cit675 (rd_L3 t675 0),bor (atU (d:=Kd.slice 3 (Kd.int .i64))) At675 ct675 t675,bor at27 A0_2 c0_2 l0_2] w'  [row (atI .i64) 3 At679 t679.length ct679 t679,row (atI .i64) 3 Ax6_1 x6_1.length cx6_1 x6_1,box gb667 25 [.int .i64 a0_0,.int .i64 a0_1,.slice A0_2 l0_2.length c0_2]])
   case atStart=>exact ⟨y669,0,_,_,(by first | rfl | (simp;done) | (simp [*];done) | (rw [w6_ (by omega) (by omega)])),rfl,H,Nat.le_refl _,(S.pm [0,3,4])⟩
   case round =>
    clear H S F
    obtain ⟨x6_1,x22_1,Ax6_1,cx6_1,rfl,rfl,HA,HK1,S⟩:=hrel
    have F:=S.fc
    cases gk with
    | zero=>exact absurd HA (by simp [impl_FirstStates.l0])
    | succ k1 =>
     have H:=HA;clear HA;simp only [impl_FirstStates.l0,F] at H
     replace H:=sp_ H;rcases H with ⟨c21,H⟩ | ⟨c21,H⟩
     · skip
       replace H:=np_ H;obtain ⟨c22,H⟩:=H
       replace H:=np_ H;obtain ⟨c23,H⟩:=H
       replace H:=sp_ H;rcases H with ⟨c24,H⟩ | ⟨c24,H⟩
       · skip
         replace c24:=ceq c24
         replace H:=np_ H;obtain ⟨c25,H⟩:=H
         (first | (with_reducible replace H:=ob_ H;obtain ⟨y683,hy683,H⟩:=H;(try dsimp only at H)) | (obtain ⟨y683,hy683⟩:∃ y_:List Int,y_ = (x6_1 ++ [x22_1]):=⟨_,rfl⟩;(try rw [← hy683] at H);(try simp only [Option.bind_some] at H)));have Ny683:=Aside0.mk hy683;clear hy683
         go_wp2_with (first | ((with_reducible refine gd 32 rfl (L ?_));refine apa (A:=Ax6_1) 32 S Try.underlying35 info3 ?_ (ho:=rfl) (hs:=rfl) (hx:=rfl);clear S F;intro Ay683 cy683 W S;(try rw [← Ny672.out] at S ⊢);(try rw [← Ny683.out] at S ⊢);have F:=S.fc))
         go_roundg k1
         case measure=>omega
         case rel=>exact ⟨y683,(wrap64 (x22_1 + 1)),_,_,(by first | rfl | (simp;done) | (simp [*];done) | (rw [w6_ (by omega) (by omega)])),rfl,H,(by first | omega | exact Nat.le_refl _),S⟩
       · skip
         replace c24:=cne c24
         go_wp2
         go_roundg k1
         case measure=>omega
         case rel=>exact ⟨x6_1,(wrap64 (x22_1 + 1)),_,_,(by first | rfl | (simp;done) | (simp [*];done) | (rw [w6_ (by omega) (by omega)])),rfl,H,(by first | omega | exact Nat.le_refl _),S⟩
     · skip
       simp only [Option.some.injEq,Prod.mk.injEq] at H
       obtain ⟨rfl,rfl⟩:=H
       go_wp2
       go_ret2
       exact ⟨_,(by first | rfl | (simp [e0_,e1_] <;> rfl) | (simp [*,e0_,e1_] <;> rfl)),(by first | exact S.r | exact Kd.R_nil _ _ _ _ _),S.below⟩
 · skip
   replace c4:=cbf c4;subst c4
   simp only [Option.some.injEq,Prod.mk.injEq] at H
   obtain ⟨rfl,rfl⟩:=H
   go_enter Try.func73,Try.ntmps73
   go_wp2_with (first | ((with_reducible refine gd 2 rfl (L ?_));refine bo 2 (.agg #[_,_,_]) S ?_;clear S F;intro gb667 W S;have F:=S.fc) | ((with_reducible refine gate_callee (f:=104) rfl (L ?_));refine cl (some 11) Try.func104 (impl_goesBack.calls _ _ _ _ _ _ _ _ _ S.c S.n A3) (hargs:=by (simp only [ma_,mb_,mc_,F] <;> rfl)) (h:=?_);rintro e W ⟨rfl,hb⟩;refine ⟨_,rfl,?_⟩;replace S:=S.go hb;clear F hb;have F:=S.fc))
   go_ret2
   exact ⟨_,(by first | rfl | (simp [e0_,e1_] <;> rfl) | (simp [*,e0_,e1_] <;> rfl)),(by first | exact S.r | exact Kd.R_nil _ _ _ _ _),S.below⟩

/-! ### laws_FnExactFirstStates: function 14 -/
mutual
def laws_FnExactFirstStates.j0:Nat→Int→List Int→Bool→List Int→Bool→Bool→Int→Int→List (S80)→Int→Int→List (S27)→Option (Bool)
  | 0,_,_,_,_,_,_,_,_,_,_,_,_=>none
  | k + 1,x1,x6,x7,x9,x10,x44,x687000,x687001,x687002,x703000,x703001,x703002=>if x44 = true then (some false) else ((laws_toBoard.f k x687000 x687001 x687002).bind fun bt708=>((laws_eqBoard.f k x703000 x703001 x703002 bt708.1 bt708.2.1 bt708.2.2).bind fun t713=>(if t713 = true then ((laws_markBoard.f k x703000 x703001 x703002 1).bind fun bt714=>(if bt714.1 < 0 then (laws_FnExactFirstStates.j1 k x1 x6 x7 x9 true x687000 x687001 x687002) else ((laws_eqIntS.f k x9 x6).bind fun t716=>(if t716 = true then (laws_FnExactFirstStates.j1 k x1 x6 x7 x9 (x10 != x7) x687000 x687001 x687002) else (laws_FnExactFirstStates.j1 k x1 x6 x7 x9 true x687000 x687001 x687002))))) else (some false))))
def laws_FnExactFirstStates.j1:Nat→Int→List Int→Bool→List Int→Bool→Int→Int→List (S80)→Option (Bool)
  | 0,_,_,_,_,_,_,_,_=>none
  | k + 1,x1,x6,x7,x9,x65,x687000,x687001,x687002=>if x65 = true then (some false) else ((laws_markIntS.f k x9 1).bind fun bt717=>((laws_heldIntS.f k bt717.2 1).bind fun t719=>(if t719 < 0 then (some false) else (if t719 = bt717.1 then ((laws_toBoard.f k x687000 x687001 x687002).bind fun bt720=>((impl_FirstStates.f k bt720.1 bt720.2.1 bt720.2.2 x1).bind fun bt725=>((laws_eqIntS.f k bt725.1 x6).bind fun t729=>(if t729 = true then (laws_FnExactFirstStates.j2 k bt717.2 bt717.1 (bt725.2 != x7)) else (laws_FnExactFirstStates.j2 k bt717.2 bt717.1 true))))) else (some false)))))
def laws_FnExactFirstStates.j2:Nat→List Int→Int→Bool→Option (Bool)
  | 0,_,_,_=>none
  | k + 1,x9,x12,x92=>if x92 = true then (some false) else ((laws_heldIntS.f k x9 1).bind fun t730=>(if t730 < 0 then (some false) else (if t730 = x12 then (some true) else (some false))))
end
def laws_FnExactFirstStates.f (k:Nat) (a0_0:Int) (a0_1:Int) (l0_2:List (S80)) (a1:Int):Option (Bool):=(laws_szBoard.f a0_0 a0_1 l0_2 1048576).bind fun t687=>(if t687 < 0 then (some true) else ((laws_toBoard.f k a0_0 a0_1 l0_2).bind fun bt688=>((spec_FirstStates.f k bt688.1 bt688.2.1 bt688.2.2 a1).bind fun bt693=>((laws_toBoard.f k a0_0 a0_1 l0_2).bind fun bt697=>((impl_FirstStates.f k bt697.1 bt697.2.1 bt697.2.2 a1).bind fun bt703=>((laws_eqIntS.f k bt703.1 bt693.1).bind fun t707=>(if t707 = true then (laws_FnExactFirstStates.j0 k a1 bt693.1 bt693.2 bt703.1 bt703.2 (bt703.2 != bt693.2) a0_0 a0_1 l0_2 bt697.1 bt697.2.1 bt697.2.2) else (laws_FnExactFirstStates.j0 k a1 bt693.1 bt693.2 bt703.1 bt703.2 true a0_0 a0_1 l0_2 bt697.1 bt697.2.1 bt697.2.2))))))))
theorem laws_FnExactFirstStates.calls (k:Nat) (a0_0:Int) (a0_1:Int) (A0_2:Option Addr) (c0_2:Nat) (l0_2:List (S80)) (a1:Int) (r:Bool) (w:World) (hr0_2:Kd.C k80 w A0_2 l0_2.length l0_2) (hc0_2:l0_2.length ≤ c0_2) (hrt:r = true) (h:laws_FnExactFirstStates.f k a0_0 a0_1 l0_2 a1 = some r) :
    Calls Try.prog 14 #[.agg #[.int .i64 a0_0,.int .i64 a0_1,.slice A0_2 l0_2.length c0_2],.int .i64 a1] w fun e w'=>e = .returned (.bool r)∧Below w.heap.size w w':=by
 have S:=St.init (w:=w) (dc k80_heap at80 hr0_2 hc0_2 dn)
 have HRT:=Aside0.mk hrt;clear hrt
 clear hr0_2 hc0_2
 have F:=S.fc
 have H:=h;clear h;unfold laws_FnExactFirstStates.f at H
 replace H:=Option.bind_eq_some_iff.mp H;obtain ⟨t687,A3,H⟩:=H;(try dsimp only at H)
 replace H:=sp_ H;rcases H with ⟨c4,H⟩ | ⟨c4,H⟩
 · skip
   obtain rfl:=Option.some.inj H
   go_enter Try.func14,Try.ntmps14
   go_wp2_with (first | ((with_reducible refine gd 2 rfl (L ?_));refine bo 2 (.agg #[_,_,_]) S ?_;clear S F;intro gb686 W S;have F:=S.fc) | ((with_reducible refine gate_callee (f:=37) rfl (L ?_));refine cl (some 18) Try.func37 (laws_szBoard.calls _ _ _ _ _ _ _ _ S.c S.n A3) (hargs:=by (simp only [ma_,mb_,mc_,F] <;> rfl)) (h:=?_);rintro e W ⟨rfl,hb⟩;refine ⟨_,rfl,?_⟩;replace S:=S.go hb;clear F hb;have F:=S.fc) | ((with_reducible refine gs (t:=25) rfl (L ?_));(first | refine sb (.agg #[_,_,_]) S sz25 ?_ | refine ro (.agg #[_,_,_]) S sz25 ?_ (ho:=rfl) (hx:=rfl) (hy:=rfl));(clear S F;intro W S;have F:=S.fc)))
   go_ret
   exact ⟨(by first | rfl | (simp [e0_,e1_] <;> rfl) | (simp [*,e0_,e1_] <;> rfl)),S.below⟩
 · skip
   replace H:=Option.bind_eq_some_iff.mp H;obtain ⟨⟨t688,t689,t690⟩,A8,H⟩:=H;(try dsimp only at H)
   replace H:=Option.bind_eq_some_iff.mp H;obtain ⟨⟨t693,t696⟩,A9,H⟩:=H;(try dsimp only at H)
   replace H:=Option.bind_eq_some_iff.mp H;obtain ⟨⟨t697,t698,t699⟩,A10,H⟩:=H;(try dsimp only at H)
   replace H:=Option.bind_eq_some_iff.mp H;obtain ⟨⟨t703,t706⟩,A11,H⟩:=H;(try dsimp only at H)
   go_enter Try.func14,Try.ntmps14
   go_upto_region 8 with (first | ((with_reducible refine gd 2 rfl (L ?_));refine bo 2 (.agg #[_,_,_]) S ?_;clear S F;intro gb686 W S;have F:=S.fc) | ((with_reducible refine gate_callee (f:=37) rfl (L ?_));refine cl (some 18) Try.func37 (laws_szBoard.calls _ _ _ _ _ _ _ _ S.c S.n A3) (hargs:=by (simp only [ma_,mb_,mc_,F] <;> rfl)) (h:=?_);rintro e W ⟨rfl,hb⟩;refine ⟨_,rfl,?_⟩;replace S:=S.go hb;clear F hb;have F:=S.fc) | ((with_reducible refine gate_callee (f:=39) rfl (L ?_));refine cl (some 23) Try.func39 (laws_toBoard.calls _ _ _ _ _ _ _ _ _ _ S.c S.n A8) (hargs:=by (simp only [ma_,mb_,mc_,F] <;> rfl)) (h:=?_);rintro e W ⟨v691,rfl,ho0,hb⟩;refine ⟨_,rfl,?_⟩;replace S:=S.got at27 hb ho0;obtain ⟨At690,ct690,rfl,S⟩:=S;clear F hb ho0;have F:=S.fc) | ((with_reducible refine gate_callee (f:=72) rfl (L ?_));refine cl (some 25) Try.func72 (spec_FirstStates.calls _ _ _ _ _ _ _ _ _ _ S.c S.n A9) (hargs:=by (simp only [ma_,mb_,mc_,F] <;> rfl)) (h:=?_);rintro e W ⟨v694,rfl,ho0,hb⟩;refine ⟨_,rfl,?_⟩;replace S:=S.got (atI .i64) hb ho0;obtain ⟨At693,ct693,rfl,S⟩:=S;clear F hb ho0;have F:=S.fc) | ((with_reducible refine gate_callee (f:=39) rfl (L ?_));refine cl (some 29) Try.func39 (laws_toBoard.calls _ _ _ _ _ _ _ _ _ _ S.c S.n A10) (hargs:=by (simp only [ma_,mb_,mc_,F] <;> rfl)) (h:=?_);rintro e W ⟨v700,rfl,ho0,hb⟩;refine ⟨_,rfl,?_⟩;replace S:=S.got at27 hb ho0;obtain ⟨At699,ct699,rfl,S⟩:=S;clear F hb ho0;have F:=S.fc) | ((with_reducible refine gd 8 rfl (L ?_));refine al 8 S zi25 ?_;clear S F;intro gb702 W S;have F:=S.fc) | ((with_reducible refine gate_callee (f:=73) rfl (L ?_));refine cl (some 33) Try.func73 (impl_FirstStates.calls _ _ _ _ _ _ _ _ _ _ S.c S.n A11) (hargs:=by (simp only [ma_,mb_,mc_,F] <;> rfl)) (h:=?_);rintro e W ⟨v704,rfl,ho0,hb⟩;refine ⟨_,rfl,?_⟩;replace S:=S.got (atI .i64) hb ho0;obtain ⟨At703,ct703,rfl,S⟩:=S;clear F hb ho0;have F:=S.fc) | ((with_reducible refine gs (t:=25) rfl (L ?_));(first | refine sb (.agg #[_,_,_]) S sz25 ?_ | refine ro (.agg #[_,_,_]) S sz25 ?_ (ho:=rfl) (hx:=rfl) (hy:=rfl));(clear S F;intro W S;have F:=S.fc)))
   (try simp only [Act.put,List.setIfInBounds_toArray,List.set_cons_zero,List.set_cons_succ])
   go_cut [44] (fun v44 wc=>∃ (kq:Nat) (x44_11:Bool),v44 = .bool x44_11∧laws_FnExactFirstStates.j0 kq a1 t693 t696 t703 t706 x44_11 a0_0 a0_1 l0_2 t697 t698 t699 = some r∧kq ≤ k∧St w w (fun _=>False) [bor at80 A0_2 c0_2 l0_2] wc  [row (atI .i64) 3 At703 t703.length ct703 t703,box gb702 25 [.int .i64 t697,.int .i64 t698,.slice At699 t699.length ct699],row at27 27 At699 t699.length ct699 t699,row (atI .i64) 3 At693 t693.length ct693 t693,box gb686 50 [.int .i64 a0_0,.int .i64 a0_1,.slice A0_2 l0_2.length c0_2]])
   case first =>
    replace H:=Option.bind_eq_some_iff.mp H;obtain ⟨t707,A27,H⟩:=H;(try dsimp only at H)
    replace H:=sp_ H;rcases H with ⟨c28,H⟩ | ⟨c28,H⟩
    · skip
      subst c28
      go_wp2_with (first | ((with_reducible refine gate_callee (f:=46) rfl (L ?_));refine cl (some 38) Try.func46 (laws_eqIntS.calls _ _ _ _ _ _ _ _ _ S.c S.n S.c S.n A27) (hargs:=by (simp only [ma_,mb_,mc_,F] <;> rfl)) (h:=?_);rintro e W ⟨rfl,hb⟩;refine ⟨_,rfl,?_⟩;replace S:=S.gw hb;clear F hb;have F:=S.fc) | ((with_reducible refine gs (t:=25) rfl (L ?_));(first | refine sb (.agg #[_,_,_]) S sz25 ?_ | refine ro (.agg #[_,_,_]) S sz25 ?_ (ho:=rfl) (hx:=rfl) (hy:=rfl));(clear S F;intro W S;have F:=S.fc)))
      go_meet
      case rel=>exact ⟨_,(t706 != t696),(by first | rfl | (simp;done) | (simp [*];done) | (rw [w6_ (by omega) (by omega)])),H,(by first | omega | exact Nat.le_refl _),(S.pm [0,1,2,3,5])⟩
    · skip
      replace c28:=cbf c28;subst c28
      go_wp2_with (first | ((with_reducible refine gate_callee (f:=46) rfl (L ?_));refine cl (some 38) Try.func46 (laws_eqIntS.calls _ _ _ _ _ _ _ _ _ S.c S.n S.c S.n A27) (hargs:=by (simp only [ma_,mb_,mc_,F] <;> rfl)) (h:=?_);rintro e W ⟨rfl,hb⟩;refine ⟨_,rfl,?_⟩;replace S:=S.gw hb;clear F hb;have F:=S.fc) | ((with_reducible refine gs (t:=25) rfl (L ?_));(first | refine sb (.agg #[_,_,_]) S sz25 ?_ | refine ro (.agg #[_,_,_]) S sz25 ?_ (ho:=rfl) (hx:=rfl) (hy:=rfl));(clear S F;intro W S;have F:=S.fc)))
      go_meet
      case rel=>exact ⟨_,true,(by first | rfl | (simp;done) | (simp [*];done) | (rw [w6_ (by omega) (by omega)])),H,(by first | omega | exact Nat.le_refl _),(S.pm [0,1,2,3,5])⟩
   case rest =>
    clear H S F
    obtain ⟨kq,x44_11,rfl,HA,HJ11,S⟩:=hcut
    have F:=S.fc
    cases kq with
    | zero=>exact absurd HA (by simp [laws_FnExactFirstStates.j0])
    | succ kj11 =>
     have H:=HA;clear HA;simp only [laws_FnExactFirstStates.j0,F] at H
     replace H:=sp_ H;rcases H with ⟨c33,H⟩ | ⟨c33,H⟩
     · skip
       subst c33
       exact absurd (H.trans (congrArg some HRT.out)) (by simp)
     · skip
       replace c33:=cbf c33;subst c33
       replace H:=Option.bind_eq_some_iff.mp H;obtain ⟨⟨t708,t709,t710⟩,A34,H⟩:=H;(try dsimp only at H)
       replace H:=Option.bind_eq_some_iff.mp H;obtain ⟨t713,A35,H⟩:=H;(try dsimp only at H)
       replace H:=sp_ H;rcases H with ⟨c36,H⟩ | ⟨c36,H⟩
       · skip
         subst c36
         replace H:=Option.bind_eq_some_iff.mp H;obtain ⟨⟨t714,t715⟩,A37,H⟩:=H;(try dsimp only at H)
         go_wp2_with (first | ((with_reducible refine gs (t:=25) rfl (L ?_));(first | refine sb (.agg #[_,_,_]) S sz25 ?_ | refine ro (.agg #[_,_,_]) S sz25 ?_ (ho:=rfl) (hx:=rfl) (hy:=rfl));(clear S F;intro W S;have F:=S.fc)))
         refine rq S [(1,0),(1,1),(2,2),(2,3),(0,4)] [] (h:=?_);clear S F;intro W S;have S0:=S;have F:=S.fc
         repeat (first | (refine q0 (h:=?_)) | (refine q1 S0 (h:=?_)) | (refine q0n (h:=?_)) | (refine q1n S0 (h:=?_)))
         refine lk2 (by rfl) (by exact (Eq.refl true)) ?_;refine cl (some 47) Try.func39 (laws_toBoard.calls _ _ _ _ _ _ _ _ _ _ S.c S.n A34) (hargs:=by (simp only [ma_,mb_,mc_,F] <;> rfl)) (h:=?_);rintro e W ⟨v711,rfl,ho0,hb⟩;refine ⟨_,rfl,?_⟩;replace S:=S.got at27 hb ho0;obtain ⟨At710,ct710,rfl,S⟩:=S;clear F hb ho0;have F:=S.fc
         clear S0;have S0:=S.tl;refine ⟨S0,?_⟩
         refine lk2 (by rfl) (by exact (Eq.refl true)) ?_;refine cl (some 48) Try.func41 (laws_eqBoard.calls _ _ _ _ _ _ _ _ _ _ _ _ _ S.c S.n S.c S.n A35) (hargs:=by (simp only [ma_,mb_,mc_,F] <;> rfl)) (h:=?_);rintro e W ⟨rfl,hb⟩;refine ⟨_,rfl,?_⟩;replace S:=S.go hb;clear F hb;have F:=S.fc
         clear S0;have S0:=S.tl;refine ⟨S0,?_⟩
         repeat (first | (refine q0 (h:=?_)) | (refine q1 S0 (h:=?_)) | (refine q0n (h:=?_)) | (refine q1n S0 (h:=?_)))
         refine oz ?_
         try clear S0
         go_upto_region 14 with (first | ((with_reducible refine gate_callee (f:=47) rfl (L ?_));obtain ⟨ok_,k_⟩:=S.lend (A:=At699);refine cl (some 52) Try.func47 (laws_markBoard.calls _ _ _ ok_ _ _ _ _ _ _ _ k_.below k_.own A37) (hargs:=by (simp only [ma_,mb_,mc_,F] <;> rfl)) (h:=?_);rintro e W ⟨rfl,hy,hb,hk⟩;refine ⟨_,rfl,?_⟩;clear S F;have S:=k_.back _ _ hy hb hk;clear k_ hy hb hk ok_;have F:=S.fc) | ((with_reducible refine gs (t:=25) rfl (L ?_));(first | refine sb (.agg #[_,_,_]) S sz25 ?_ | refine ro (.agg #[_,_,_]) S sz25 ?_ (ho:=rfl) (hx:=rfl) (hy:=rfl));(clear S F;intro W S;have F:=S.fc)))
         (try simp only [Act.put,List.setIfInBounds_toArray,List.set_cons_zero,List.set_cons_succ])
         go_cut [65] (fun v65 wc=>∃ (kq:Nat) (x65_37:Bool),v65 = .bool x65_37∧laws_FnExactFirstStates.j1 kq a1 t693 t696 t703 x65_37 a0_0 a0_1 l0_2 = some r∧kq ≤ kj11∧St w w (fun _=>False) [bor at80 A0_2 c0_2 l0_2] wc  [row (atI .i64) 3 At703 t703.length ct703 t703,box gb702 25 [.int .i64 t697,.int .i64 t698,.slice At699 t699.length ct699],row at27 27 At699 t699.length ct699 t715,row (atI .i64) 3 At693 t693.length ct693 t693,box gb686 50 [.int .i64 a0_0,.int .i64 a0_1,.slice A0_2 l0_2.length c0_2]])
         case first =>
          replace H:=sp_ H;rcases H with ⟨c46,H⟩ | ⟨c46,H⟩
          · skip
            go_wp2_with (first | ((with_reducible refine gs (t:=25) rfl (L ?_));(first | refine sb (.agg #[_,_,_]) S sz25 ?_ | refine ro (.agg #[_,_,_]) S sz25 ?_ (ho:=rfl) (hx:=rfl) (hy:=rfl));(clear S F;intro W S;have F:=S.fc)))
            go_meet
            case rel=>exact ⟨_,true,(by first | rfl | (simp;done) | (simp [*];done) | (rw [w6_ (by omega) (by omega)])),(by first | exact H | (simp only [F];exact H)),(by first | omega | exact Nat.le_refl _),S.tl⟩
          · skip
            replace H:=Option.bind_eq_some_iff.mp H;obtain ⟨t716,A47,H⟩:=H;(try dsimp only at H)
            replace H:=sp_ H;rcases H with ⟨c48,H⟩ | ⟨c48,H⟩
            · skip
              subst c48
              go_wp2_with (first | (go_at_call 46;(try simp only [F]);refine (laws_eqIntS.calls _ _ _ _ _ _ _ _ _ S.c S.n S.c S.n A47).mono ?_;rintro e W ⟨rfl,hb⟩;replace S:=S.gw hb;clear F hb;have F:=S.fc) | ((with_reducible refine gs (t:=25) rfl (L ?_));(first | refine sb (.agg #[_,_,_]) S sz25 ?_ | refine ro (.agg #[_,_,_]) S sz25 ?_ (ho:=rfl) (hx:=rfl) (hy:=rfl));(clear S F;intro W S;have F:=S.fc)))
              go_meet
              case rel=>exact ⟨_,(t706 != t696),(by first | rfl | (simp;done) | (simp [*];done) | (rw [w6_ (by omega) (by omega)])),(by first | exact H | (simp only [F];exact H)),(by first | omega | exact Nat.le_refl _),S.tl⟩
            · skip
              replace c48:=cbf c48;subst c48
              go_wp2_with (first | (go_at_call 46;(try simp only [F]);refine (laws_eqIntS.calls _ _ _ _ _ _ _ _ _ S.c S.n S.c S.n A47).mono ?_;rintro e W ⟨rfl,hb⟩;replace S:=S.gw hb;clear F hb;have F:=S.fc) | ((with_reducible refine gs (t:=25) rfl (L ?_));(first | refine sb (.agg #[_,_,_]) S sz25 ?_ | refine ro (.agg #[_,_,_]) S sz25 ?_ (ho:=rfl) (hx:=rfl) (hy:=rfl));(clear S F;intro W S;have F:=S.fc)))
              go_meet
              case rel=>exact ⟨_,true,(by first | rfl | (simp;done) | (simp [*];done) | (rw [w6_ (by omega) (by omega)])),(by first | exact H | (simp only [F];exact H)),(by first | omega | exact Nat.le_refl _),S.tl⟩
         case rest =>
          clear H S F
          obtain ⟨kq,x65_37,rfl,HA,HJ37,S⟩:=hcut
          have F:=S.fc
          cases kq with
          | zero=>exact absurd HA (by simp [laws_FnExactFirstStates.j1])
          | succ kj37 =>
           have H:=HA;clear HA;simp only [laws_FnExactFirstStates.j1,F] at H
           replace H:=sp_ H;rcases H with ⟨c53,H⟩ | ⟨c53,H⟩
           · skip
             subst c53
             exact absurd (H.trans (congrArg some HRT.out)) (by simp)
           · skip
             replace c53:=cbf c53;subst c53
             replace H:=Option.bind_eq_some_iff.mp H;obtain ⟨⟨t717,t718⟩,A54,H⟩:=H;(try dsimp only at H)
             replace H:=Option.bind_eq_some_iff.mp H;obtain ⟨t719,A55,H⟩:=H;(try dsimp only at H)
             replace H:=sp_ H;rcases H with ⟨c56,H⟩ | ⟨c56,H⟩
             · skip
               exact absurd (H.trans (congrArg some HRT.out)) (by simp)
             · skip
               replace H:=sp_ H;rcases H with ⟨c57,H⟩ | ⟨c57,H⟩
               · skip
                 replace c57:=ceq c57
                 replace H:=Option.bind_eq_some_iff.mp H;obtain ⟨⟨t720,t721,t722⟩,A58,H⟩:=H;(try dsimp only at H)
                 replace H:=Option.bind_eq_some_iff.mp H;obtain ⟨⟨t725,t728⟩,A59,H⟩:=H;(try dsimp only at H)
                 go_upto_region 25 with (first | ((with_reducible refine gate_callee (f:=48) rfl (L ?_));obtain ⟨ok_,k_⟩:=S.lend (A:=At703);refine cl (some 68) Try.func48 (laws_markIntS.calls _ ok_ _ _ _ _ _ _ _ k_.below k_.own A54) (hargs:=by (simp only [ma_,mb_,mc_,F] <;> rfl)) (h:=?_);rintro e W ⟨rfl,hy,hb,hk⟩;refine ⟨_,rfl,?_⟩;clear S F;have S:=k_.back _ _ hy hb hk;clear k_ hy hb hk ok_;have F:=S.fc) | ((with_reducible refine gate_callee (f:=49) rfl (L ?_));refine cl (some 71) Try.func49 (laws_heldIntS.calls _ _ _ _ _ _ _ S.c S.n A55) (hargs:=by (simp only [ma_,mb_,mc_,F] <;> rfl)) (h:=?_);rintro e W ⟨rfl,hb⟩;refine ⟨_,rfl,?_⟩;replace S:=S.gw hb;clear F hb;have F:=S.fc) | ((with_reducible refine gate_callee (f:=39) rfl (L ?_));refine cl (some 79) Try.func39 (laws_toBoard.calls _ _ _ _ _ _ _ _ _ _ S.c S.n A58) (hargs:=by (simp only [ma_,mb_,mc_,F] <;> rfl)) (h:=?_);rintro e W ⟨v723,rfl,ho0,hb⟩;refine ⟨_,rfl,?_⟩;replace S:=S.got at27 hb ho0;obtain ⟨At722,ct722,rfl,S⟩:=S;clear F hb ho0;have F:=S.fc) | ((with_reducible refine gate_callee (f:=73) rfl (L ?_));refine cl (some 81) Try.func73 (impl_FirstStates.calls _ _ _ _ _ _ _ _ _ _ S.c S.n A59) (hargs:=by (simp only [ma_,mb_,mc_,F] <;> rfl)) (h:=?_);rintro e W ⟨v726,rfl,ho0,hb⟩;refine ⟨_,rfl,?_⟩;replace S:=S.got (atI .i64) hb ho0;obtain ⟨At725,ct725,rfl,S⟩:=S;clear F hb ho0;have F:=S.fc) | ((with_reducible refine gs (t:=25) rfl (L ?_));(first | refine sb (.agg #[_,_,_]) S sz25 ?_ | refine ro (.agg #[_,_,_]) S sz25 ?_ (ho:=rfl) (hx:=rfl) (hy:=rfl));(clear S F;intro W S;have F:=S.fc)))
                 (try simp only [Act.put,List.setIfInBounds_toArray,List.set_cons_zero,List.set_cons_succ])
                 go_cut [92] (fun v92 wc=>∃ (kq:Nat) (x92_59:Bool),v92 = .bool x92_59∧laws_FnExactFirstStates.j2 kq t718 t717 x92_59 = some r∧kq ≤ kj37∧St w w (fun _=>False) [bor at80 A0_2 c0_2 l0_2] wc  [row (atI .i64) 3 At703 t703.length ct703 t718,box gb702 25 [.int .i64 t697,.int .i64 t698,.slice At699 t699.length ct699],row at27 27 At699 t699.length ct699 t715,box gb686 50 [.int .i64 a0_0,.int .i64 a0_1,.slice A0_2 l0_2.length c0_2]])
                 case first =>
                  replace H:=Option.bind_eq_some_iff.mp H;obtain ⟨t729,A68,H⟩:=H;(try dsimp only at H)
                  replace H:=sp_ H;rcases H with ⟨c69,H⟩ | ⟨c69,H⟩
                  · skip
                    subst c69
                    go_wp2_with (first | ((with_reducible refine gate_callee (f:=46) rfl (L ?_));refine cl (some 86) Try.func46 (laws_eqIntS.calls _ _ _ _ _ _ _ _ _ S.c S.n S.c S.n A68) (hargs:=by (simp only [ma_,mb_,mc_,F] <;> rfl)) (h:=?_);rintro e W ⟨rfl,hb⟩;refine ⟨_,rfl,?_⟩;replace S:=S.gw hb;clear F hb;have F:=S.fc) | ((with_reducible refine gs (t:=25) rfl (L ?_));(first | refine sb (.agg #[_,_,_]) S sz25 ?_ | refine ro (.agg #[_,_,_]) S sz25 ?_ (ho:=rfl) (hx:=rfl) (hy:=rfl));(clear S F;intro W S;have F:=S.fc)))
                    go_meet
                    case rel=>exact ⟨_,(t728 != t696),(by first | rfl | (simp;done) | (simp [*];done) | (rw [w6_ (by omega) (by omega)])),(by first | exact H | (simp only [F];exact H)),(by first | omega | exact Nat.le_refl _),(S.ms [0,0,1,1,1,0])⟩
                  · skip
                    replace c69:=cbf c69;subst c69
                    go_wp2_with (first | ((with_reducible refine gate_callee (f:=46) rfl (L ?_));refine cl (some 86) Try.func46 (laws_eqIntS.calls _ _ _ _ _ _ _ _ _ S.c S.n S.c S.n A68) (hargs:=by (simp only [ma_,mb_,mc_,F] <;> rfl)) (h:=?_);rintro e W ⟨rfl,hb⟩;refine ⟨_,rfl,?_⟩;replace S:=S.gw hb;clear F hb;have F:=S.fc) | ((with_reducible refine gs (t:=25) rfl (L ?_));(first | refine sb (.agg #[_,_,_]) S sz25 ?_ | refine ro (.agg #[_,_,_]) S sz25 ?_ (ho:=rfl) (hx:=rfl) (hy:=rfl));(clear S F;intro W S;have F:=S.fc)))
                    go_meet
                    case rel=>exact ⟨_,true,(by first | rfl | (simp;done) | (simp [*];done) | (rw [w6_ (by omega) (by omega)])),(by first | exact H | (simp only [F];exact H)),(by first | omega | exact Nat.le_refl _),(S.ms [0,0,1,1,1,0])⟩
                 case rest =>
                  clear H S F
                  obtain ⟨kq,x92_59,rfl,HA,HJ59,S⟩:=hcut
                  have F:=S.fc
                  cases kq with
                  | zero=>exact absurd HA (by simp [laws_FnExactFirstStates.j2])
                  | succ kj59 =>
                   have H:=HA;clear HA;simp only [laws_FnExactFirstStates.j2,F] at H
                   replace H:=sp_ H;rcases H with ⟨c74,H⟩ | ⟨c74,H⟩
                   · skip
                     subst c74
                     exact absurd (H.trans (congrArg some HRT.out)) (by simp)
                   · skip
                     replace c74:=cbf c74;subst c74
                     replace H:=Option.bind_eq_some_iff.mp H;obtain ⟨t730,A75,H⟩:=H;(try dsimp only at H)
                     replace H:=sp_ H;rcases H with ⟨c76,H⟩ | ⟨c76,H⟩
                     · skip
                       exact absurd (H.trans (congrArg some HRT.out)) (by simp)
                     · skip
                       replace H:=sp_ H;rcases H with ⟨c77,H⟩ | ⟨c77,H⟩
                       · skip
                         replace c77:=ceq c77
                         obtain rfl:=Option.some.inj H
                         go_wp2_with (first | ((with_reducible refine gate_callee (f:=49) rfl (L ?_));refine cl (some 95) Try.func49 (laws_heldIntS.calls _ _ _ _ _ _ _ S.c S.n A75) (hargs:=by (simp only [ma_,mb_,mc_,F] <;> rfl)) (h:=?_);rintro e W ⟨rfl,hb⟩;refine ⟨_,rfl,?_⟩;replace S:=S.gw hb;clear F hb;have F:=S.fc) | ((with_reducible refine gs (t:=25) rfl (L ?_));(first | refine sb (.agg #[_,_,_]) S sz25 ?_ | refine ro (.agg #[_,_,_]) S sz25 ?_ (ho:=rfl) (hx:=rfl) (hy:=rfl));(clear S F;intro W S;have F:=S.fc)))
                         go_ret
                         exact ⟨(by first | rfl | (simp [e0_,e1_] <;> rfl) | (simp [*,e0_,e1_] <;> rfl)),S.below⟩
                       · skip
                         replace c77:=cne c77
                         exact absurd (H.trans (congrArg some HRT.out)) (by simp)
               · skip
                 replace c57:=cne c57
                 exact absurd (H.trans (congrArg some HRT.out)) (by simp)
       · skip
         replace c36:=cbf c36;subst c36
         exact absurd (H.trans (congrArg some HRT.out)) (by simp)
end Go.Proofs.Ytimeepcpgjnajaa.F
