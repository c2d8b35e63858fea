-- Printed by a program; checked here.
import Derived.Test.YtimeepcpgjnajaaF0
import Derived.Test.YtimeepcpgjnajaaF1
import Derived.Test.YtimeepcpgjnajaaF2
import Derived.Test.YtimeepcpgjnajaaF3
namespace Go.Proofs.Ytimeepcpgjnajaa.F
open Go.RowKit Go.Proofs.YtimeepcpgjnajaaV.PrintWords Go.Proofs.YtimeepcpgjnajaaV.PrintLast Go.Proofs.YtimeepcpgjnajaaV.PrintMore Go.Proofs.YtimeepcpgjnajaaV.Sl
attribute [local go_sem] max2_int min2_int max_two min_two max_three min_three max_four min_four ia_opt it_opt
attribute [local go_sem] Try.underlying23 Try.underlying25 Try.underlying27 Try.underlying35 Try.underlying50 Try.underlying80 Try.underlying114 Try.underlying137
set_option maxHeartbeats 8000000
set_option maxRecDepth 100000
set_option linter.unusedVariables false
set_option linter.unusedSimpArgs false

/-! ### spec_rvCycle: function 108 -/
def spec_rvCycle.l0:Nat→List Int→Int→Int→Int→Option (Int)
 | 0,_,_,_,_=>none
 | k + 1,x0,x1,x5,x6=>if x6 ≤ (x0.length:Int) then (if 0 ≤ x5 then (if x5 < (x0.length:Int) then (if (rd x0 x5) = x1 then (some x6) else (spec_rvCycle.l0 k x0 x1 (rd x0 x5) (wrap64 (x6 + 1)))) else (none)) else (none)) else (some 0)
def spec_rvCycle.f (k:Nat) (l0:List Int) (a1:Int):Option (Int):=spec_rvCycle.l0 k l0 a1 a1 1
theorem spec_rvCycle.calls (k:Nat) (A0:Option Addr) (c0:Nat) (l0:List Int) (a1:Int) (r:Int) (w:World) (hr0:Kd.C (Kd.int .i64) w A0 l0.length l0) (hc0:l0.length ≤ c0) (h:spec_rvCycle.f k l0 a1 = some r) :
  Calls Try.prog 108 #[.slice A0 l0.length c0,.int .i64 a1] w fun e w'=>e = .returned (.int .i64 r)∧Drawn0 w w':=by
 have HR0:=Aside0.mk hr0;have HC0:=Aside0.mk hc0;clear hr0 hc0;have H:(spec_rvCycle.l0 k l0 a1 a1 1) = some r:=h;clear h;have H':=Aside0.mk H;clear H;go_enter Try.func108,Try.ntmps108;go_wp2;go_loopg [5,6] k (fun kq v5 v6 w'=>∃ (x5_1:Int) (x6_1:Int),v5 = .int .i64 x5_1∧v6 = .int .i64 x6_1∧Aside0 (spec_rvCycle.l0 kq l0 a1 x5_1 x6_1 = some r)∧Aside0 (kq ≤ k)∧Drawn0 w w')
 case atStart=>exact ⟨(a1),(1),(by first | rfl | (simp;done) | (simp [*];done)),(by first | rfl | (simp;done) | (simp [*];done)),H',⟨Nat.le_refl _⟩,by repeat (first | exact Drawn0.refl _ | apply Drawn0.step)⟩
 case round =>
  clear H';(try clear c1);(try clear p2);obtain ⟨x5_1,x6_1,rfl,rfl,HA,HK1,⟨m1,rfl⟩⟩:=hrel;cases gk with
  | zero=>exact absurd HA.out (by simp [spec_rvCycle.l0])
  | succ k1 =>
   have H:=HA.out;clear HA;simp only [spec_rvCycle.l0] at H;by_cases c3:x6_1 ≤ (l0.length:Int)
   ·rw [if_pos c3] at H;have c3b0:decide (x6_1 ≤ (l0.length:Int)) = true:=decide_eq_true c3;clear c3;replace H:=np_ H;obtain ⟨c4,H⟩:=H;have c4b0:decide (0 ≤ x5_1) = true:=decide_eq_true c4;clear c4;replace H:=np_ H;obtain ⟨c5,H⟩:=H;have c5b0:decide (x5_1 < (l0.length:Int)) = true:=decide_eq_true c5;clear c5;by_cases c6:(rd l0 x5_1) = a1
    ·rw [if_pos c6] at H;have c6b0:((rd l0 x5_1) == a1) = true:=beq_iff_eq.mpr c6;have c6b1:((rd l0 x5_1) != a1) = false:=bne_eq_false_iff_eq.mpr c6;clear c6;obtain rfl:=Option.some.inj H;have p528:0 ≤ (x5_1:Int):=of_decide_eq_true (by first | (with_reducible assumption) | assumption);have q528:x5_1 < (l0.length:Int):=of_decide_eq_true (by first | (with_reducible assumption) | assumption);obtain ⟨ad528,e528,hx528_0⟩:=Kd.at_int HR0.out x5_1 p528 q528;cases e528;replace p528:=eq_true p528;replace q528:=eq_true q528;go_wp2;go_ret;exact ⟨by first | rfl | (simp;done) | (simp [*];done),by repeat (first | exact Drawn0.refl _ | apply Drawn0.step)⟩
    ·rw [if_neg c6] at H;have c6b0:((rd l0 x5_1) == a1) = false:=beq_eq_false_iff_ne.mpr c6;have c6b1:((rd l0 x5_1) != a1) = true:=bne_iff_ne.mpr c6;have H':=Aside0.mk H;clear H;have p528:0 ≤ (x5_1:Int):=of_decide_eq_true (by first | (with_reducible assumption) | assumption);have q528:x5_1 < (l0.length:Int):=of_decide_eq_true (by first | (with_reducible assumption) | assumption);obtain ⟨ad528,e528,hx528_0⟩:=Kd.at_int HR0.out x5_1 p528 q528;cases e528;replace p528:=eq_true p528;replace q528:=eq_true q528;go_wp2;go_roundg k1
     case measure=>have:=HK1.out;omega
     case rel=>exact ⟨(rd l0 x5_1),(wrap64 (x6_1 + 1)),(by first | rfl | (simp;done) | (simp [*];done)),(by first | rfl | (simp;done) | (simp [*];done)),H',⟨by have:=HK1.out;omega⟩,by repeat (first | exact Drawn0.refl _ | apply Drawn0.step)⟩
   ·rw [if_neg c3] at H;have c3b0:decide (x6_1 ≤ (l0.length:Int)) = false:=decide_eq_false c3;clear c3;obtain rfl:=Option.some.inj H;go_wp2;go_ret;exact ⟨by first | rfl | (simp;done) | (simp [*];done),by repeat (first | exact Drawn0.refl _ | apply Drawn0.step)⟩

/-! ### spec_BackCycle: function 42 -/
def spec_BackCycle.f (k:Nat) (a0_0:Int) (a0_1:Int) (l0_2:List (S27)) (a1:Int):Option (Int × Bool):=(spec_rvHas.f k a0_0 a0_1 l0_2 a1).bind fun t530=>(if t530 = true then ((spec_rvNext.f k a0_0 a0_1 l0_2 a1).bind fun t531=>((spec_saNumber.f k a0_0 a0_1 l0_2).bind fun t534=>((spec_rvCycle.f k t531 t534).bind fun t535=>(some (t535,decide (t535 > 0)))))) else (some (0,false)))
theorem spec_BackCycle.calls (k:Nat) (a0_0:Int) (a0_1:Int) (A0_2:Option Addr) (c0_2:Nat) (l0_2:List (S27)) (a1:Int) (r1:Int) (r2:Bool) (w:World) (hr0_2:Kd.C k27 w A0_2 l0_2.length l0_2) (hc0_2:l0_2.length ≤ c0_2) (h:spec_BackCycle.f k a0_0 a0_1 l0_2 a1 = some (r1,r2)) :
    Calls Try.prog 42 #[.agg #[.int .i64 a0_0,.int .i64 a0_1,.slice A0_2 l0_2.length c0_2],.int .i64 a1] w fun e w'=>e = .returned (.tuple #[.int .i64 r1,.bool r2])∧Below w.heap.size w w':=by
 have S:=St.init (w:=w) (dc k27_heap at27 hr0_2 hc0_2 dn)
 clear hr0_2 hc0_2
 have F:=S.fc
 have H:=h;clear h;unfold spec_BackCycle.f at H
 replace H:=Option.bind_eq_some_iff.mp H;obtain ⟨t530,A3,H⟩:=H;(try dsimp only at H)
 replace H:=sp_ H;rcases H with ⟨c4,H⟩ | ⟨c4,H⟩
 · skip
   subst c4
   replace H:=Option.bind_eq_some_iff.mp H;obtain ⟨t531,A5,H⟩:=H;(try dsimp only at H)
   replace H:=Option.bind_eq_some_iff.mp H;obtain ⟨t534,A6,H⟩:=H;(try dsimp only at H)
   replace H:=Option.bind_eq_some_iff.mp H;obtain ⟨t535,A7,H⟩:=H;(try dsimp only at H)
   simp only [Option.some.injEq,Prod.mk.injEq] at H
   obtain ⟨rfl,rfl⟩:=H
   go_enter Try.func42,Try.ntmps42
   go_wp2_with (first | ((with_reducible refine gd 2 rfl (L ?_));refine bo 2 (.agg #[_,_,_]) S ?_;clear S F;intro gb529 W S;have F:=S.fc) | ((with_reducible refine gate_callee (f:=100) rfl (L ?_));refine cl (some 9) Try.func100 (spec_rvHas.calls _ _ _ _ _ _ _ _ _ S.c S.n A3) (hargs:=by (simp only [ma_,mb_,mc_,F] <;> rfl)) (h:=?_);rintro e W ⟨rfl,hb⟩;refine ⟨_,rfl,?_⟩;replace S:=S.go hb;clear F hb;have F:=S.fc))
   refine rq S [(0,1),(1,0),(1,3),(2,2),(2,4),(2,5),(0,6)] [] (h:=?_);clear S F;intro W S;have S0:=S;have F:=S.fc
   repeat (first | (refine q0 (h:=?_)) | (refine q1 S0 (h:=?_)) | (refine q0n (h:=?_)) | (refine q1n S0 (h:=?_)))
   refine lk2 (by rfl) (by exact (Eq.refl true)) ?_;refine cl (some 13) Try.func101 (spec_rvNext.calls _ _ _ _ _ _ _ _ _ S.c S.n A5) (hargs:=by (simp only [ma_,mb_,mc_,F] <;> rfl)) (h:=?_);rintro e W ⟨v532,rfl,ho0,hb⟩;refine ⟨_,rfl,?_⟩;replace S:=S.got (atI .i64) hb ho0;obtain ⟨At531,ct531,rfl,S⟩:=S;clear F hb ho0;have F:=S.fc
   clear S0;have S0:=S.tl;refine ⟨S0,?_⟩
   refine lk2 (by rfl) (by exact (Eq.refl true)) ?_;refine cl (some 15) Try.func109 (spec_saNumber.calls _ _ _ _ _ _ _ _ S.c S.n A6) (hargs:=by (simp only [ma_,mb_,mc_,F] <;> rfl)) (h:=?_);rintro e W ⟨rfl,hb⟩;refine ⟨_,rfl,?_⟩;replace S:=S.go hb;clear F hb;have F:=S.fc
   clear S0;have S0:=S.tl;refine ⟨S0,?_⟩
   refine lk2 (by rfl) (by exact (Eq.refl true)) ?_;refine cl (some 16) Try.func108 (spec_rvCycle.calls _ _ _ _ _ _ _ S.c S.n A7) (hargs:=by (simp only [ma_,mb_,mc_,F] <;> rfl)) (h:=?_);rintro e W ⟨rfl,hb⟩;refine ⟨_,rfl,?_⟩;replace S:=S.gw hb;clear F hb;have F:=S.fc
   clear S0;have S0:=S.tl;refine ⟨S0,?_⟩
   repeat (first | (refine q0 (h:=?_)) | (refine q1 S0 (h:=?_)) | (refine q0n (h:=?_)) | (refine q1n S0 (h:=?_)))
   refine oz ?_
   try clear S0
   try go_wp2
   go_ret2
   exact ⟨(by first | rfl | (simp [e0_,e1_] <;> rfl) | (simp [*,e0_,e1_] <;> rfl)),S.below⟩
 · skip
   replace c4:=cbf c4;subst c4
   simp only [Option.some.injEq,Prod.mk.injEq] at H
   obtain ⟨rfl,rfl⟩:=H
   go_enter Try.func42,Try.ntmps42
   go_wp2_with (first | ((with_reducible refine gd 2 rfl (L ?_));refine bo 2 (.agg #[_,_,_]) S ?_;clear S F;intro gb529 W S;have F:=S.fc) | ((with_reducible refine gate_callee (f:=100) rfl (L ?_));refine cl (some 9) Try.func100 (spec_rvHas.calls _ _ _ _ _ _ _ _ _ S.c S.n A3) (hargs:=by (simp only [ma_,mb_,mc_,F] <;> rfl)) (h:=?_);rintro e W ⟨rfl,hb⟩;refine ⟨_,rfl,?_⟩;replace S:=S.go hb;clear F hb;have F:=S.fc))
   go_ret2
   exact ⟨(by first | rfl | (simp [e0_,e1_] <;> rfl) | (simp [*,e0_,e1_] <;> rfl)),S.below⟩

/-! ### impl_bitsOf: function 111 -/
def impl_bitsOf.l0:Nat→List Int→List (List Int)→Int→Int→Int→Int→List (S27)→Option (List Int)
  | 0,_,_,_,_,_,_,_=>none
  | k + 1,x3,x8,x9,x10,x537000,x537001,x537002=>if x10 < x9 then (if 0 ≤ x10 then (if x10 < (x8.length:Int) then (if 0 < ((rd_L3 x8 x10).length:Int) then (if 0 ≤ (rd (rd_L3 x8 x10) 0) then (if (rd (rd_L3 x8 x10) 0) < (x537002.length:Int) then (if x3.length < 17592186044416 then (impl_bitsOf.l0 k (x3 ++ [(rd_T27 x537002 (rd (rd_L3 x8 x10) 0)).f1]) x8 x9 (wrap64 (x10 + 1)) x537000 x537001 x537002) else (none)) else (none)) else (none)) else (none)) else (none)) else (none)) else (some x3)
def impl_bitsOf.f (k:Nat) (a0_0:Int) (a0_1:Int) (l0_2:List (S27)):Option (List Int):=(impl_unitsOf.f k a0_0 a0_1 l0_2).bind fun t540=>(impl_bitsOf.l0 k (([]:List Int)) t540 (t540.length:Int) 0 a0_0 a0_1 l0_2)
theorem impl_bitsOf.calls (k:Nat) (a0_0:Int) (a0_1:Int) (A0_2:Option Addr) (c0_2:Nat) (l0_2:List (S27)) (r:List Int) (w:World) (hr0_2:Kd.C k27 w A0_2 l0_2.length l0_2) (hc0_2:l0_2.length ≤ c0_2) (h:impl_bitsOf.f k a0_0 a0_1 l0_2 = some r) :
    Calls Try.prog 111 #[.agg #[.int .i64 a0_0,.int .i64 a0_1,.slice A0_2 l0_2.length c0_2]] w fun e w'=>∃ v0_:Value,e = .returned (v0_)∧Kd.R (Kd.int .i64) 3 w' w.heap.size (fun _=>True) v0_ r∧Below w.heap.size w w':=by
 have S:=St.init (w:=w) (dc k27_heap at27 hr0_2 hc0_2 dn)
 clear hr0_2 hc0_2
 have F:=S.fc
 have H:=h;clear h;unfold impl_bitsOf.f at H
 (first | (with_reducible replace H:=ob_ H;obtain ⟨y537,hy537,H⟩:=H;(try dsimp only at H)) | (obtain ⟨y537,hy537⟩:∃ y_:List Int,y_ = (([]:List Int)):=⟨_,rfl⟩;(try rw [← hy537] at H);(try simp only [Option.bind_some] at H)));have Ny537:=Aside0.mk hy537;clear hy537
 replace H:=Option.bind_eq_some_iff.mp H;obtain ⟨t540,A2,H⟩:=H;(try dsimp only at H)
 go_enter Try.func111,Try.ntmps111
 go_wp2_with (first | ((with_reducible refine gd 1 rfl (L ?_));refine bo 1 (.agg #[_,_,_]) S ?_;clear S F;intro gb536 W S;have F:=S.fc) | ((with_reducible refine gd 6 rfl (L ?_));refine lia 6 (atI .i64) 3 S ([]:List Int) (fun _ _=>(Reps.none _ _)) (by first | (go_simp;done) | (go_simp;rfl)) ?_;clear S F;intro Ay537 cy537 W S;(try rw [← Ny537.out] at S ⊢);have F:=S.fc) | ((with_reducible refine gate_callee (f:=147) rfl (L ?_));refine cl (some 8) Try.func147 (impl_unitsOf.calls _ _ _ _ _ _ _ _ S.c S.n A2) (hargs:=by (simp only [ma_,mb_,mc_,F] <;> rfl)) (h:=?_);rintro e W ⟨v541,rfl,ho0,hb⟩;refine ⟨_,rfl,?_⟩;replace S:=S.got (atU (d:=Kd.slice 3 (Kd.int .i64))) hb ho0;obtain ⟨At540,ct540,rfl,S⟩:=S;clear F hb ho0;replace S:=S.fzr At540 rfl;have F:=S.fc))
 go_loopg [3,10] k (fun kq v3 v10 w'=>∃ (x3_1:List Int) (x10_1:Int) (Ax3_1:Option Addr) (cx3_1:Nat),v10 = .int .i64 x10_1∧v3 = .slice Ax3_1 x3_1.length cx3_1∧impl_bitsOf.l0 kq x3_1 t540 (t540.length:Int) x10_1 a0_0 a0_1 l0_2 = some r∧kq ≤ k∧St w w (fun _=>False) [bor (atU (d:=Kd.slice 3 (Kd.int .i64))) At540 ct540 t540,bor at27 A0_2 c0_2 l0_2] w'  [row (atI .i64) 3 Ax3_1 x3_1.length cx3_1 x3_1,box gb536 25 [.int .i64 a0_0,.int .i64 a0_1,.slice A0_2 l0_2.length c0_2]])
 case atStart=>exact ⟨y537,0,_,_,(by first | rfl | (simp;done) | (simp [*];done) | (rw [w6_ (by omega) (by omega)])),rfl,H,Nat.le_refl _,S.tl⟩
 case round =>
  clear H S F
  obtain ⟨x3_1,x10_1,Ax3_1,cx3_1,rfl,rfl,HA,HK1,S⟩:=hrel
  have F:=S.fc
  cases gk with
  | zero=>exact absurd HA (by simp [impl_bitsOf.l0])
  | succ k1 =>
   have H:=HA;clear HA;simp only [impl_bitsOf.l0,F] at H
   replace H:=sp_ H;rcases H with ⟨c9,H⟩ | ⟨c9,H⟩
   · skip
     replace H:=np_ H;obtain ⟨c10,H⟩:=H
     replace H:=np_ H;obtain ⟨c11,H⟩:=H
     replace H:=np_ H;obtain ⟨c12,H⟩:=H
     replace H:=np_ H;obtain ⟨c13,H⟩:=H
     replace H:=np_ H;obtain ⟨c14,H⟩:=H
     replace H:=np_ H;obtain ⟨c15,H⟩:=H
     (first | (with_reducible replace H:=ob_ H;obtain ⟨y546,hy546,H⟩:=H;(try dsimp only at H)) | (obtain ⟨y546,hy546⟩:∃ y_:List Int,y_ = (x3_1 ++ [(rd_T27 l0_2 (rd (rd_L3 t540 x10_1) 0)).f1]):=⟨_,rfl⟩;(try rw [← hy546] at H);(try simp only [Option.bind_some] at H)));have Ny546:=Aside0.mk hy546;clear hy546
     (try have m0_:0 < (rd_L3 t540 x10_1).length:=by omega)
     obtain ⟨A543_0,c543_0,S⟩:=S.inn t540 (atZ .i64) x10_1 (rd_L3 t540 x10_1);clear F;have F:=S.fc
     try go_wp2
     refine rq S [(0,0),(0,1),(0,3),(0,4),(1,2),(1,5),(0,6),(0,7),(1,8),(3,9),(3,10),(0,11)] [9,10] (h:=?_);clear S F;intro W S;have S0:=S;have F:=S.fc
     repeat (first | (refine q0 (h:=?_)) | (refine q1 S0 (h:=?_)) | (refine q0n (h:=?_)) | (refine q1n S0 (h:=?_)))
     refine lk3 (by rfl) (by exact (Eq.refl true)) ?_;refine lv 23 (cs:=[.int .i64 ((rd_T27 l0_2 (rd (rd_L3 t540 x10_1) 0)).f1)]) (e:=3) (by first | (go_simp;done) | (go_simp;rfl)) ?_
     refine lk3 (by rfl) (by exact (Eq.refl true)) ?_;refine apa (A:=Ax3_1) 24 S Try.underlying35 info3 ?_ (ho:=rfl) (hs:=rfl) (hx:=rfl);clear S F;intro Ay546 cy546 W S;(try rw [← Ny546.out] at S ⊢);have F:=S.fc
     repeat (first | (refine q0 (h:=?_)) | (refine q1 S0 (h:=?_)) | (refine q0n (h:=?_)) | (refine q1n S0 (h:=?_)))
     refine oz ?_
     try clear S0
     try go_wp2
     go_roundg k1
     case measure=>omega
     case rel=>exact ⟨y546,(wrap64 (x10_1 + 1)),_,_,(by first | rfl | (simp;done) | (simp [*];done) | (rw [w6_ (by omega) (by omega)])),rfl,H,(by first | omega | exact Nat.le_refl _),(S.dk [2,3])⟩
   · skip
     obtain rfl:=Option.some.inj H
     go_wp2
     go_ret
     exact ⟨_,(by first | rfl | (simp [e0_,e1_] <;> rfl) | (simp [*,e0_,e1_] <;> rfl)),(by first | exact S.r | exact Kd.R_nil _ _ _ _ _),S.below⟩

/-! ### impl_marblesTo: function 112 -/
def impl_marblesTo.l0:Nat→List Int→Int→Int→Int→Option (Int × Bool)
 | 0,_,_,_,_=>none
 | k + 1,x0,x2,x8,x9=>if x9 ≤ (x0.length:Int) then (if 0 ≤ x8 then (if x8 < (x0.length:Int) then (if (rd x0 x8) = x2 then (some (x9,true)) else (impl_marblesTo.l0 k x0 x2 (rd x0 x8) (wrap64 (x9 + 1)))) else (none)) else (none)) else (some (0,false))
def impl_marblesTo.f (k:Nat) (l0:List Int) (a1:Int) (a2:Int):Option (Int × Bool):=impl_marblesTo.l0 k l0 a2 a1 1
theorem impl_marblesTo.calls (k:Nat) (A0:Option Addr) (c0:Nat) (l0:List Int) (a1:Int) (a2:Int) (r1:Int) (r2:Bool) (w:World) (hr0:Kd.C (Kd.int .i64) w A0 l0.length l0) (hc0:l0.length ≤ c0) (h:impl_marblesTo.f k l0 a1 a2 = some (r1,r2)) :
  Calls Try.prog 112 #[.slice A0 l0.length c0,.int .i64 a1,.int .i64 a2] w fun e w'=>e = .returned (.tuple #[.int .i64 r1,.bool r2])∧Drawn0 w w':=by
 have HR0:=Aside0.mk hr0;have HC0:=Aside0.mk hc0;clear hr0 hc0;have H:(impl_marblesTo.l0 k l0 a2 a1 1) = some (r1,r2):=h;clear h;have H':=Aside0.mk H;clear H;go_enter Try.func112,Try.ntmps112;go_wp2;go_loopg [8,9] k (fun kq v8 v9 w'=>∃ (x8_1:Int) (x9_1:Int),v8 = .int .i64 x8_1∧v9 = .int .i64 x9_1∧Aside0 (impl_marblesTo.l0 kq l0 a2 x8_1 x9_1 = some (r1,r2))∧Aside0 (kq ≤ k)∧Drawn0 w w')
 case atStart=>exact ⟨(a1),(1),(by first | rfl | (simp;done) | (simp [*];done)),(by first | rfl | (simp;done) | (simp [*];done)),H',⟨Nat.le_refl _⟩,by repeat (first | exact Drawn0.refl _ | apply Drawn0.step)⟩
 case round =>
  clear H';(try clear c1);(try clear p2);obtain ⟨x8_1,x9_1,rfl,rfl,HA,HK1,⟨m1,rfl⟩⟩:=hrel;cases gk with
  | zero=>exact absurd HA.out (by simp [impl_marblesTo.l0])
  | succ k1 =>
   have H:=HA.out;clear HA;simp only [impl_marblesTo.l0] at H;by_cases c4:x9_1 ≤ (l0.length:Int)
   ·rw [if_pos c4] at H;have c4b0:decide (x9_1 ≤ (l0.length:Int)) = true:=decide_eq_true c4;clear c4;replace H:=np_ H;obtain ⟨c5,H⟩:=H;have c5b0:decide (0 ≤ x8_1) = true:=decide_eq_true c5;clear c5;replace H:=np_ H;obtain ⟨c6,H⟩:=H;have c6b0:decide (x8_1 < (l0.length:Int)) = true:=decide_eq_true c6;clear c6;by_cases c7:(rd l0 x8_1) = a2
    ·rw [if_pos c7] at H;have c7b0:((rd l0 x8_1) == a2) = true:=beq_iff_eq.mpr c7;have c7b1:((rd l0 x8_1) != a2) = false:=bne_eq_false_iff_eq.mpr c7;clear c7;simp only [Option.some.injEq,Prod.mk.injEq] at H;obtain ⟨rfl,rfl⟩:=H;have p549:0 ≤ (x8_1:Int):=of_decide_eq_true (by first | (with_reducible assumption) | assumption);have q549:x8_1 < (l0.length:Int):=of_decide_eq_true (by first | (with_reducible assumption) | assumption);obtain ⟨ad549,e549,hx549_0⟩:=Kd.at_int HR0.out x8_1 p549 q549;cases e549;replace p549:=eq_true p549;replace q549:=eq_true q549;go_wp2;go_ret2
     exact ⟨by first | rfl | (simp;done) | (simp [*];done),by repeat (first | exact Drawn0.refl _ | apply Drawn0.step)⟩
    ·rw [if_neg c7] at H;have c7b0:((rd l0 x8_1) == a2) = false:=beq_eq_false_iff_ne.mpr c7;have c7b1:((rd l0 x8_1) != a2) = true:=bne_iff_ne.mpr c7;have H':=Aside0.mk H;clear H;have p549:0 ≤ (x8_1:Int):=of_decide_eq_true (by first | (with_reducible assumption) | assumption);have q549:x8_1 < (l0.length:Int):=of_decide_eq_true (by first | (with_reducible assumption) | assumption);obtain ⟨ad549,e549,hx549_0⟩:=Kd.at_int HR0.out x8_1 p549 q549;cases e549;replace p549:=eq_true p549;replace q549:=eq_true q549;go_wp2;go_roundg k1
     case measure=>have:=HK1.out;omega
     case rel=>exact ⟨(rd l0 x8_1),(wrap64 (x9_1 + 1)),(by first | rfl | (simp;done) | (simp [*];done)),(by first | rfl | (simp;done) | (simp [*];done)),H',⟨by have:=HK1.out;omega⟩,by repeat (first | exact Drawn0.refl _ | apply Drawn0.step)⟩
   ·rw [if_neg c4] at H;have c4b0:decide (x9_1 ≤ (l0.length:Int)) = false:=decide_eq_false c4;clear c4;simp only [Option.some.injEq,Prod.mk.injEq] at H;obtain ⟨rfl,rfl⟩:=H;go_wp2;go_ret2
    exact ⟨by first | rfl | (simp;done) | (simp [*];done),by repeat (first | exact Drawn0.refl _ | apply Drawn0.step)⟩

/-! ### impl_BackCycle: function 43 -/
def impl_BackCycle.f (k:Nat) (a0_0:Int) (a0_1:Int) (l0_2:List (S27)) (a1:Int):Option (Int × Bool):=(impl_goesBack.f k a0_0 a0_1 l0_2 a1).bind fun t551=>(if t551 = true then ((impl_bitsOf.f k a0_0 a0_1 l0_2).bind fun t552=>((impl_numberOf.f k t552).bind fun t555=>((impl_numbersAfter.f k a0_0 a0_1 l0_2 (([a1]:List Int))).bind fun t559=>(if 0 < (t559.length:Int) then ((impl_marblesTo.f k (rd_L3 t559 0) t555 t555).bind fun bt563=>(some (bt563.1,bt563.2))) else (none))))) else (some (0,false)))
theorem impl_BackCycle.calls (k:Nat) (a0_0:Int) (a0_1:Int) (A0_2:Option Addr) (c0_2:Nat) (l0_2:List (S27)) (a1:Int) (r1:Int) (r2:Bool) (w:World) (hr0_2:Kd.C k27 w A0_2 l0_2.length l0_2) (hc0_2:l0_2.length ≤ c0_2) (h:impl_BackCycle.f k a0_0 a0_1 l0_2 a1 = some (r1,r2)) :
    Calls Try.prog 43 #[.agg #[.int .i64 a0_0,.int .i64 a0_1,.slice A0_2 l0_2.length c0_2],.int .i64 a1] w fun e w'=>e = .returned (.tuple #[.int .i64 r1,.bool r2])∧Below w.heap.size w w':=by
 have S:=St.init (w:=w) (dc k27_heap at27 hr0_2 hc0_2 dn)
 clear hr0_2 hc0_2
 have F:=S.fc
 have H:=h;clear h;unfold impl_BackCycle.f at H
 replace H:=Option.bind_eq_some_iff.mp H;obtain ⟨t551,A3,H⟩:=H;(try dsimp only at H)
 replace H:=sp_ H;rcases H with ⟨c4,H⟩ | ⟨c4,H⟩
 · skip
   subst c4
   replace H:=Option.bind_eq_some_iff.mp H;obtain ⟨t552,A5,H⟩:=H;(try dsimp only at H)
   replace H:=Option.bind_eq_some_iff.mp H;obtain ⟨t555,A6,H⟩:=H;(try dsimp only at H)
   (first | (with_reducible replace H:=ob_ H;obtain ⟨y556,hy556,H⟩:=H;(try dsimp only at H)) | (obtain ⟨y556,hy556⟩:∃ y_:List Int,y_ = (([a1]:List Int)):=⟨_,rfl⟩;(try rw [← hy556] at H);(try simp only [Option.bind_some] at H)));have Ny556:=Aside0.mk hy556;clear hy556
   replace H:=Option.bind_eq_some_iff.mp H;obtain ⟨t559,A7,H⟩:=H;(try dsimp only at H)
   replace H:=np_ H;obtain ⟨c8,H⟩:=H;(try have m_t559:0 < t559.length:=by omega)
   replace H:=Option.bind_eq_some_iff.mp H;obtain ⟨⟨t563,t564⟩,A9,H⟩:=H;(try dsimp only at H)
   simp only [Option.some.injEq,Prod.mk.injEq] at H
   obtain ⟨rfl,rfl⟩:=H
   go_enter Try.func43,Try.ntmps43
   go_wp2_with (first | ((with_reducible refine gd 2 rfl (L ?_));refine bo 2 (.agg #[_,_,_]) S ?_;clear S F;intro gb550 W S;have F:=S.fc) | ((with_reducible refine gate_callee (f:=104) rfl (L ?_));refine cl (some 11) Try.func104 (impl_goesBack.calls _ _ _ _ _ _ _ _ _ S.c S.n A3) (hargs:=by (simp only [ma_,mb_,mc_,F] <;> rfl)) (h:=?_);rintro e W ⟨rfl,hb⟩;refine ⟨_,rfl,?_⟩;replace S:=S.go hb;clear F hb;have F:=S.fc) | ((with_reducible refine gate_callee (f:=111) rfl (L ?_));refine cl (some 14) Try.func111 (impl_bitsOf.calls _ _ _ _ _ _ _ _ S.c S.n A5) (hargs:=by (simp only [ma_,mb_,mc_,F] <;> rfl)) (h:=?_);rintro e W ⟨v553,rfl,ho0,hb⟩;refine ⟨_,rfl,?_⟩;replace S:=S.got (atI .i64) hb ho0;obtain ⟨At552,ct552,rfl,S⟩:=S;clear F hb ho0;(try rw [← Ny556.out] at S);have F:=S.fc) | ((with_reducible refine gate_callee (f:=110) rfl (L ?_));refine cl (some 15) Try.func110 (impl_numberOf.calls _ _ _ _ _ _ S.c S.n A6) (hargs:=by (simp only [ma_,mb_,mc_,F] <;> rfl)) (h:=?_);rintro e W ⟨rfl,hb⟩;refine ⟨_,rfl,?_⟩;replace S:=S.gw hb;clear F hb;have F:=S.fc) | ((with_reducible refine gd 19 rfl (L ?_));refine lia 19 (atI .i64) 3 S ([a1]:List Int) (fun _ _=>(Reps.one (show Kd.M (Kd.int .i64) _ _ _ a1 [.int .i64 a1] from rfl) (Reps.none _ _))) (by first | (go_simp;done) | (go_simp;rfl)) ?_;clear S F;intro Ay556 cy556 W S;(try rw [← Ny556.out] at S ⊢);have F:=S.fc) | ((with_reducible refine gate_callee (f:=106) rfl (L ?_));refine cl (some 20) Try.func106 (impl_numbersAfter.calls _ _ _ _ _ _ _ _ _ _ _ S.c S.n S.c S.n A7) (hargs:=by (simp only [ma_,mb_,mc_,F] <;> rfl)) (h:=?_);rintro e W ⟨v560,rfl,ho0,hb⟩;refine ⟨_,rfl,?_⟩;replace S:=S.got (atU (d:=Kd.slice 3 (Kd.int .i64))) hb ho0;obtain ⟨At559,ct559,rfl,S⟩:=S;clear F hb ho0;(try rw [← Ny556.out] at S);replace S:=S.fzr At559 rfl;obtain ⟨Ait559,cit559,S⟩:=S.innz t559 (atI .i64) (rd_L3 t559 0);have F:=S.fc) | ((with_reducible refine gate_callee (f:=112) rfl (L ?_));refine cl (some 25) Try.func112 (impl_marblesTo.calls _ _ _ _ _ _ _ _ _ S.c S.n A9) (hargs:=by (simp only [ma_,mb_,mc_,F] <;> rfl)) (h:=?_);rintro e W ⟨rfl,hb⟩;refine ⟨_,rfl,?_⟩;replace S:=S.gw hb;clear F hb;have F:=S.fc))
   go_ret2
   exact ⟨(by first | rfl | (simp [e0_,e1_] <;> rfl) | (simp [*,e0_,e1_] <;> rfl)),S.below⟩
 · skip
   replace c4:=cbf c4;subst c4
   simp only [Option.some.injEq,Prod.mk.injEq] at H
   obtain ⟨rfl,rfl⟩:=H
   go_enter Try.func43,Try.ntmps43
   go_wp2_with (first | ((with_reducible refine gd 2 rfl (L ?_));refine bo 2 (.agg #[_,_,_]) S ?_;clear S F;intro gb550 W S;have F:=S.fc) | ((with_reducible refine gate_callee (f:=104) rfl (L ?_));refine cl (some 11) Try.func104 (impl_goesBack.calls _ _ _ _ _ _ _ _ _ S.c S.n A3) (hargs:=by (simp only [ma_,mb_,mc_,F] <;> rfl)) (h:=?_);rintro e W ⟨rfl,hb⟩;refine ⟨_,rfl,?_⟩;replace S:=S.go hb;clear F hb;have F:=S.fc))
   go_ret2
   exact ⟨(by first | rfl | (simp [e0_,e1_] <;> rfl) | (simp [*,e0_,e1_] <;> rfl)),S.below⟩

/-! ### laws_FnExactBackCycle: function 5 -/
def laws_FnExactBackCycle.j0:Nat→Bool→Int→Int→List (S80)→Int→Int→List (S27)→Option (Bool)
  | 0,_,_,_,_,_,_,_=>none
  | k + 1,x38,x566000,x566001,x566002,x580000,x580001,x580002=>if x38 = true then (some false) else ((laws_toBoard.f k x566000 x566001 x566002).bind fun bt582=>((laws_eqBoard.f k x580000 x580001 x580002 bt582.1 bt582.2.1 bt582.2.2).bind fun t587=>(if t587 = true then (some true) else (some false))))
def laws_FnExactBackCycle.f (k:Nat) (a0_0:Int) (a0_1:Int) (l0_2:List (S80)) (a1:Int):Option (Bool):=(laws_szBoard.f a0_0 a0_1 l0_2 1048576).bind fun t566=>(if t566 < 0 then (some true) else ((laws_toBoard.f k a0_0 a0_1 l0_2).bind fun bt567=>((spec_BackCycle.f k bt567.1 bt567.2.1 bt567.2.2 a1).bind fun bt572=>((laws_toBoard.f k a0_0 a0_1 l0_2).bind fun bt574=>((impl_BackCycle.f k bt574.1 bt574.2.1 bt574.2.2 a1).bind fun bt580=>(if bt580.1 = bt572.1 then (laws_FnExactBackCycle.j0 k (bt580.2 != bt572.2) a0_0 a0_1 l0_2 bt574.1 bt574.2.1 bt574.2.2) else (laws_FnExactBackCycle.j0 k true a0_0 a0_1 l0_2 bt574.1 bt574.2.1 bt574.2.2)))))))
theorem laws_FnExactBackCycle.calls (k:Nat) (a0_0:Int) (a0_1:Int) (A0_2:Option Addr) (c0_2:Nat) (l0_2:List (S80)) (a1:Int) (r:Bool) (w:World) (hr0_2:Kd.C k80 w A0_2 l0_2.length l0_2) (hc0_2:l0_2.length ≤ c0_2) (hrt:r = true) (h:laws_FnExactBackCycle.f k a0_0 a0_1 l0_2 a1 = some r) :
    Calls Try.prog 5 #[.agg #[.int .i64 a0_0,.int .i64 a0_1,.slice A0_2 l0_2.length c0_2],.int .i64 a1] w fun e w'=>e = .returned (.bool r)∧Below w.heap.size w w':=by
 have S:=St.init (w:=w) (dc k80_heap at80 hr0_2 hc0_2 dn)
 have HRT:=Aside0.mk hrt;clear hrt
 clear hr0_2 hc0_2
 have F:=S.fc
 have H:=h;clear h;unfold laws_FnExactBackCycle.f at H
 replace H:=Option.bind_eq_some_iff.mp H;obtain ⟨t566,A3,H⟩:=H;(try dsimp only at H)
 replace H:=sp_ H;rcases H with ⟨c4,H⟩ | ⟨c4,H⟩
 · skip
   obtain rfl:=Option.some.inj H
   go_enter Try.func5,Try.ntmps5
   go_wp2_with (first | ((with_reducible refine gd 2 rfl (L ?_));refine bo 2 (.agg #[_,_,_]) S ?_;clear S F;intro gb565 W S;have F:=S.fc) | ((with_reducible refine gate_callee (f:=37) rfl (L ?_));refine cl (some 13) Try.func37 (laws_szBoard.calls _ _ _ _ _ _ _ _ S.c S.n A3) (hargs:=by (simp only [ma_,mb_,mc_,F] <;> rfl)) (h:=?_);rintro e W ⟨rfl,hb⟩;refine ⟨_,rfl,?_⟩;replace S:=S.go hb;clear F hb;have F:=S.fc) | ((with_reducible refine gs (t:=25) rfl (L ?_));(first | refine sb (.agg #[_,_,_]) S sz25 ?_ | refine ro (.agg #[_,_,_]) S sz25 ?_ (ho:=rfl) (hx:=rfl) (hy:=rfl));(clear S F;intro W S;have F:=S.fc)))
   go_ret
   exact ⟨(by first | rfl | (simp [e0_,e1_] <;> rfl) | (simp [*,e0_,e1_] <;> rfl)),S.below⟩
 · skip
   replace H:=Option.bind_eq_some_iff.mp H;obtain ⟨⟨t567,t568,t569⟩,A8,H⟩:=H;(try dsimp only at H)
   replace H:=Option.bind_eq_some_iff.mp H;obtain ⟨⟨t572,t573⟩,A9,H⟩:=H;(try dsimp only at H)
   replace H:=Option.bind_eq_some_iff.mp H;obtain ⟨⟨t574,t575,t576⟩,A10,H⟩:=H;(try dsimp only at H)
   replace H:=Option.bind_eq_some_iff.mp H;obtain ⟨⟨t580,t581⟩,A11,H⟩:=H;(try dsimp only at H)
   go_enter Try.func5,Try.ntmps5
   go_upto_region 8 with (first | ((with_reducible refine gd 2 rfl (L ?_));refine bo 2 (.agg #[_,_,_]) S ?_;clear S F;intro gb565 W S;have F:=S.fc) | ((with_reducible refine gate_callee (f:=37) rfl (L ?_));refine cl (some 13) Try.func37 (laws_szBoard.calls _ _ _ _ _ _ _ _ S.c S.n A3) (hargs:=by (simp only [ma_,mb_,mc_,F] <;> rfl)) (h:=?_);rintro e W ⟨rfl,hb⟩;refine ⟨_,rfl,?_⟩;replace S:=S.go hb;clear F hb;have F:=S.fc) | ((with_reducible refine gate_callee (f:=39) rfl (L ?_));refine cl (some 18) Try.func39 (laws_toBoard.calls _ _ _ _ _ _ _ _ _ _ S.c S.n A8) (hargs:=by (simp only [ma_,mb_,mc_,F] <;> rfl)) (h:=?_);rintro e W ⟨v570,rfl,ho0,hb⟩;refine ⟨_,rfl,?_⟩;replace S:=S.got at27 hb ho0;obtain ⟨At569,ct569,rfl,S⟩:=S;clear F hb ho0;have F:=S.fc) | ((with_reducible refine gate_callee (f:=42) rfl (L ?_));refine cl (some 20) Try.func42 (spec_BackCycle.calls _ _ _ _ _ _ _ _ _ _ S.c S.n A9) (hargs:=by (simp only [ma_,mb_,mc_,F] <;> rfl)) (h:=?_);rintro e W ⟨rfl,hb⟩;refine ⟨_,rfl,?_⟩;replace S:=S.go hb;clear F hb;have F:=S.fc) | ((with_reducible refine gate_callee (f:=39) rfl (L ?_));refine cl (some 24) Try.func39 (laws_toBoard.calls _ _ _ _ _ _ _ _ _ _ S.c S.n A10) (hargs:=by (simp only [ma_,mb_,mc_,F] <;> rfl)) (h:=?_);rintro e W ⟨v577,rfl,ho0,hb⟩;refine ⟨_,rfl,?_⟩;replace S:=S.got at27 hb ho0;obtain ⟨At576,ct576,rfl,S⟩:=S;clear F hb ho0;have F:=S.fc) | ((with_reducible refine gd 8 rfl (L ?_));refine al 8 S zi25 ?_;clear S F;intro gb579 W S;have F:=S.fc) | ((with_reducible refine gate_callee (f:=43) rfl (L ?_));refine cl (some 28) Try.func43 (impl_BackCycle.calls _ _ _ _ _ _ _ _ _ _ S.c S.n A11) (hargs:=by (simp only [ma_,mb_,mc_,F] <;> rfl)) (h:=?_);rintro e W ⟨rfl,hb⟩;refine ⟨_,rfl,?_⟩;replace S:=S.go hb;clear F hb;have F:=S.fc) | ((with_reducible refine gs (t:=25) rfl (L ?_));(first | refine sb (.agg #[_,_,_]) S sz25 ?_ | refine ro (.agg #[_,_,_]) S sz25 ?_ (ho:=rfl) (hx:=rfl) (hy:=rfl));(clear S F;intro W S;have F:=S.fc)))
   (try simp only [Act.put,List.setIfInBounds_toArray,List.set_cons_zero,List.set_cons_succ])
   go_cut [38] (fun v38 wc=>∃ (kq:Nat) (x38_11:Bool),v38 = .bool x38_11∧laws_FnExactBackCycle.j0 kq x38_11 a0_0 a0_1 l0_2 t574 t575 t576 = some r∧kq ≤ k∧St w w (fun _=>False) [bor at80 A0_2 c0_2 l0_2] wc  [box gb579 25 [.int .i64 t574,.int .i64 t575,.slice At576 t576.length ct576],row at27 27 At576 t576.length ct576 t576,box gb565 50 [.int .i64 a0_0,.int .i64 a0_1,.slice A0_2 l0_2.length c0_2]])
   case first =>
    replace H:=sp_ H;rcases H with ⟨c27,H⟩ | ⟨c27,H⟩
    · skip
      replace c27:=ceq c27
      go_wp2_with (first | ((with_reducible refine gs (t:=25) rfl (L ?_));(first | refine sb (.agg #[_,_,_]) S sz25 ?_ | refine ro (.agg #[_,_,_]) S sz25 ?_ (ho:=rfl) (hx:=rfl) (hy:=rfl));(clear S F;intro W S;have F:=S.fc)))
      go_meet
      case rel=>exact ⟨_,(t581 != t573),(by first | rfl | (simp;done) | (simp [*];done) | (rw [w6_ (by omega) (by omega)])),H,(by first | omega | exact Nat.le_refl _),(S.pm [0,1,3])⟩
    · skip
      replace c27:=cne c27
      go_wp2_with (first | ((with_reducible refine gs (t:=25) rfl (L ?_));(first | refine sb (.agg #[_,_,_]) S sz25 ?_ | refine ro (.agg #[_,_,_]) S sz25 ?_ (ho:=rfl) (hx:=rfl) (hy:=rfl));(clear S F;intro W S;have F:=S.fc)))
      go_meet
      case rel=>exact ⟨_,true,(by first | rfl | (simp;done) | (simp [*];done) | (rw [w6_ (by omega) (by omega)])),H,(by first | omega | exact Nat.le_refl _),(S.pm [0,1,3])⟩
   case rest =>
    clear H S F
    obtain ⟨kq,x38_11,rfl,HA,HJ11,S⟩:=hcut
    have F:=S.fc
    cases kq with
    | zero=>exact absurd HA (by simp [laws_FnExactBackCycle.j0])
    | succ kj11 =>
     have H:=HA;clear HA;simp only [laws_FnExactBackCycle.j0,F] at H
     replace H:=sp_ H;rcases H with ⟨c28,H⟩ | ⟨c28,H⟩
     · skip
       subst c28
       exact absurd (H.trans (congrArg some HRT.out)) (by simp)
     · skip
       replace c28:=cbf c28;subst c28
       replace H:=Option.bind_eq_some_iff.mp H;obtain ⟨⟨t582,t583,t584⟩,A29,H⟩:=H;(try dsimp only at H)
       replace H:=Option.bind_eq_some_iff.mp H;obtain ⟨t587,A30,H⟩:=H;(try dsimp only at H)
       replace H:=sp_ H;rcases H with ⟨c31,H⟩ | ⟨c31,H⟩
       · skip
         subst c31
         obtain rfl:=Option.some.inj H
         go_wp2_with (first | ((with_reducible refine gs (t:=25) rfl (L ?_));(first | refine sb (.agg #[_,_,_]) S sz25 ?_ | refine ro (.agg #[_,_,_]) S sz25 ?_ (ho:=rfl) (hx:=rfl) (hy:=rfl));(clear S F;intro W S;have F:=S.fc)))
         refine rq S [(1,0),(1,1),(2,2),(2,3),(0,4)] [] (h:=?_);clear S F;intro W S;have S0:=S;have F:=S.fc
         repeat (first | (refine q0 (h:=?_)) | (refine q1 S0 (h:=?_)) | (refine q0n (h:=?_)) | (refine q1n S0 (h:=?_)))
         refine lk2 (by rfl) (by exact (Eq.refl true)) ?_;refine cl (some 41) Try.func39 (laws_toBoard.calls _ _ _ _ _ _ _ _ _ _ S.c S.n A29) (hargs:=by (simp only [ma_,mb_,mc_,F] <;> rfl)) (h:=?_);rintro e W ⟨v585,rfl,ho0,hb⟩;refine ⟨_,rfl,?_⟩;replace S:=S.got at27 hb ho0;obtain ⟨At584,ct584,rfl,S⟩:=S;clear F hb ho0;have F:=S.fc
         clear S0;have S0:=S.tl;refine ⟨S0,?_⟩
         refine lk2 (by rfl) (by exact (Eq.refl true)) ?_;refine cl (some 42) Try.func41 (laws_eqBoard.calls _ _ _ _ _ _ _ _ _ _ _ _ _ S.c S.n S.c S.n A30) (hargs:=by (simp only [ma_,mb_,mc_,F] <;> rfl)) (h:=?_);rintro e W ⟨rfl,hb⟩;refine ⟨_,rfl,?_⟩;replace S:=S.go hb;clear F hb;have F:=S.fc
         clear S0;have S0:=S.tl;refine ⟨S0,?_⟩
         repeat (first | (refine q0 (h:=?_)) | (refine q1 S0 (h:=?_)) | (refine q0n (h:=?_)) | (refine q1n S0 (h:=?_)))
         refine oz ?_
         try clear S0
         go_wp2_with (first | ((with_reducible refine gs (t:=25) rfl (L ?_));(first | refine sb (.agg #[_,_,_]) S sz25 ?_ | refine ro (.agg #[_,_,_]) S sz25 ?_ (ho:=rfl) (hx:=rfl) (hy:=rfl));(clear S F;intro W S;have F:=S.fc)))
         go_ret
         exact ⟨(by first | rfl | (simp [e0_,e1_] <;> rfl) | (simp [*,e0_,e1_] <;> rfl)),S.below⟩
       · skip
         replace c31:=cbf c31;subst c31
         exact absurd (H.trans (congrArg some HRT.out)) (by simp)
end Go.Proofs.Ytimeepcpgjnajaa.F
