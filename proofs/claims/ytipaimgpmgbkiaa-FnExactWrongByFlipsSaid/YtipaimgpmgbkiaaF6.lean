-- Printed by a program; checked here.
import Derived.Test.YtipaimgpmgbkiaaF0
import Derived.Test.YtipaimgpmgbkiaaF1
import Derived.Test.YtipaimgpmgbkiaaF2
import Derived.Test.YtipaimgpmgbkiaaF3
import Derived.Test.YtipaimgpmgbkiaaF4
namespace Go.Proofs.Ytipaimgpmgbkiaa.F
open Go.RowKit Go.Proofs.YtipaimgpmgbkiaaV.PrintWords Go.Proofs.YtipaimgpmgbkiaaV.PrintLast Go.Proofs.YtipaimgpmgbkiaaV.PrintMore Go.Proofs.YtipaimgpmgbkiaaV.Sl
attribute [local go_sem] max2_int min2_int max_two min_two max_three min_three max_four min_four ia_opt it_opt
attribute [local go_sem] Try.underlying23 Try.underlying29 Try.underlying41 Try.underlying42 Try.underlying46 Try.underlying50 Try.underlying63 Try.underlying88 Try.underlying106 Try.underlying127
set_option maxHeartbeats 8000000
set_option maxRecDepth 100000
set_option linter.unusedVariables false
set_option linter.unusedSimpArgs false

/-! ### laws_szTable: function 47 -/
def laws_szTable.f (a0_0:Int) (l0_1:List Int) (a1:Int):Option (Int):=(laws_szIntS.f l0_1 a1).bind fun t559=>(if t559 < 0 then (some (-1)) else (some t559))
theorem laws_szTable.calls (a0_0:Int) (A0_1:Option Addr) (c0_1:Nat) (l0_1:List Int) (a1:Int) (r:Int) (w:World) (hr0_1:Kd.C (Kd.int .i64) w A0_1 l0_1.length l0_1) (hc0_1:l0_1.length ≤ c0_1) (h:laws_szTable.f a0_0 l0_1 a1 = some r) :
    Calls Try.prog 47 #[.agg #[.int .i64 a0_0,.slice A0_1 l0_1.length c0_1],.int .i64 a1] w fun e w'=>e = .returned (.int .i64 r)∧Below w.heap.size w w':=by
 have S:=St.init (w:=w) (dc (Kd.heap_int .i64) (atI .i64) hr0_1 hc0_1 dn)
 clear hr0_1 hc0_1
 have F:=S.fc
 have H:=h;clear h;unfold laws_szTable.f at H
 replace H:=Option.bind_eq_some_iff.mp H;obtain ⟨t559,A3,H⟩:=H;(try dsimp only at H)
 replace H:=sp_ H;rcases H with ⟨c4,H⟩ | ⟨c4,H⟩
 · skip
   obtain rfl:=Option.some.inj H
   go_enter Try.func47,Try.ntmps47
   go_wp2_with (first | ((with_reducible refine gd 2 rfl (L ?_));refine bo 2 (.agg #[_,_]) S ?_;clear S F;intro gb558 W S;have F:=S.fc) | ((with_reducible refine gate_callee (f:=59) rfl (L ?_));refine cl (some 8) Try.func59 (laws_szIntS.calls _ _ _ _ _ _ S.c S.n A3) (hargs:=by (simp only [ma_,mb_,mc_,F] <;> rfl)) (h:=?_);rintro e W ⟨rfl,hb⟩;refine ⟨_,rfl,?_⟩;replace S:=S.gw hb;clear F hb;have F:=S.fc))
   go_ret
   exact ⟨(by first | rfl | (simp [e0_,e1_] <;> rfl) | (simp [*,e0_,e1_] <;> rfl)),S.below⟩
 · skip
   obtain rfl:=Option.some.inj H
   go_enter Try.func47,Try.ntmps47
   go_wp2_with (first | ((with_reducible refine gd 2 rfl (L ?_));refine bo 2 (.agg #[_,_]) S ?_;clear S F;intro gb558 W S;have F:=S.fc) | ((with_reducible refine gate_callee (f:=59) rfl (L ?_));refine cl (some 8) Try.func59 (laws_szIntS.calls _ _ _ _ _ _ S.c S.n A3) (hargs:=by (simp only [ma_,mb_,mc_,F] <;> rfl)) (h:=?_);rintro e W ⟨rfl,hb⟩;refine ⟨_,rfl,?_⟩;replace S:=S.gw hb;clear F hb;have F:=S.fc))
   go_ret
   exact ⟨(by first | rfl | (simp [e0_,e1_] <;> rfl) | (simp [*,e0_,e1_] <;> rfl)),S.below⟩

/-! ### spec_vfWrong: function 86 -/
def spec_vfWrong.l0:Nat→List Int→List Int→List Int→Int→Int→Option (List Int)
  | 0,_,_,_,_,_=>none
  | k + 1,x1,x5,x8,x9,x10=>if x10 < x9 then (if 0 ≤ x10 then (if x10 < (x8.length:Int) then (if x10 < (x1.length:Int) then (if (rd x8 x10) = (rd x1 x10) then (spec_vfWrong.l0 k x1 x5 x8 x9 (wrap64 (x10 + 1))) else (if x5.length < 17592186044416 then (spec_vfWrong.l0 k x1 (x5 ++ [x10]) x8 x9 (wrap64 (x10 + 1))) else (none))) else (none)) else (none)) else (none)) else (some x5)
def spec_vfWrong.f (k:Nat) (l0:List Int) (l1:List Int):Option (List Int):=spec_vfWrong.l0 k l1 ([]:List Int) l0 (l0.length:Int) 0
theorem spec_vfWrong.calls (k:Nat) (A0:Option Addr) (c0:Nat) (l0:List Int) (A1:Option Addr) (c1:Nat) (l1:List Int) (r:List Int) (w:World) (hr0:Kd.C (Kd.int .i64) w A0 l0.length l0) (hc0:l0.length ≤ c0) (hr1:Kd.C (Kd.int .i64) w A1 l1.length l1) (hc1:l1.length ≤ c1) (h:spec_vfWrong.f k l0 l1 = some r) :
    Calls Try.prog 86 #[.slice A0 l0.length c0,.slice A1 l1.length c1] w fun e w'=>∃ v0_:Value,e = .returned (v0_)∧Kd.R (Kd.int .i64) 3 w' w.heap.size (fun _=>True) v0_ r∧Below w.heap.size w w':=by
 have S:=St.init (w:=w) (dc (Kd.heap_int .i64) (atI .i64) hr0 hc0 (dc (Kd.heap_int .i64) (atI .i64) hr1 hc1 dn))
 clear hr0 hc0 hr1 hc1
 have F:=S.fc
 have H:=h;clear h;unfold spec_vfWrong.f at H
 go_enter Try.func86,Try.ntmps86
 go_wp2
 go_loopg [5,10] k (fun kq v5 v10 w'=>∃ (x5_1:List Int) (x10_1:Int) (Ax5_1:Option Addr) (cx5_1:Nat),v10 = .int .i64 x10_1∧v5 = .slice Ax5_1 x5_1.length cx5_1∧spec_vfWrong.l0 kq l1 x5_1 l0 (l0.length:Int) x10_1 = some r∧kq ≤ k∧St w w (fun _=>False) [bor (atI .i64) A0 c0 l0,bor (atI .i64) A1 c1 l1] w'  [row (atI .i64) 3 Ax5_1 x5_1.length cx5_1 x5_1])
 case atStart=>exact ⟨_,0,_,_,(by first | rfl | (simp;done) | (simp [*];done) | (rw [w6_ (by omega) (by omega)])),rfl,H,Nat.le_refl _,(S.nl (e:=3) (atI .i64))⟩
 case round =>
  clear H S F
  obtain ⟨x5_1,x10_1,Ax5_1,cx5_1,rfl,rfl,HA,HK1,S⟩:=hrel
  have F:=S.fc
  cases gk with
  | zero=>exact absurd HA (by simp [spec_vfWrong.l0])
  | succ k1 =>
   have H:=HA;clear HA;simp only [spec_vfWrong.l0,F] at H
   replace H:=sp_ H;rcases H with ⟨c3,H⟩ | ⟨c3,H⟩
   · skip
     replace H:=np_ H;obtain ⟨c4,H⟩:=H
     replace H:=np_ H;obtain ⟨c5,H⟩:=H
     replace H:=np_ H;obtain ⟨c6,H⟩:=H
     replace H:=sp_ H;rcases H with ⟨c7,H⟩ | ⟨c7,H⟩
     · skip
       replace c7:=ceq c7
       go_wp2
       go_roundg k1
       case measure=>omega
       case rel=>exact ⟨x5_1,(wrap64 (x10_1 + 1)),_,_,(by first | rfl | (simp;done) | (simp [*];done) | (rw [w6_ (by omega) (by omega)])),rfl,H,(by first | omega | exact Nat.le_refl _),S⟩
     · skip
       replace c7:=cne c7
       replace H:=np_ H;obtain ⟨c8,H⟩:=H
       (first | (with_reducible replace H:=ob_ H;obtain ⟨y562,hy562,H⟩:=H;(try dsimp only at H)) | (obtain ⟨y562,hy562⟩:∃ y_:List Int,y_ = (x5_1 ++ [x10_1]):=⟨_,rfl⟩;(try rw [← hy562] at H);(try simp only [Option.bind_some] at H)));have Ny562:=Aside0.mk hy562;clear hy562
       go_wp2_with (first | ((with_reducible refine gd 24 rfl (L ?_));refine apa (A:=Ax5_1) 24 S Try.underlying23 info3 ?_ (ho:=rfl) (hs:=rfl) (hx:=rfl);clear S F;intro Ay562 cy562 W S;(try rw [← Ny562.out] at S ⊢);have F:=S.fc))
       go_roundg k1
       case measure=>omega
       case rel=>exact ⟨y562,(wrap64 (x10_1 + 1)),_,_,(by first | rfl | (simp;done) | (simp [*];done) | (rw [w6_ (by omega) (by omega)])),rfl,H,(by first | omega | exact Nat.le_refl _),S⟩
   · skip
     obtain rfl:=Option.some.inj H
     go_wp2
     go_ret
     exact ⟨_,(by first | rfl | (simp [e0_,e1_] <;> rfl) | (simp [*,e0_,e1_] <;> rfl)),(by first | exact S.r | exact Kd.R_nil _ _ _ _ _),S.below⟩

/-! ### spec_WrongByFlips: function 48 -/
def spec_WrongByFlips.j0:Nat→Int→List (List Int)→Int→Bool→Int→Int→List (S88)→Int→List Int→Option (List Int × Bool)
  | 0,_,_,_,_,_,_,_,_,_=>none
  | k + 1,x1,x2,x3,x29,x566000,x566001,x566002,x567000,x567001=>if x29 = true then (some (([]:List Int),false)) else ((spec_vfByFlips.f k x566000 x566001 x566002 x1 x2 x3).bind fun t569=>((spec_vfWrong.f k t569 x567001).bind fun t572=>(some (t572,true))))
def spec_WrongByFlips.f (k:Nat) (a0_0:Int) (a0_1:Int) (l0_2:List (S88)) (a1:Int) (l2:List (List Int)) (a3:Int) (a4_0:Int) (l4_1:List Int):Option (List Int × Bool):=(spec_vfFlips.f k a0_0 a0_1 l0_2 a1 l2 a3).bind fun t567=>(if t567 = true then ((spec_ttGood.f k a4_0 l4_1).bind fun t568=>(if t568 = true then (spec_WrongByFlips.j0 k a1 l2 a3 (a4_0 != (l2.length:Int)) a0_0 a0_1 l0_2 a4_0 l4_1) else (spec_WrongByFlips.j0 k a1 l2 a3 true a0_0 a0_1 l0_2 a4_0 l4_1))) else (spec_WrongByFlips.j0 k a1 l2 a3 true a0_0 a0_1 l0_2 a4_0 l4_1))
theorem spec_WrongByFlips.calls (k:Nat) (a0_0:Int) (a0_1:Int) (A0_2:Option Addr) (c0_2:Nat) (l0_2:List (S88)) (a1:Int) (A2:Option Addr) (c2:Nat) (l2:List (List Int)) (a3:Int) (a4_0:Int) (A4_1:Option Addr) (c4_1:Nat) (l4_1:List Int) (r1:List Int) (r2:Bool) (w:World) (hr0_2:Kd.C k88 w A0_2 l0_2.length l0_2) (hc0_2:l0_2.length ≤ c0_2) (hr2:Kd.C (Kd.slice 3 (Kd.int .i64)) w A2 l2.length l2) (hc2:l2.length ≤ c2) (hr4_1:Kd.C (Kd.int .i64) w A4_1 l4_1.length l4_1) (hc4_1:l4_1.length ≤ c4_1) (h:spec_WrongByFlips.f k a0_0 a0_1 l0_2 a1 l2 a3 a4_0 l4_1 = some (r1,r2)) :
    Calls Try.prog 48 #[.agg #[.int .i64 a0_0,.int .i64 a0_1,.slice A0_2 l0_2.length c0_2],.int .i64 a1,.slice A2 l2.length c2,.int .i64 a3,.agg #[.int .i64 a4_0,.slice A4_1 l4_1.length c4_1]] w fun e w'=>∃ v0_:Value,e = .returned (.tuple #[v0_,.bool r2])∧Kd.R (Kd.int .i64) 3 w' w.heap.size (fun _=>True) v0_ r1∧Below w.heap.size w w':=by
 have S:=St.init (w:=w) (dc k88_heap at88 hr0_2 hc0_2 (dc (Kd.heap_slice 3 (Kd.heap_int .i64)) (atU (d:=Kd.slice 3 (Kd.int .i64))) hr2 hc2 (dc (Kd.heap_int .i64) (atI .i64) hr4_1 hc4_1 dn)))
 clear hr0_2 hc0_2 hr2 hc2 hr4_1 hc4_1
 have F:=S.fc
 have H:=h;clear h;unfold spec_WrongByFlips.f at H
 go_enter Try.func48,Try.ntmps48
 go_upto_region 1 with (first | ((with_reducible refine gd 5 rfl (L ?_));refine bo 5 (.agg #[_,_,_]) S ?_;clear S F;intro gb565 W S;have F:=S.fc) | ((with_reducible refine gd 9 rfl (L ?_));refine bo 9 (.agg #[_,_]) S ?_;clear S F;intro gb566 W S;have F:=S.fc))
 (try simp only [Act.put,List.setIfInBounds_toArray,List.set_cons_zero,List.set_cons_succ])
 go_cut [29] (fun v29 wc=>∃ (kq:Nat) (x29_5:Bool),v29 = .bool x29_5∧spec_WrongByFlips.j0 kq a1 l2 a3 x29_5 a0_0 a0_1 l0_2 a4_0 l4_1 = some (r1,r2)∧kq ≤ k∧St w w (fun _=>False) [bor at88 A0_2 c0_2 l0_2,bor (atU (d:=Kd.slice 3 (Kd.int .i64))) A2 c2 l2,bor (atI .i64) A4_1 c4_1 l4_1] wc  [box gb566 46 [.int .i64 a4_0,.slice A4_1 l4_1.length c4_1],box gb565 50 [.int .i64 a0_0,.int .i64 a0_1,.slice A0_2 l0_2.length c0_2]])
 case first =>
  replace H:=Option.bind_eq_some_iff.mp H;obtain ⟨t567,A9,H⟩:=H;(try dsimp only at H)
  replace H:=sp_ H;rcases H with ⟨c10,H⟩ | ⟨c10,H⟩
  · skip
    subst c10
    replace H:=Option.bind_eq_some_iff.mp H;obtain ⟨t568,A11,H⟩:=H;(try dsimp only at H)
    replace H:=sp_ H;rcases H with ⟨c12,H⟩ | ⟨c12,H⟩
    · skip
      subst c12
      go_wp2_with (first | ((with_reducible refine gate_callee (f:=76) rfl (L ?_));refine cl (some 16) Try.func76 (spec_vfFlips.calls _ _ _ _ _ _ _ _ _ _ _ _ _ S.c S.n S.c S.n A9) (hargs:=by (simp only [ma_,mb_,mc_,F] <;> rfl)) (h:=?_);rintro e W ⟨rfl,hb⟩;refine ⟨_,rfl,?_⟩;replace S:=S.go hb;clear F hb;have F:=S.fc) | (go_at_call 78;(try simp only [F]);refine (spec_ttGood.calls _ _ _ _ _ _ _ S.c S.n A11).mono ?_;rintro e W ⟨rfl,hb⟩;replace S:=S.go hb;clear F hb;have F:=S.fc))
      go_meet
      case rel=>exact ⟨_,(a4_0 != (l2.length:Int)),(by first | rfl | (simp;done) | (simp [*];done) | (rw [w6_ (by omega) (by omega)])),H,(by first | omega | exact Nat.le_refl _),S⟩
    · skip
      replace c12:=cbf c12;subst c12
      go_wp2_with (first | ((with_reducible refine gate_callee (f:=76) rfl (L ?_));refine cl (some 16) Try.func76 (spec_vfFlips.calls _ _ _ _ _ _ _ _ _ _ _ _ _ S.c S.n S.c S.n A9) (hargs:=by (simp only [ma_,mb_,mc_,F] <;> rfl)) (h:=?_);rintro e W ⟨rfl,hb⟩;refine ⟨_,rfl,?_⟩;replace S:=S.go hb;clear F hb;have F:=S.fc) | (go_at_call 78;(try simp only [F]);refine (spec_ttGood.calls _ _ _ _ _ _ _ S.c S.n A11).mono ?_;rintro e W ⟨rfl,hb⟩;replace S:=S.go hb;clear F hb;have F:=S.fc))
      go_meet
      case rel=>exact ⟨_,true,(by first | rfl | (simp;done) | (simp [*];done) | (rw [w6_ (by omega) (by omega)])),H,(by first | omega | exact Nat.le_refl _),S⟩
  · skip
    replace c10:=cbf c10;subst c10
    go_wp2_with (first | ((with_reducible refine gate_callee (f:=76) rfl (L ?_));refine cl (some 16) Try.func76 (spec_vfFlips.calls _ _ _ _ _ _ _ _ _ _ _ _ _ S.c S.n S.c S.n A9) (hargs:=by (simp only [ma_,mb_,mc_,F] <;> rfl)) (h:=?_);rintro e W ⟨rfl,hb⟩;refine ⟨_,rfl,?_⟩;replace S:=S.go hb;clear F hb;have F:=S.fc))
    go_meet
    case rel=>exact ⟨_,true,(by first | rfl | (simp;done) | (simp [*];done) | (rw [w6_ (by omega) (by omega)])),H,(by first | omega | exact Nat.le_refl _),S⟩
 case rest =>
  clear H S F
  obtain ⟨kq,x29_5,rfl,HA,HJ5,S⟩:=hcut
  have F:=S.fc
  cases kq with
  | zero=>exact absurd HA (by simp [spec_WrongByFlips.j0])
  | succ kj5 =>
   have H:=HA;clear HA;simp only [spec_WrongByFlips.j0,F] at H
   replace H:=sp_ H;rcases H with ⟨c27,H⟩ | ⟨c27,H⟩
   · skip
     subst c27
     simp only [Option.some.injEq,Prod.mk.injEq] at H
     obtain ⟨rfl,rfl⟩:=H
     go_wp2
     go_ret2
     exact ⟨_,(by first | rfl | (simp [e0_,e1_] <;> rfl) | (simp [*,e0_,e1_] <;> rfl)),(by first | exact S.r | exact Kd.R_nil _ _ _ _ _),S.below⟩
   · skip
     replace c27:=cbf c27;subst c27
     replace H:=Option.bind_eq_some_iff.mp H;obtain ⟨t569,A28,H⟩:=H;(try dsimp only at H)
     replace H:=Option.bind_eq_some_iff.mp H;obtain ⟨t572,A29,H⟩:=H;(try dsimp only at H)
     simp only [Option.some.injEq,Prod.mk.injEq] at H
     obtain ⟨rfl,rfl⟩:=H
     try go_wp2
     refine rq S [(0,1),(0,2),(0,3),(0,5),(1,0),(1,6),(2,4),(2,7),(0,8),(0,9)] [] (h:=?_);clear S F;intro W S;have S0:=S;have F:=S.fc
     repeat (first | (refine q0 (h:=?_)) | (refine q1 S0 (h:=?_)) | (refine q0n (h:=?_)) | (refine q1n S0 (h:=?_)))
     refine lk2 (by rfl) (by exact (Eq.refl true)) ?_;refine cl (some 34) Try.func77 (spec_vfByFlips.calls _ _ _ _ _ _ _ _ _ _ _ _ _ S.c S.n S.c S.n A28) (hargs:=by (simp only [ma_,mb_,mc_,F] <;> rfl)) (h:=?_);rintro e W ⟨v570,rfl,ho0,hb⟩;refine ⟨_,rfl,?_⟩;replace S:=S.got (atI .i64) hb ho0;obtain ⟨At569,ct569,rfl,S⟩:=S;clear F hb ho0;have F:=S.fc
     clear S0;have S0:=S.tl;refine ⟨S0,?_⟩
     refine lk2 (by rfl) (by exact (Eq.refl true)) ?_;refine cl (some 37) Try.func86 (spec_vfWrong.calls _ _ _ _ _ _ _ _ _ S.c S.n S.c S.n A29) (hargs:=by (simp only [ma_,mb_,mc_,F] <;> rfl)) (h:=?_);rintro e W ⟨v573,rfl,ho0,hb⟩;refine ⟨_,rfl,?_⟩;replace S:=S.got (atI .i64) hb ho0;obtain ⟨At572,ct572,rfl,S⟩:=S;clear F hb ho0;have F:=S.fc
     clear S0;have S0:=S.tl.tl;refine ⟨S0,?_⟩
     repeat (first | (refine q0 (h:=?_)) | (refine q1 S0 (h:=?_)) | (refine q0n (h:=?_)) | (refine q1n S0 (h:=?_)))
     refine oz ?_
     try clear S0
     try go_wp2
     go_ret2
     exact ⟨_,(by first | rfl | (simp [e0_,e1_] <;> rfl) | (simp [*,e0_,e1_] <;> rfl)),(by first | exact S.r | exact Kd.R_nil _ _ _ _ _),S.below⟩

/-! ### laws_toTable: function 49 -/
def laws_toTable.f (k:Nat) (a0_0:Int) (l0_1:List Int):Option (Int × List Int):=(laws_toIntS.f k l0_1).bind fun t578=>(some (a0_0,t578))
theorem laws_toTable.calls (k:Nat) (a0_0:Int) (A0_1:Option Addr) (c0_1:Nat) (l0_1:List Int) (r1:Int) (r2:List Int) (w:World) (hr0_1:Kd.C (Kd.int .i64) w A0_1 l0_1.length l0_1) (hc0_1:l0_1.length ≤ c0_1) (h:laws_toTable.f k a0_0 l0_1 = some (r1,r2)) :
    Calls Try.prog 49 #[.agg #[.int .i64 a0_0,.slice A0_1 l0_1.length c0_1]] w fun e w'=>∃ v1_:Value,e = .returned (.agg #[.int .i64 r1,v1_])∧Kd.R (Kd.int .i64) 3 w' w.heap.size (fun _=>True) v1_ r2∧Below w.heap.size w w':=by
 have S:=St.init (w:=w) (dc (Kd.heap_int .i64) (atI .i64) hr0_1 hc0_1 dn)
 clear hr0_1 hc0_1
 have F:=S.fc
 have H:=h;clear h;unfold laws_toTable.f at H
 replace H:=Option.bind_eq_some_iff.mp H;obtain ⟨t578,A2,H⟩:=H;(try dsimp only at H)
 simp only [Option.some.injEq,Prod.mk.injEq] at H
 obtain ⟨rfl,rfl⟩:=H
 go_enter Try.func49,Try.ntmps49
 go_wp2_with (first | ((with_reducible refine gd 1 rfl (L ?_));refine bo 1 (.agg #[_,_]) S ?_;clear S F;intro gb575 W S;have F:=S.fc) | ((with_reducible refine gd 2 rfl (L ?_));refine al 2 S zi46 ?_;clear S F;intro gb576 W S;have F:=S.fc) | ((with_reducible refine gd 3 rfl (L ?_));refine al 3 S zi46 ?_;clear S F;intro gb577 W S;have F:=S.fc) | ((with_reducible refine gate_callee (f:=62) rfl (L ?_));refine cl (some 9) Try.func62 (laws_toIntS.calls _ _ _ _ _ _ S.c S.n A2) (hargs:=by (simp only [ma_,mb_,mc_,F] <;> rfl)) (h:=?_);rintro e W ⟨v579,rfl,ho0,hb⟩;refine ⟨_,rfl,?_⟩;replace S:=S.got (atI .i64) hb ho0;obtain ⟨At578,ct578,rfl,S⟩:=S;clear F hb ho0;have F:=S.fc) | ((with_reducible refine gs (t:=3) rfl (L ?_));(first | refine sb (.int _ _) S sz3 ?_ | refine ro (.int _ _) S sz3 ?_ (ho:=rfl) (hx:=rfl) (hy:=rfl));(clear S F;intro W S;have F:=S.fc)) | ((with_reducible refine gs (t:=23) rfl (L ?_));(first | refine sb (.slice _ _ _) S sz23 ?_ | refine ro (.slice _ _ _) S sz23 ?_ (ho:=rfl) (hx:=rfl) (hy:=rfl));(clear S F;intro W S;have F:=S.fc)) | ((with_reducible refine gs (t:=46) rfl (L ?_));(first | refine sb (.agg #[_,_]) S sz46 ?_ | refine ro (.agg #[_,_]) S sz46 ?_ (ho:=rfl) (hx:=rfl) (hy:=rfl));(clear S F;intro W S;have F:=S.fc)))
 refine bodyPost_ret (results_cell_row rfl _ _ gb576 46 #[.int .i64 a0_0,.slice At578 t578.length ct578] (0,0) _ rfl S.hb Try.underlying46 rfl (by kernel_rfl)) rfl ?_
 exact ⟨_,(by first | rfl | (simp [e0_,e1_] <;> rfl) | (simp [*,e0_,e1_] <;> rfl)),(by first | exact S.r | exact Kd.R_nil _ _ _ _ _),S.below⟩

/-! ### impl_areBits: function 119 -/
def impl_areBits.l0:Nat→List Int→Int→Int→Option (Bool)
 | 0,_,_,_=>none
 | k + 1,x5,x6,x7=>if x7 < x6 then (if 0 ≤ x7 then (if x7 < (x5.length:Int) then (if (rd x5 x7) = 0 then (impl_areBits.l0 k x5 x6 (wrap64 (x7 + 1))) else (if (rd x5 x7) = 1 then (impl_areBits.l0 k x5 x6 (wrap64 (x7 + 1))) else (some false))) else (none)) else (none)) else (some true)
def impl_areBits.f (k:Nat) (l0:List Int):Option (Bool):=impl_areBits.l0 k l0 (l0.length:Int) 0
theorem impl_areBits.calls (k:Nat) (A0:Option Addr) (c0:Nat) (l0:List Int) (r:Bool) (w:World) (hr0:Kd.C (Kd.int .i64) w A0 l0.length l0) (hc0:l0.length ≤ c0) (h:impl_areBits.f k l0 = some r) :
  Calls Try.prog 119 #[.slice A0 l0.length c0] w fun e w'=>e = .returned (.bool r)∧Drawn0 w w':=by
 have HR0:=Aside0.mk hr0;have HC0:=Aside0.mk hc0;clear hr0 hc0;have H:(impl_areBits.l0 k l0 (l0.length:Int) 0) = some r:=h;clear h;have H':=Aside0.mk H;clear H;go_enter Try.func119,Try.ntmps119;go_wp2;go_loopg [7] k (fun kq v7 w'=>∃ (x7_1:Int),v7 = .int .i64 x7_1∧Aside0 (impl_areBits.l0 kq l0 (l0.length:Int) x7_1 = some r)∧Aside0 (kq ≤ k)∧Drawn0 w w')
 case atStart=>exact ⟨(0),(by first | rfl | (simp;done) | (simp [*];done)),H',⟨Nat.le_refl _⟩,by repeat (first | exact Drawn0.refl _ | apply Drawn0.step)⟩
 case round =>
  clear H';(try clear c1);obtain ⟨x7_1,rfl,HA,HK1,⟨m1,rfl⟩⟩:=hrel;cases gk with
  | zero=>exact absurd HA.out (by simp [impl_areBits.l0])
  | succ k1 =>
   have H:=HA.out;clear HA;simp only [impl_areBits.l0] at H;by_cases c2:x7_1 < (l0.length:Int)
   ·rw [if_pos c2] at H;have c2b0:decide (x7_1 < (l0.length:Int)) = true:=decide_eq_true c2;clear c2;replace H:=np_ H;obtain ⟨c3,H⟩:=H;have c3b0:decide (0 ≤ x7_1) = true:=decide_eq_true c3;clear c3;replace H:=np_ H;obtain ⟨c4,H⟩:=H;have c4b0:decide (x7_1 < (l0.length:Int)) = true:=decide_eq_true c4;clear c4;by_cases c5:(rd l0 x7_1) = 0
    ·rw [if_pos c5] at H;have c5b0:((rd l0 x7_1) == 0) = true:=beq_iff_eq.mpr c5;have c5b1:((rd l0 x7_1) != 0) = false:=bne_eq_false_iff_eq.mpr c5;clear c5;have H':=Aside0.mk H;clear H;have p581:0 ≤ (x7_1:Int):=of_decide_eq_true (by first | (with_reducible assumption) | assumption);have q581:x7_1 < (l0.length:Int):=of_decide_eq_true (by first | (with_reducible assumption) | assumption);obtain ⟨ad581,e581,hx581_0⟩:=Kd.at_int HR0.out x7_1 p581 q581;cases e581;replace p581:=eq_true p581;replace q581:=eq_true q581;go_wp2;go_roundg k1
     case measure=>have:=HK1.out;omega
     case rel=>exact ⟨(wrap64 (x7_1 + 1)),(by first | rfl | (simp;done) | (simp [*];done)),H',⟨by have:=HK1.out;omega⟩,by repeat (first | exact Drawn0.refl _ | apply Drawn0.step)⟩
    ·rw [if_neg c5] at H;have c5b0:((rd l0 x7_1) == 0) = false:=beq_eq_false_iff_ne.mpr c5;have c5b1:((rd l0 x7_1) != 0) = true:=bne_iff_ne.mpr c5;by_cases c6:(rd l0 x7_1) = 1
     ·rw [if_pos c6] at H;have c6b0:((rd l0 x7_1) == 1) = true:=beq_iff_eq.mpr c6;have c6b1:((rd l0 x7_1) != 1) = false:=bne_eq_false_iff_eq.mpr c6;clear c6;have H':=Aside0.mk H;clear H;have p581:0 ≤ (x7_1:Int):=of_decide_eq_true (by first | (with_reducible assumption) | assumption);have q581:x7_1 < (l0.length:Int):=of_decide_eq_true (by first | (with_reducible assumption) | assumption);obtain ⟨ad581,e581,hx581_0⟩:=Kd.at_int HR0.out x7_1 p581 q581;cases e581;replace p581:=eq_true p581;replace q581:=eq_true q581;go_wp2;go_roundg k1
      case measure=>have:=HK1.out;omega
      case rel=>exact ⟨(wrap64 (x7_1 + 1)),(by first | rfl | (simp;done) | (simp [*];done)),H',⟨by have:=HK1.out;omega⟩,by repeat (first | exact Drawn0.refl _ | apply Drawn0.step)⟩
     ·rw [if_neg c6] at H;have c6b0:((rd l0 x7_1) == 1) = false:=beq_eq_false_iff_ne.mpr c6;have c6b1:((rd l0 x7_1) != 1) = true:=bne_iff_ne.mpr c6;obtain rfl:=Option.some.inj H;have p581:0 ≤ (x7_1:Int):=of_decide_eq_true (by first | (with_reducible assumption) | assumption);have q581:x7_1 < (l0.length:Int):=of_decide_eq_true (by first | (with_reducible assumption) | assumption);obtain ⟨ad581,e581,hx581_0⟩:=Kd.at_int HR0.out x7_1 p581 q581;cases e581;replace p581:=eq_true p581;replace q581:=eq_true q581;go_wp2;go_ret;exact ⟨by first | rfl | (simp;done) | (simp [*];done),by repeat (first | exact Drawn0.refl _ | apply Drawn0.step)⟩
   ·rw [if_neg c2] at H;have c2b0:decide (x7_1 < (l0.length:Int)) = false:=decide_eq_false c2;clear c2;obtain rfl:=Option.some.inj H;go_wp2;go_ret;exact ⟨by first | rfl | (simp;done) | (simp [*];done),by repeat (first | exact Drawn0.refl _ | apply Drawn0.step)⟩

/-! ### impl_IsTable: function 87 -/
def impl_IsTable.f (k:Nat) (a0_0:Int) (l0_1:List Int):Option (Bool):=if a0_0 ≥ 0 then (if a0_0 ≤ 4 then (if 0 ≤ a0_0 then (if (l0_1.length:Int) = (shl .i64 1 a0_0) then ((impl_areBits.f k l0_1).bind fun t583=>(some t583)) else (some false)) else (none)) else (some false)) else (some false)
theorem impl_IsTable.calls (k:Nat) (a0_0:Int) (A0_1:Option Addr) (c0_1:Nat) (l0_1:List Int) (r:Bool) (w:World) (hr0_1:Kd.C (Kd.int .i64) w A0_1 l0_1.length l0_1) (hc0_1:l0_1.length ≤ c0_1) (h:impl_IsTable.f k a0_0 l0_1 = some r) :
  Calls Try.prog 87 #[.agg #[.int .i64 a0_0,.slice A0_1 l0_1.length c0_1]] w fun e w'=>e = .returned (.bool r)∧Below w.heap.size w w':=by
 have HR0_1:=Aside0.mk hr0_1;have HC0_1:=Aside0.mk hc0_1;clear hr0_1 hc0_1;have HB:=Aside0.mk (Below.refl w.heap.size w);have H:(if a0_0 ≥ 0 then (if a0_0 ≤ 4 then (if 0 ≤ a0_0 then (if (l0_1.length:Int) = (shl .i64 1 a0_0) then ((impl_areBits.f k l0_1).bind fun t583=>(some t583)) else (some false)) else (none)) else (some false)) else (some false)) = some r:=h;clear h;by_cases c2:a0_0 ≥ 0
 ·rw [if_pos c2] at H;have c2b0:decide (0 ≤ a0_0) = true:=decide_eq_true c2;clear c2;by_cases c3:a0_0 ≤ 4
  ·rw [if_pos c3] at H;have c3b0:decide (a0_0 ≤ 4) = true:=decide_eq_true c3;clear c3;replace H:=np_ H;obtain ⟨c4,H⟩:=H;have c4b0:=eq_true c4;have c4b1:decide (0 ≤ a0_0) = true:=decide_eq_true c4;clear c4;obtain ⟨ji5,hji5⟩:∃ j_:Int,(shl .i64 1 a0_0) = j_:=⟨_,rfl⟩
   replace H:(if (l0_1.length:Int) = (ji5) then ((impl_areBits.f k l0_1).bind fun t583=>(some t583)) else (some false)) = some r:=by first | (rw [hji5] at H;exact H) | (simp only [hji5] at H ⊢;exact H)
   have hji5_:(IntKind.i64.wrap (1 * 2 ^ min a0_0.toNat 64)) = ji5:=hji5;have hji5z:a0_0 ≤ 64→(IntKind.i64.wrap (1 * 2 ^ a0_0.toNat)) = ji5:=shl_small hji5;have hji5u:(IntKind.i64.wrap (2 ^ min a0_0.toNat 64)) = ji5:=by have h_:=hji5_;rw [Int.one_mul] at h_;exact h_
   have hji5v:a0_0 ≤ 64→(IntKind.i64.wrap (2 ^ a0_0.toNat)) = ji5:=fun hle_=>by have h_:=hji5z hle_;rw [Int.one_mul] at h_;exact h_
   have hji5y:(wrap64 (1 * 2 ^ min a0_0.toNat 64)) = ji5:=(i64_w _).symm.trans hji5_;have hji5x:a0_0 ≤ 64→(wrap64 (1 * 2 ^ a0_0.toNat)) = ji5:=fun h_=>(i64_w _).symm.trans (hji5z h_);by_cases c6:(l0_1.length:Int) = (ji5)
   ·rw [if_pos c6] at H;have c6b0:((l0_1.length:Int) == (ji5)) = true:=beq_iff_eq.mpr c6;have c6b1:((l0_1.length:Int) != (ji5)) = false:=bne_eq_false_iff_eq.mpr c6;clear c6;replace H:=Option.bind_eq_some_iff.mp H;obtain ⟨t583,A70,H⟩:=H;(try dsimp only at H)
    have A7:=Aside0.mk A70;clear A70;obtain rfl:=Option.some.inj H;go_enter Try.func87,Try.ntmps87;go_wp2_with (first | ((with_reducible refine gate_dst (N:=1) rfl ?_);refine box_event ?hg (N:=1) ?hd (cs:=#[.int .i64 a0_0,.slice A0_1 l0_1.length c0_1]) (t:=46) ?hr ?_;(case hd=>rfl);(case hg=>rfl);(case hr=>first | (go_simp;done) | (go_simp;rfl));intro gb582 hg w8 hbox hb;refine ev4 (bs HB hb) (hbox) (gle hg HB) (gle hg HB) ?_;clear HB;intro HB BK582 GW582 GE582;clear hb hbox hg;obtain ⟨hcz9_0,hcz9_1,hfz9_0,hfz9_1⟩:=bt2 BK582) | (go_at_call 119;(with_reducible refine (impl_areBits.calls k _ _ l0_1 t583 _ (Kd.C_mv (Kd.C_below HR0_1.out HB.out)) HC0_1.out A7.out).mono ?_);rintro e w' ⟨rfl,⟨nd,rfl⟩⟩;(try first | exact ⟨rfl,_,World.drewN_drewN _ _ _⟩ | exact ⟨rfl,_,Eq.trans (World.drewN_drewN _ _ _) (congrArg (World.drewN _) (Nat.add_assoc _ _ _))⟩)))
    repeat (go_quiet (first | ((with_reducible refine gate_dst (N:=1) rfl ?_);refine box_event ?hg (N:=1) ?hd (cs:=#[.int .i64 a0_0,.slice A0_1 l0_1.length c0_1]) (t:=46) ?hr ?_;(case hd=>rfl);(case hg=>rfl);(case hr=>first | (go_simp;done) | (go_simp;rfl));intro gb582 hg w8 hbox hb;refine ev4 (bs HB hb) (hbox) (gle hg HB) (gle hg HB) ?_;clear HB;intro HB BK582 GW582 GE582;clear hb hbox hg;obtain ⟨hcz9_0,hcz9_1,hfz9_0,hfz9_1⟩:=bt2 BK582) | (go_at_call 119;(with_reducible refine (impl_areBits.calls k _ _ l0_1 t583 _ (Kd.C_mv (Kd.C_below HR0_1.out HB.out)) HC0_1.out A7.out).mono ?_);rintro e w' ⟨rfl,⟨nd,rfl⟩⟩;(try first | exact ⟨rfl,_,World.drewN_drewN _ _ _⟩ | exact ⟨rfl,_,Eq.trans (World.drewN_drewN _ _ _) (congrArg (World.drewN _) (Nat.add_assoc _ _ _))⟩)));try go_wp2_with (first | ((with_reducible refine gate_dst (N:=1) rfl ?_);refine box_event ?hg (N:=1) ?hd (cs:=#[.int .i64 a0_0,.slice A0_1 l0_1.length c0_1]) (t:=46) ?hr ?_;(case hd=>rfl);(case hg=>rfl);(case hr=>first | (go_simp;done) | (go_simp;rfl));intro gb582 hg w8 hbox hb;refine ev4 (bs HB hb) (hbox) (gle hg HB) (gle hg HB) ?_;clear HB;intro HB BK582 GW582 GE582;clear hb hbox hg;obtain ⟨hcz9_0,hcz9_1,hfz9_0,hfz9_1⟩:=bt2 BK582) | (go_at_call 119;(with_reducible refine (impl_areBits.calls k _ _ l0_1 t583 _ (Kd.C_mv (Kd.C_below HR0_1.out HB.out)) HC0_1.out A7.out).mono ?_);rintro e w' ⟨rfl,⟨nd,rfl⟩⟩;(try first | exact ⟨rfl,_,World.drewN_drewN _ _ _⟩ | exact ⟨rfl,_,Eq.trans (World.drewN_drewN _ _ _) (congrArg (World.drewN _) (Nat.add_assoc _ _ _))⟩))))
    go_ret;exact ⟨by first | rfl | (simp [e0_,e1_] <;> rfl) | (simp only [← hji5];first | rfl | (simp [e0_,e1_] <;> rfl)) | (simp [*,e0_,e1_] <;> rfl),bm HB⟩
   ·rw [if_neg c6] at H;have c6b0:((l0_1.length:Int) == (ji5)) = false:=beq_eq_false_iff_ne.mpr c6;have c6b1:((l0_1.length:Int) != (ji5)) = true:=bne_iff_ne.mpr c6;obtain rfl:=Option.some.inj H;go_enter Try.func87,Try.ntmps87;go_wp2_with (first | ((with_reducible refine gate_dst (N:=1) rfl ?_);refine box_event ?hg (N:=1) ?hd (cs:=#[.int .i64 a0_0,.slice A0_1 l0_1.length c0_1]) (t:=46) ?hr ?_;(case hd=>rfl);(case hg=>rfl);(case hr=>first | (go_simp;done) | (go_simp;rfl));intro gb582 hg w10 hbox hb;refine ev4 (bs HB hb) (hbox) (gle hg HB) (gle hg HB) ?_;clear HB;intro HB BK582 GW582 GE582;clear hb hbox hg;obtain ⟨hcz11_0,hcz11_1,hfz11_0,hfz11_1⟩:=bt2 BK582))
    repeat (go_quiet (first | ((with_reducible refine gate_dst (N:=1) rfl ?_);refine box_event ?hg (N:=1) ?hd (cs:=#[.int .i64 a0_0,.slice A0_1 l0_1.length c0_1]) (t:=46) ?hr ?_;(case hd=>rfl);(case hg=>rfl);(case hr=>first | (go_simp;done) | (go_simp;rfl));intro gb582 hg w10 hbox hb;refine ev4 (bs HB hb) (hbox) (gle hg HB) (gle hg HB) ?_;clear HB;intro HB BK582 GW582 GE582;clear hb hbox hg;obtain ⟨hcz11_0,hcz11_1,hfz11_0,hfz11_1⟩:=bt2 BK582));try go_wp2_with (first | ((with_reducible refine gate_dst (N:=1) rfl ?_);refine box_event ?hg (N:=1) ?hd (cs:=#[.int .i64 a0_0,.slice A0_1 l0_1.length c0_1]) (t:=46) ?hr ?_;(case hd=>rfl);(case hg=>rfl);(case hr=>first | (go_simp;done) | (go_simp;rfl));intro gb582 hg w10 hbox hb;refine ev4 (bs HB hb) (hbox) (gle hg HB) (gle hg HB) ?_;clear HB;intro HB BK582 GW582 GE582;clear hb hbox hg;obtain ⟨hcz11_0,hcz11_1,hfz11_0,hfz11_1⟩:=bt2 BK582)))
    go_ret;exact ⟨by first | rfl | (simp [e0_,e1_] <;> rfl) | (simp only [← hji5];first | rfl | (simp [e0_,e1_] <;> rfl)) | (simp [*,e0_,e1_] <;> rfl),bm HB⟩
  ·rw [if_neg c3] at H;have c3b0:decide (a0_0 ≤ 4) = false:=decide_eq_false c3;clear c3;obtain rfl:=Option.some.inj H;go_enter Try.func87,Try.ntmps87;go_wp2_with (first | ((with_reducible refine gate_dst (N:=1) rfl ?_);refine box_event ?hg (N:=1) ?hd (cs:=#[.int .i64 a0_0,.slice A0_1 l0_1.length c0_1]) (t:=46) ?hr ?_;(case hd=>rfl);(case hg=>rfl);(case hr=>first | (go_simp;done) | (go_simp;rfl));intro gb582 hg w12 hbox hb;refine ev4 (bs HB hb) (hbox) (gle hg HB) (gle hg HB) ?_;clear HB;intro HB BK582 GW582 GE582;clear hb hbox hg;obtain ⟨hcz13_0,hcz13_1,hfz13_0,hfz13_1⟩:=bt2 BK582))
   repeat (go_quiet (first | ((with_reducible refine gate_dst (N:=1) rfl ?_);refine box_event ?hg (N:=1) ?hd (cs:=#[.int .i64 a0_0,.slice A0_1 l0_1.length c0_1]) (t:=46) ?hr ?_;(case hd=>rfl);(case hg=>rfl);(case hr=>first | (go_simp;done) | (go_simp;rfl));intro gb582 hg w12 hbox hb;refine ev4 (bs HB hb) (hbox) (gle hg HB) (gle hg HB) ?_;clear HB;intro HB BK582 GW582 GE582;clear hb hbox hg;obtain ⟨hcz13_0,hcz13_1,hfz13_0,hfz13_1⟩:=bt2 BK582));try go_wp2_with (first | ((with_reducible refine gate_dst (N:=1) rfl ?_);refine box_event ?hg (N:=1) ?hd (cs:=#[.int .i64 a0_0,.slice A0_1 l0_1.length c0_1]) (t:=46) ?hr ?_;(case hd=>rfl);(case hg=>rfl);(case hr=>first | (go_simp;done) | (go_simp;rfl));intro gb582 hg w12 hbox hb;refine ev4 (bs HB hb) (hbox) (gle hg HB) (gle hg HB) ?_;clear HB;intro HB BK582 GW582 GE582;clear hb hbox hg;obtain ⟨hcz13_0,hcz13_1,hfz13_0,hfz13_1⟩:=bt2 BK582)))
   go_ret;exact ⟨by first | rfl | (simp [e0_,e1_] <;> rfl) | (simp [*,e0_,e1_] <;> rfl),bm HB⟩
 ·rw [if_neg c2] at H;have c2b0:decide (0 ≤ a0_0) = false:=decide_eq_false c2;clear c2;obtain rfl:=Option.some.inj H;go_enter Try.func87,Try.ntmps87;go_wp2_with (first | ((with_reducible refine gate_dst (N:=1) rfl ?_);refine box_event ?hg (N:=1) ?hd (cs:=#[.int .i64 a0_0,.slice A0_1 l0_1.length c0_1]) (t:=46) ?hr ?_;(case hd=>rfl);(case hg=>rfl);(case hr=>first | (go_simp;done) | (go_simp;rfl));intro gb582 hg w14 hbox hb;refine ev4 (bs HB hb) (hbox) (gle hg HB) (gle hg HB) ?_;clear HB;intro HB BK582 GW582 GE582;clear hb hbox hg;obtain ⟨hcz15_0,hcz15_1,hfz15_0,hfz15_1⟩:=bt2 BK582))
  repeat (go_quiet (first | ((with_reducible refine gate_dst (N:=1) rfl ?_);refine box_event ?hg (N:=1) ?hd (cs:=#[.int .i64 a0_0,.slice A0_1 l0_1.length c0_1]) (t:=46) ?hr ?_;(case hd=>rfl);(case hg=>rfl);(case hr=>first | (go_simp;done) | (go_simp;rfl));intro gb582 hg w14 hbox hb;refine ev4 (bs HB hb) (hbox) (gle hg HB) (gle hg HB) ?_;clear HB;intro HB BK582 GW582 GE582;clear hb hbox hg;obtain ⟨hcz15_0,hcz15_1,hfz15_0,hfz15_1⟩:=bt2 BK582));try go_wp2_with (first | ((with_reducible refine gate_dst (N:=1) rfl ?_);refine box_event ?hg (N:=1) ?hd (cs:=#[.int .i64 a0_0,.slice A0_1 l0_1.length c0_1]) (t:=46) ?hr ?_;(case hd=>rfl);(case hg=>rfl);(case hr=>first | (go_simp;done) | (go_simp;rfl));intro gb582 hg w14 hbox hb;refine ev4 (bs HB hb) (hbox) (gle hg HB) (gle hg HB) ?_;clear HB;intro HB BK582 GW582 GE582;clear hb hbox hg;obtain ⟨hcz15_0,hcz15_1,hfz15_0,hfz15_1⟩:=bt2 BK582)))
  go_ret;exact ⟨by first | rfl | (simp [e0_,e1_] <;> rfl) | (simp [*,e0_,e1_] <;> rfl),bm HB⟩

/-! ### impl_wrongIndices: function 88 -/
def impl_wrongIndices.l0:Nat→List Int→List Int→Int→Int→Int→List Int→Option (List Int)
  | 0,_,_,_,_,_,_=>none
  | k + 1,x5,x9,x10,x11,x585000,x585001=>if x11 < x10 then (if 0 ≤ x11 then (if x11 < (x9.length:Int) then (if x11 < (x585001.length:Int) then (if (rd x9 x11) = (rd x585001 x11) then (impl_wrongIndices.l0 k x5 x9 x10 (wrap64 (x11 + 1)) x585000 x585001) else (if x5.length < 17592186044416 then (impl_wrongIndices.l0 k (x5 ++ [x11]) x9 x10 (wrap64 (x11 + 1)) x585000 x585001) else (none))) else (none)) else (none)) else (none)) else (some x5)
def impl_wrongIndices.f (k:Nat) (l0:List Int) (a1_0:Int) (l1_1:List Int):Option (List Int):=impl_wrongIndices.l0 k (([]:List Int)) l0 (l0.length:Int) 0 a1_0 l1_1
theorem impl_wrongIndices.calls (k:Nat) (A0:Option Addr) (c0:Nat) (l0:List Int) (a1_0:Int) (A1_1:Option Addr) (c1_1:Nat) (l1_1:List Int) (r:List Int) (w:World) (hr0:Kd.C (Kd.int .i64) w A0 l0.length l0) (hc0:l0.length ≤ c0) (hr1_1:Kd.C (Kd.int .i64) w A1_1 l1_1.length l1_1) (hc1_1:l1_1.length ≤ c1_1) (h:impl_wrongIndices.f k l0 a1_0 l1_1 = some r) :
    Calls Try.prog 88 #[.slice A0 l0.length c0,.agg #[.int .i64 a1_0,.slice A1_1 l1_1.length c1_1]] w fun e w'=>∃ v0_:Value,e = .returned (v0_)∧Kd.R (Kd.int .i64) 3 w' w.heap.size (fun _=>True) v0_ r∧Below w.heap.size w w':=by
 have S:=St.init (w:=w) (dc (Kd.heap_int .i64) (atI .i64) hr0 hc0 (dc (Kd.heap_int .i64) (atI .i64) hr1_1 hc1_1 dn))
 clear hr0 hc0 hr1_1 hc1_1
 have F:=S.fc
 have H:=h;clear h;unfold impl_wrongIndices.f at H
 (first | (with_reducible replace H:=ob_ H;obtain ⟨y585,hy585,H⟩:=H;(try dsimp only at H)) | (obtain ⟨y585,hy585⟩:∃ y_:List Int,y_ = (([]:List Int)):=⟨_,rfl⟩;(try rw [← hy585] at H);(try simp only [Option.bind_some] at H)));have Ny585:=Aside0.mk hy585;clear hy585
 go_enter Try.func88,Try.ntmps88
 go_wp2_with (first | ((with_reducible refine gd 3 rfl (L ?_));refine bo 3 (.agg #[_,_]) S ?_;clear S F;intro gb584 W S;have F:=S.fc) | ((with_reducible refine gd 8 rfl (L ?_));refine lia 8 (atI .i64) 3 S ([]:List Int) (fun _ _=>(Reps.none _ _)) (by first | (go_simp;done) | (go_simp;rfl)) ?_;clear S F;intro Ay585 cy585 W S;(try rw [← Ny585.out] at S ⊢);have F:=S.fc))
 go_loopg [5,11] k (fun kq v5 v11 w'=>∃ (x5_1:List Int) (x11_1:Int) (Ax5_1:Option Addr) (cx5_1:Nat),v11 = .int .i64 x11_1∧v5 = .slice Ax5_1 x5_1.length cx5_1∧impl_wrongIndices.l0 kq x5_1 l0 (l0.length:Int) x11_1 a1_0 l1_1 = some r∧kq ≤ k∧St w w (fun _=>False) [bor (atI .i64) A0 c0 l0,bor (atI .i64) A1_1 c1_1 l1_1] w'  [row (atI .i64) 3 Ax5_1 x5_1.length cx5_1 x5_1,box gb584 46 [.int .i64 a1_0,.slice A1_1 l1_1.length c1_1]])
 case atStart=>exact ⟨y585,0,_,_,(by first | rfl | (simp;done) | (simp [*];done) | (rw [w6_ (by omega) (by omega)])),rfl,H,Nat.le_refl _,S⟩
 case round =>
  clear H S F
  obtain ⟨x5_1,x11_1,Ax5_1,cx5_1,rfl,rfl,HA,HK1,S⟩:=hrel
  have F:=S.fc
  cases gk with
  | zero=>exact absurd HA (by simp [impl_wrongIndices.l0])
  | succ k1 =>
   have H:=HA;clear HA;simp only [impl_wrongIndices.l0,F] at H
   replace H:=sp_ H;rcases H with ⟨c6,H⟩ | ⟨c6,H⟩
   · skip
     replace H:=np_ H;obtain ⟨c7,H⟩:=H
     replace H:=np_ H;obtain ⟨c8,H⟩:=H
     replace H:=np_ H;obtain ⟨c9,H⟩:=H
     replace H:=sp_ H;rcases H with ⟨c10,H⟩ | ⟨c10,H⟩
     · skip
       replace c10:=ceq c10
       go_wp2
       go_roundg k1
       case measure=>omega
       case rel=>exact ⟨x5_1,(wrap64 (x11_1 + 1)),_,_,(by first | rfl | (simp;done) | (simp [*];done) | (rw [w6_ (by omega) (by omega)])),rfl,H,(by first | omega | exact Nat.le_refl _),S⟩
     · skip
       replace c10:=cne c10
       replace H:=np_ H;obtain ⟨c12,H⟩:=H
       (first | (with_reducible replace H:=ob_ H;obtain ⟨y590,hy590,H⟩:=H;(try dsimp only at H)) | (obtain ⟨y590,hy590⟩:∃ y_:List Int,y_ = (x5_1 ++ [x11_1]):=⟨_,rfl⟩;(try rw [← hy590] at H);(try simp only [Option.bind_some] at H)));have Ny590:=Aside0.mk hy590;clear hy590
       go_wp2_with (first | ((with_reducible refine gd 26 rfl (L ?_));refine apa (A:=Ax5_1) 26 S Try.underlying23 info3 ?_ (ho:=rfl) (hs:=rfl) (hx:=rfl);clear S F;intro Ay590 cy590 W S;(try rw [← Ny590.out] at S ⊢);have F:=S.fc))
       go_roundg k1
       case measure=>omega
       case rel=>exact ⟨y590,(wrap64 (x11_1 + 1)),_,_,(by first | rfl | (simp;done) | (simp [*];done) | (rw [w6_ (by omega) (by omega)])),rfl,H,(by first | omega | exact Nat.le_refl _),S⟩
   · skip
     obtain rfl:=Option.some.inj H
     go_wp2
     go_ret
     exact ⟨_,(by first | rfl | (simp [e0_,e1_] <;> rfl) | (simp [*,e0_,e1_] <;> rfl)),(by first | exact S.r | exact Kd.R_nil _ _ _ _ _),S.below⟩

/-! ### impl_WrongByFlips: function 50 -/
def impl_WrongByFlips.j0:Nat→Int→List (List Int)→Int→Bool→Int→Int→List (S88)→Int→List Int→Option (List Int × Bool)
  | 0,_,_,_,_,_,_,_,_,_=>none
  | k + 1,x1,x2,x3,x29,x594000,x594001,x594002,x595000,x595001=>if x29 = true then (some (([]:List Int),false)) else ((impl_flipValues.f k x594000 x594001 x594002 x1 x2 x3).bind fun t597=>((impl_wrongIndices.f k t597 x595000 x595001).bind fun t600=>(some (t600,true))))
def impl_WrongByFlips.f (k:Nat) (a0_0:Int) (a0_1:Int) (l0_2:List (S88)) (a1:Int) (l2:List (List Int)) (a3:Int) (a4_0:Int) (l4_1:List Int):Option (List Int × Bool):=(impl_readByFlips.f k a0_0 a0_1 l0_2 a1 l2 a3).bind fun t595=>(if t595 = true then ((impl_IsTable.f k a4_0 l4_1).bind fun t596=>(if t596 = true then (impl_WrongByFlips.j0 k a1 l2 a3 (a4_0 != (l2.length:Int)) a0_0 a0_1 l0_2 a4_0 l4_1) else (impl_WrongByFlips.j0 k a1 l2 a3 true a0_0 a0_1 l0_2 a4_0 l4_1))) else (impl_WrongByFlips.j0 k a1 l2 a3 true a0_0 a0_1 l0_2 a4_0 l4_1))
theorem impl_WrongByFlips.calls (k:Nat) (a0_0:Int) (a0_1:Int) (A0_2:Option Addr) (c0_2:Nat) (l0_2:List (S88)) (a1:Int) (A2:Option Addr) (c2:Nat) (l2:List (List Int)) (a3:Int) (a4_0:Int) (A4_1:Option Addr) (c4_1:Nat) (l4_1:List Int) (r1:List Int) (r2:Bool) (w:World) (hr0_2:Kd.C k88 w A0_2 l0_2.length l0_2) (hc0_2:l0_2.length ≤ c0_2) (hr2:Kd.C (Kd.slice 3 (Kd.int .i64)) w A2 l2.length l2) (hc2:l2.length ≤ c2) (hr4_1:Kd.C (Kd.int .i64) w A4_1 l4_1.length l4_1) (hc4_1:l4_1.length ≤ c4_1) (h:impl_WrongByFlips.f k a0_0 a0_1 l0_2 a1 l2 a3 a4_0 l4_1 = some (r1,r2)) :
    Calls Try.prog 50 #[.agg #[.int .i64 a0_0,.int .i64 a0_1,.slice A0_2 l0_2.length c0_2],.int .i64 a1,.slice A2 l2.length c2,.int .i64 a3,.agg #[.int .i64 a4_0,.slice A4_1 l4_1.length c4_1]] w fun e w'=>∃ v0_:Value,e = .returned (.tuple #[v0_,.bool r2])∧Kd.R (Kd.int .i64) 3 w' w.heap.size (fun _=>True) v0_ r1∧Below w.heap.size w w':=by
 have S:=St.init (w:=w) (dc k88_heap at88 hr0_2 hc0_2 (dc (Kd.heap_slice 3 (Kd.heap_int .i64)) (atU (d:=Kd.slice 3 (Kd.int .i64))) hr2 hc2 (dc (Kd.heap_int .i64) (atI .i64) hr4_1 hc4_1 dn)))
 clear hr0_2 hc0_2 hr2 hc2 hr4_1 hc4_1
 have F:=S.fc
 have H:=h;clear h;unfold impl_WrongByFlips.f at H
 go_enter Try.func50,Try.ntmps50
 go_upto_region 1 with (first | ((with_reducible refine gd 5 rfl (L ?_));refine bo 5 (.agg #[_,_,_]) S ?_;clear S F;intro gb593 W S;have F:=S.fc) | ((with_reducible refine gd 9 rfl (L ?_));refine bo 9 (.agg #[_,_]) S ?_;clear S F;intro gb594 W S;have F:=S.fc))
 (try simp only [Act.put,List.setIfInBounds_toArray,List.set_cons_zero,List.set_cons_succ])
 go_cut [29] (fun v29 wc=>∃ (kq:Nat) (x29_5:Bool),v29 = .bool x29_5∧impl_WrongByFlips.j0 kq a1 l2 a3 x29_5 a0_0 a0_1 l0_2 a4_0 l4_1 = some (r1,r2)∧kq ≤ k∧St w w (fun _=>False) [bor at88 A0_2 c0_2 l0_2,bor (atU (d:=Kd.slice 3 (Kd.int .i64))) A2 c2 l2,bor (atI .i64) A4_1 c4_1 l4_1] wc  [box gb594 46 [.int .i64 a4_0,.slice A4_1 l4_1.length c4_1],box gb593 50 [.int .i64 a0_0,.int .i64 a0_1,.slice A0_2 l0_2.length c0_2]])
 case first =>
  replace H:=Option.bind_eq_some_iff.mp H;obtain ⟨t595,A9,H⟩:=H;(try dsimp only at H)
  replace H:=sp_ H;rcases H with ⟨c10,H⟩ | ⟨c10,H⟩
  · skip
    subst c10
    replace H:=Option.bind_eq_some_iff.mp H;obtain ⟨t596,A11,H⟩:=H;(try dsimp only at H)
    replace H:=sp_ H;rcases H with ⟨c12,H⟩ | ⟨c12,H⟩
    · skip
      subst c12
      go_wp2_with (first | ((with_reducible refine gate_callee (f:=79) rfl (L ?_));refine cl (some 16) Try.func79 (impl_readByFlips.calls _ _ _ _ _ _ _ _ _ _ _ _ _ S.c S.n S.c S.n A9) (hargs:=by (simp only [ma_,mb_,mc_,F] <;> rfl)) (h:=?_);rintro e W ⟨rfl,hb⟩;refine ⟨_,rfl,?_⟩;replace S:=S.go hb;clear F hb;have F:=S.fc) | (go_at_call 87;(try simp only [F]);refine (impl_IsTable.calls _ _ _ _ _ _ _ S.c S.n A11).mono ?_;rintro e W ⟨rfl,hb⟩;replace S:=S.go hb;clear F hb;have F:=S.fc))
      go_meet
      case rel=>exact ⟨_,(a4_0 != (l2.length:Int)),(by first | rfl | (simp;done) | (simp [*];done) | (rw [w6_ (by omega) (by omega)])),H,(by first | omega | exact Nat.le_refl _),S⟩
    · skip
      replace c12:=cbf c12;subst c12
      go_wp2_with (first | ((with_reducible refine gate_callee (f:=79) rfl (L ?_));refine cl (some 16) Try.func79 (impl_readByFlips.calls _ _ _ _ _ _ _ _ _ _ _ _ _ S.c S.n S.c S.n A9) (hargs:=by (simp only [ma_,mb_,mc_,F] <;> rfl)) (h:=?_);rintro e W ⟨rfl,hb⟩;refine ⟨_,rfl,?_⟩;replace S:=S.go hb;clear F hb;have F:=S.fc) | (go_at_call 87;(try simp only [F]);refine (impl_IsTable.calls _ _ _ _ _ _ _ S.c S.n A11).mono ?_;rintro e W ⟨rfl,hb⟩;replace S:=S.go hb;clear F hb;have F:=S.fc))
      go_meet
      case rel=>exact ⟨_,true,(by first | rfl | (simp;done) | (simp [*];done) | (rw [w6_ (by omega) (by omega)])),H,(by first | omega | exact Nat.le_refl _),S⟩
  · skip
    replace c10:=cbf c10;subst c10
    go_wp2_with (first | ((with_reducible refine gate_callee (f:=79) rfl (L ?_));refine cl (some 16) Try.func79 (impl_readByFlips.calls _ _ _ _ _ _ _ _ _ _ _ _ _ S.c S.n S.c S.n A9) (hargs:=by (simp only [ma_,mb_,mc_,F] <;> rfl)) (h:=?_);rintro e W ⟨rfl,hb⟩;refine ⟨_,rfl,?_⟩;replace S:=S.go hb;clear F hb;have F:=S.fc))
    go_meet
    case rel=>exact ⟨_,true,(by first | rfl | (simp;done) | (simp [*];done) | (rw [w6_ (by omega) (by omega)])),H,(by first | omega | exact Nat.le_refl _),S⟩
 case rest =>
  clear H S F
  obtain ⟨kq,x29_5,rfl,HA,HJ5,S⟩:=hcut
  have F:=S.fc
  cases kq with
  | zero=>exact absurd HA (by simp [impl_WrongByFlips.j0])
  | succ kj5 =>
   have H:=HA;clear HA;simp only [impl_WrongByFlips.j0,F] at H
   replace H:=sp_ H;rcases H with ⟨c27,H⟩ | ⟨c27,H⟩
   · skip
     subst c27
     simp only [Option.some.injEq,Prod.mk.injEq] at H
     obtain ⟨rfl,rfl⟩:=H
     go_wp2
     go_ret2
     exact ⟨_,(by first | rfl | (simp [e0_,e1_] <;> rfl) | (simp [*,e0_,e1_] <;> rfl)),(by first | exact S.r | exact Kd.R_nil _ _ _ _ _),S.below⟩
   · skip
     replace c27:=cbf c27;subst c27
     replace H:=Option.bind_eq_some_iff.mp H;obtain ⟨t597,A28,H⟩:=H;(try dsimp only at H)
     replace H:=Option.bind_eq_some_iff.mp H;obtain ⟨t600,A29,H⟩:=H;(try dsimp only at H)
     simp only [Option.some.injEq,Prod.mk.injEq] at H
     obtain ⟨rfl,rfl⟩:=H
     try go_wp2
     refine rq S [(0,1),(0,2),(0,3),(1,0),(1,5),(2,4),(2,6),(0,7),(0,8)] [] (h:=?_);clear S F;intro W S;have S0:=S;have F:=S.fc
     repeat (first | (refine q0 (h:=?_)) | (refine q1 S0 (h:=?_)) | (refine q0n (h:=?_)) | (refine q1n S0 (h:=?_)))
     refine lk2 (by rfl) (by exact (Eq.refl true)) ?_;refine cl (some 34) Try.func80 (impl_flipValues.calls _ _ _ _ _ _ _ _ _ _ _ _ _ S.c S.n S.c S.n A28) (hargs:=by (simp only [ma_,mb_,mc_,F] <;> rfl)) (h:=?_);rintro e W ⟨v598,rfl,ho0,hb⟩;refine ⟨_,rfl,?_⟩;replace S:=S.got (atI .i64) hb ho0;obtain ⟨At597,ct597,rfl,S⟩:=S;clear F hb ho0;have F:=S.fc
     clear S0;have S0:=S.tl;refine ⟨S0,?_⟩
     refine lk2 (by rfl) (by exact (Eq.refl true)) ?_;refine cl (some 36) Try.func88 (impl_wrongIndices.calls _ _ _ _ _ _ _ _ _ _ S.c S.n S.c S.n A29) (hargs:=by (simp only [ma_,mb_,mc_,F] <;> rfl)) (h:=?_);rintro e W ⟨v601,rfl,ho0,hb⟩;refine ⟨_,rfl,?_⟩;replace S:=S.got (atI .i64) hb ho0;obtain ⟨At600,ct600,rfl,S⟩:=S;clear F hb ho0;have F:=S.fc
     clear S0;have S0:=S.tl.tl;refine ⟨S0,?_⟩
     repeat (first | (refine q0 (h:=?_)) | (refine q1 S0 (h:=?_)) | (refine q0n (h:=?_)) | (refine q1n S0 (h:=?_)))
     refine oz ?_
     try clear S0
     try go_wp2
     go_ret2
     exact ⟨_,(by first | rfl | (simp [e0_,e1_] <;> rfl) | (simp [*,e0_,e1_] <;> rfl)),(by first | exact S.r | exact Kd.R_nil _ _ _ _ _),S.below⟩

/-! ### laws_FnExactWrongByFlips: function 10 -/
mutual
def laws_FnExactWrongByFlips.j0:Nat→Int→List (List Int)→Int→List Int→Bool→List (List Int)→List Int→Bool→Bool→Int→Int→List (S106)→Int→List Int→Int→Int→List (S88)→Int→List Int→Option (Bool)
  | 0,_,_,_,_,_,_,_,_,_,_,_,_,_,_,_,_,_,_,_=>none
  | k + 1,x1,x2,x3,x12,x13,x15,x17,x18,x74,x604000,x604001,x604002,x605000,x605001,x630000,x630001,x630002,x638000,x638001=>if x74 = true then (some false) else ((laws_toBoard.f k x604000 x604001 x604002).bind fun bt643=>((laws_eqBoard.f k x630000 x630001 x630002 bt643.1 bt643.2.1 bt643.2.2).bind fun t648=>(if t648 = true then ((laws_toIntSS.f k x2).bind fun t649=>((laws_eqIntSS.f k x15 t649).bind fun t652=>(if t652 = true then ((laws_toTable.f k x605000 x605001).bind fun bt653=>((laws_eqTable.f k x638000 x638001 bt653.1 bt653.2).bind fun t657=>(if t657 = true then ((laws_markBoard.f k x630000 x630001 x630002 1).bind fun bt658=>((laws_markIntSS.f k x15 bt658.1).bind fun t660=>((laws_markTable.f k x638000 x638001 t660).bind fun bt661=>(if bt661.1 < 0 then (laws_FnExactWrongByFlips.j1 k x1 x2 x3 x12 x13 x17 true x604000 x604001 x604002 x605000 x605001) else ((laws_eqIntS.f k x17 x12).bind fun t663=>(if t663 = true then (laws_FnExactWrongByFlips.j1 k x1 x2 x3 x12 x13 x17 (x18 != x13) x604000 x604001 x604002 x605000 x605001) else (laws_FnExactWrongByFlips.j1 k x1 x2 x3 x12 x13 x17 true x604000 x604001 x604002 x605000 x605001))))))) else (some false)))) else (some false)))) else (some false))))
def laws_FnExactWrongByFlips.j1:Nat→Int→List (List Int)→Int→List Int→Bool→List Int→Bool→Int→Int→List (S106)→Int→List Int→Option (Bool)
  | 0,_,_,_,_,_,_,_,_,_,_,_,_=>none
  | k + 1,x1,x2,x3,x12,x13,x17,x111,x604000,x604001,x604002,x605000,x605001=>if x111 = true then (some false) else ((laws_markIntS.f k x17 1).bind fun bt664=>((laws_heldIntS.f k bt664.2 1).bind fun t666=>(if t666 < 0 then (some false) else (if t666 = bt664.1 then ((laws_toBoard.f k x604000 x604001 x604002).bind fun bt667=>((laws_toIntSS.f k x2).bind fun t672=>((laws_toTable.f k x605000 x605001).bind fun bt675=>((impl_WrongByFlips.f k bt667.1 bt667.2.1 bt667.2.2 x1 t672 x3 bt675.1 bt675.2).bind fun bt679=>((laws_eqIntS.f k bt679.1 x12).bind fun t683=>(if t683 = true then (laws_FnExactWrongByFlips.j2 k bt664.2 bt664.1 (bt679.2 != x13)) else (laws_FnExactWrongByFlips.j2 k bt664.2 bt664.1 true))))))) else (some false)))))
def laws_FnExactWrongByFlips.j2:Nat→List Int→Int→Bool→Option (Bool)
  | 0,_,_,_=>none
  | k + 1,x17,x20,x143=>if x143 = true then (some false) else ((laws_heldIntS.f k x17 1).bind fun t684=>(if t684 < 0 then (some false) else (if t684 = x20 then (some true) else (some false))))
end
def laws_FnExactWrongByFlips.f (k:Nat) (a0_0:Int) (a0_1:Int) (l0_2:List (S106)) (a1:Int) (l2:List (List Int)) (a3:Int) (a4_0:Int) (l4_1:List Int):Option (Bool):=(laws_szBoard.f a0_0 a0_1 l0_2 1048576).bind fun t605=>(if t605 < 0 then (some true) else ((laws_szIntSS.f k l2 t605).bind fun t606=>(if t606 < 0 then (some true) else ((laws_szTable.f a4_0 l4_1 t606).bind fun t607=>(if t607 < 0 then (some true) else ((laws_toBoard.f k a0_0 a0_1 l0_2).bind fun bt608=>((laws_toIntSS.f k l2).bind fun t613=>((laws_toTable.f k a4_0 l4_1).bind fun bt616=>((spec_WrongByFlips.f k bt608.1 bt608.2.1 bt608.2.2 a1 t613 a3 bt616.1 bt616.2).bind fun bt620=>((laws_toBoard.f k a0_0 a0_1 l0_2).bind fun bt624=>((laws_toIntSS.f k l2).bind fun t630=>((laws_toTable.f k a4_0 l4_1).bind fun bt633=>((impl_WrongByFlips.f k bt624.1 bt624.2.1 bt624.2.2 a1 t630 a3 bt633.1 bt633.2).bind fun bt638=>((laws_eqIntS.f k bt638.1 bt620.1).bind fun t642=>(if t642 = true then (laws_FnExactWrongByFlips.j0 k a1 l2 a3 bt620.1 bt620.2 t630 bt638.1 bt638.2 (bt638.2 != bt620.2) a0_0 a0_1 l0_2 a4_0 l4_1 bt624.1 bt624.2.1 bt624.2.2 bt633.1 bt633.2) else (laws_FnExactWrongByFlips.j0 k a1 l2 a3 bt620.1 bt620.2 t630 bt638.1 bt638.2 true a0_0 a0_1 l0_2 a4_0 l4_1 bt624.1 bt624.2.1 bt624.2.2 bt633.1 bt633.2))))))))))))))))
theorem laws_FnExactWrongByFlips.calls (k:Nat) (a0_0:Int) (a0_1:Int) (A0_2:Option Addr) (c0_2:Nat) (l0_2:List (S106)) (a1:Int) (A2:Option Addr) (c2:Nat) (l2:List (List Int)) (a3:Int) (a4_0:Int) (A4_1:Option Addr) (c4_1:Nat) (l4_1:List Int) (r:Bool) (w:World) (hr0_2:Kd.C k106 w A0_2 l0_2.length l0_2) (hc0_2:l0_2.length ≤ c0_2) (hr2:Kd.C (Kd.slice 3 (Kd.int .i64)) w A2 l2.length l2) (hc2:l2.length ≤ c2) (hr4_1:Kd.C (Kd.int .i64) w A4_1 l4_1.length l4_1) (hc4_1:l4_1.length ≤ c4_1) (hrt:r = true) (h:laws_FnExactWrongByFlips.f k a0_0 a0_1 l0_2 a1 l2 a3 a4_0 l4_1 = some r) :
    Calls Try.prog 10 #[.agg #[.int .i64 a0_0,.int .i64 a0_1,.slice A0_2 l0_2.length c0_2],.int .i64 a1,.slice A2 l2.length c2,.int .i64 a3,.agg #[.int .i64 a4_0,.slice A4_1 l4_1.length c4_1]] w fun e w'=>e = .returned (.bool r)∧Below w.heap.size w w':=by
 have S:=St.init (w:=w) (dc k106_heap at106 hr0_2 hc0_2 (dc (Kd.heap_slice 3 (Kd.heap_int .i64)) (atU (d:=Kd.slice 3 (Kd.int .i64))) hr2 hc2 (dc (Kd.heap_int .i64) (atI .i64) hr4_1 hc4_1 dn)))
 have HRT:=Aside0.mk hrt;clear hrt
 clear hr0_2 hc0_2 hr2 hc2 hr4_1 hc4_1
 have F:=S.fc
 have H:=h;clear h;unfold laws_FnExactWrongByFlips.f at H
 replace H:=Option.bind_eq_some_iff.mp H;obtain ⟨t605,A6,H⟩:=H;(try dsimp only at H)
 replace H:=sp_ H;rcases H with ⟨c7,H⟩ | ⟨c7,H⟩
 · skip
   obtain rfl:=Option.some.inj H
   go_enter Try.func10,Try.ntmps10
   go_wp2_with (first | ((with_reducible refine gd 5 rfl (L ?_));refine bo 5 (.agg #[_,_,_]) S ?_;clear S F;intro gb603 W S;have F:=S.fc) | ((with_reducible refine gd 9 rfl (L ?_));refine bo 9 (.agg #[_,_]) S ?_;clear S F;intro gb604 W S;have F:=S.fc) | ((with_reducible refine gate_callee (f:=29) rfl (L ?_));refine cl (some 26) Try.func29 (laws_szBoard.calls _ _ _ _ _ _ _ _ S.c S.n A6) (hargs:=by (simp only [ma_,mb_,mc_,F] <;> rfl)) (h:=?_);rintro e W ⟨rfl,hb⟩;refine ⟨_,rfl,?_⟩;replace S:=S.go hb;clear F hb;have F:=S.fc) | ((with_reducible refine gs (t:=46) rfl (L ?_));(first | refine sb (.agg #[_,_]) S sz46 ?_ | refine ro (.agg #[_,_]) S sz46 ?_ (ho:=rfl) (hx:=rfl) (hy:=rfl));(clear S F;intro W S;have F:=S.fc)) | ((with_reducible refine gs (t:=50) rfl (L ?_));(first | refine sb (.agg #[_,_,_]) S sz50 ?_ | refine ro (.agg #[_,_,_]) S sz50 ?_ (ho:=rfl) (hx:=rfl) (hy:=rfl));(clear S F;intro W S;have F:=S.fc)))
   go_ret
   exact ⟨(by first | rfl | (simp [e0_,e1_] <;> rfl) | (simp [*,e0_,e1_] <;> rfl)),S.below⟩
 · skip
   replace H:=Option.bind_eq_some_iff.mp H;obtain ⟨t606,A13,H⟩:=H;(try dsimp only at H)
   replace H:=sp_ H;rcases H with ⟨c14,H⟩ | ⟨c14,H⟩
   · skip
     obtain rfl:=Option.some.inj H
     go_enter Try.func10,Try.ntmps10
     go_wp2_with (first | ((with_reducible refine gd 5 rfl (L ?_));refine bo 5 (.agg #[_,_,_]) S ?_;clear S F;intro gb603 W S;have F:=S.fc) | ((with_reducible refine gd 9 rfl (L ?_));refine bo 9 (.agg #[_,_]) S ?_;clear S F;intro gb604 W S;have F:=S.fc) | ((with_reducible refine gate_callee (f:=29) rfl (L ?_));refine cl (some 26) Try.func29 (laws_szBoard.calls _ _ _ _ _ _ _ _ S.c S.n A6) (hargs:=by (simp only [ma_,mb_,mc_,F] <;> rfl)) (h:=?_);rintro e W ⟨rfl,hb⟩;refine ⟨_,rfl,?_⟩;replace S:=S.go hb;clear F hb;have F:=S.fc) | ((with_reducible refine gate_callee (f:=30) rfl (L ?_));refine cl (some 31) Try.func30 (laws_szIntSS.calls _ _ _ _ _ _ _ S.c S.n A13) (hargs:=by (simp only [ma_,mb_,mc_,F] <;> rfl)) (h:=?_);rintro e W ⟨rfl,hb⟩;refine ⟨_,rfl,?_⟩;replace S:=S.gw hb;clear F hb;have F:=S.fc) | ((with_reducible refine gs (t:=46) rfl (L ?_));(first | refine sb (.agg #[_,_]) S sz46 ?_ | refine ro (.agg #[_,_]) S sz46 ?_ (ho:=rfl) (hx:=rfl) (hy:=rfl));(clear S F;intro W S;have F:=S.fc)) | ((with_reducible refine gs (t:=50) rfl (L ?_));(first | refine sb (.agg #[_,_,_]) S sz50 ?_ | refine ro (.agg #[_,_,_]) S sz50 ?_ (ho:=rfl) (hx:=rfl) (hy:=rfl));(clear S F;intro W S;have F:=S.fc)))
     go_ret
     exact ⟨(by first | rfl | (simp [e0_,e1_] <;> rfl) | (simp [*,e0_,e1_] <;> rfl)),S.below⟩
   · skip
     replace H:=Option.bind_eq_some_iff.mp H;obtain ⟨t607,A20,H⟩:=H;(try dsimp only at H)
     replace H:=sp_ H;rcases H with ⟨c21,H⟩ | ⟨c21,H⟩
     · skip
       obtain rfl:=Option.some.inj H
       go_enter Try.func10,Try.ntmps10
       go_wp2_with (first | ((with_reducible refine gd 5 rfl (L ?_));refine bo 5 (.agg #[_,_,_]) S ?_;clear S F;intro gb603 W S;have F:=S.fc) | ((with_reducible refine gd 9 rfl (L ?_));refine bo 9 (.agg #[_,_]) S ?_;clear S F;intro gb604 W S;have F:=S.fc) | ((with_reducible refine gate_callee (f:=29) rfl (L ?_));refine cl (some 26) Try.func29 (laws_szBoard.calls _ _ _ _ _ _ _ _ S.c S.n A6) (hargs:=by (simp only [ma_,mb_,mc_,F] <;> rfl)) (h:=?_);rintro e W ⟨rfl,hb⟩;refine ⟨_,rfl,?_⟩;replace S:=S.go hb;clear F hb;have F:=S.fc) | ((with_reducible refine gate_callee (f:=30) rfl (L ?_));refine cl (some 31) Try.func30 (laws_szIntSS.calls _ _ _ _ _ _ _ S.c S.n A13) (hargs:=by (simp only [ma_,mb_,mc_,F] <;> rfl)) (h:=?_);rintro e W ⟨rfl,hb⟩;refine ⟨_,rfl,?_⟩;replace S:=S.gw hb;clear F hb;have F:=S.fc) | ((with_reducible refine gate_callee (f:=47) rfl (L ?_));refine cl (some 36) Try.func47 (laws_szTable.calls _ _ _ _ _ _ _ S.c S.n A20) (hargs:=by (simp only [ma_,mb_,mc_,F] <;> rfl)) (h:=?_);rintro e W ⟨rfl,hb⟩;refine ⟨_,rfl,?_⟩;replace S:=S.go hb;clear F hb;have F:=S.fc) | ((with_reducible refine gs (t:=46) rfl (L ?_));(first | refine sb (.agg #[_,_]) S sz46 ?_ | refine ro (.agg #[_,_]) S sz46 ?_ (ho:=rfl) (hx:=rfl) (hy:=rfl));(clear S F;intro W S;have F:=S.fc)) | ((with_reducible refine gs (t:=50) rfl (L ?_));(first | refine sb (.agg #[_,_,_]) S sz50 ?_ | refine ro (.agg #[_,_,_]) S sz50 ?_ (ho:=rfl) (hx:=rfl) (hy:=rfl));(clear S F;intro W S;have F:=S.fc)))
       go_ret
       exact ⟨(by first | rfl | (simp [e0_,e1_] <;> rfl) | (simp [*,e0_,e1_] <;> rfl)),S.below⟩
     · skip
       replace H:=Option.bind_eq_some_iff.mp H;obtain ⟨⟨t608,t609,t610⟩,A29,H⟩:=H;(try dsimp only at H)
       replace H:=Option.bind_eq_some_iff.mp H;obtain ⟨t613,A30,H⟩:=H;(try dsimp only at H)
       replace H:=Option.bind_eq_some_iff.mp H;obtain ⟨⟨t616,t617⟩,A31,H⟩:=H;(try dsimp only at H)
       replace H:=Option.bind_eq_some_iff.mp H;obtain ⟨⟨t620,t623⟩,A32,H⟩:=H;(try dsimp only at H)
       replace H:=Option.bind_eq_some_iff.mp H;obtain ⟨⟨t624,t625,t626⟩,A33,H⟩:=H;(try dsimp only at H)
       replace H:=Option.bind_eq_some_iff.mp H;obtain ⟨t630,A34,H⟩:=H;(try dsimp only at H)
       replace H:=Option.bind_eq_some_iff.mp H;obtain ⟨⟨t633,t634⟩,A35,H⟩:=H;(try dsimp only at H)
       replace H:=Option.bind_eq_some_iff.mp H;obtain ⟨⟨t638,t641⟩,A36,H⟩:=H;(try dsimp only at H)
       go_enter Try.func10,Try.ntmps10
       go_wp2_with (first | ((with_reducible refine gd 5 rfl (L ?_));refine bo 5 (.agg #[_,_,_]) S ?_;clear S F;intro gb603 W S;have F:=S.fc) | ((with_reducible refine gd 9 rfl (L ?_));refine bo 9 (.agg #[_,_]) S ?_;clear S F;intro gb604 W S;have F:=S.fc) | ((with_reducible refine gate_callee (f:=29) rfl (L ?_));refine cl (some 26) Try.func29 (laws_szBoard.calls _ _ _ _ _ _ _ _ S.c S.n A6) (hargs:=by (simp only [ma_,mb_,mc_,F] <;> rfl)) (h:=?_);rintro e W ⟨rfl,hb⟩;refine ⟨_,rfl,?_⟩;replace S:=S.go hb;clear F hb;have F:=S.fc) | ((with_reducible refine gate_callee (f:=30) rfl (L ?_));refine cl (some 31) Try.func30 (laws_szIntSS.calls _ _ _ _ _ _ _ S.c S.n A13) (hargs:=by (simp only [ma_,mb_,mc_,F] <;> rfl)) (h:=?_);rintro e W ⟨rfl,hb⟩;refine ⟨_,rfl,?_⟩;replace S:=S.gw hb;clear F hb;have F:=S.fc) | ((with_reducible refine gate_callee (f:=47) rfl (L ?_));refine cl (some 36) Try.func47 (laws_szTable.calls _ _ _ _ _ _ _ S.c S.n A20) (hargs:=by (simp only [ma_,mb_,mc_,F] <;> rfl)) (h:=?_);rintro e W ⟨rfl,hb⟩;refine ⟨_,rfl,?_⟩;replace S:=S.go hb;clear F hb;have F:=S.fc) | ((with_reducible refine gs (t:=46) rfl (L ?_));(first | refine sb (.agg #[_,_]) S sz46 ?_ | refine ro (.agg #[_,_]) S sz46 ?_ (ho:=rfl) (hx:=rfl) (hy:=rfl));(clear S F;intro W S;have F:=S.fc)) | ((with_reducible refine gs (t:=50) rfl (L ?_));(first | refine sb (.agg #[_,_,_]) S sz50 ?_ | refine ro (.agg #[_,_,_]) S sz50 ?_ (ho:=rfl) (hx:=rfl) (hy:=rfl));(clear S F;intro W S;have F:=S.fc)))
       refine rq S [(0,2),(0,3),(0,5),(1,0),(1,6),(2,1),(2,4),(2,7),(2,8),(0,9),(0,10),(0,11),(0,12),(0,13)] [] (h:=?_);clear S F;intro W S;have S0:=S;have F:=S.fc
       repeat (first | (refine q0 (h:=?_)) | (refine q1 S0 (h:=?_)) | (refine q0n (h:=?_)) | (refine q1n S0 (h:=?_)))
       refine lk2 (by rfl) (by exact (Eq.refl true)) ?_;refine cl (some 41) Try.func32 (laws_toBoard.calls _ _ _ _ _ _ _ _ _ _ S.c S.n A29) (hargs:=by (simp only [ma_,mb_,mc_,F] <;> rfl)) (h:=?_);rintro e W ⟨v611,rfl,ho0,hb⟩;refine ⟨_,rfl,?_⟩;replace S:=S.got at88 hb ho0;obtain ⟨At610,ct610,rfl,S⟩:=S;clear F hb ho0;have F:=S.fc
       clear S0;have S0:=S.tl;refine ⟨S0,?_⟩
       refine lk2 (by rfl) (by exact (Eq.refl true)) ?_;refine cl (some 44) Try.func33 (laws_toIntSS.calls _ _ _ _ _ _ S.c S.n A30) (hargs:=by (simp only [ma_,mb_,mc_,F] <;> rfl)) (h:=?_);rintro e W ⟨v614,rfl,ho0,hb⟩;refine ⟨_,rfl,?_⟩;replace S:=S.gotS hb ho0;obtain ⟨At613,ct613,rfl,S⟩:=S;clear F hb ho0;have F:=S.fc
       clear S0;have S0:=S.tl.tl;refine ⟨S0,?_⟩
       refine lk2 (by rfl) (by exact (Eq.refl true)) ?_;refine cl (some 47) Try.func49 (laws_toTable.calls _ _ _ _ _ _ _ _ S.c S.n A31) (hargs:=by (simp only [ma_,mb_,mc_,F] <;> rfl)) (h:=?_);rintro e W ⟨v618,rfl,ho0,hb⟩;refine ⟨_,rfl,?_⟩;replace S:=S.got (atI .i64) hb ho0;obtain ⟨At617,ct617,rfl,S⟩:=S;clear F hb ho0;have F:=S.fc
       clear S0;have S0:=S.tl.tl.tl;refine ⟨S0,?_⟩
       refine lk2 (by rfl) (by exact (Eq.refl true)) ?_;refine cl (some 48) Try.func48 (spec_WrongByFlips.calls _ _ _ _ _ _ _ _ _ _ _ _ _ _ _ _ _ _ S.c S.n S.c S.n S.c S.n A32) (hargs:=by (simp only [ma_,mb_,mc_,F] <;> rfl)) (h:=?_);rintro e W ⟨v621,rfl,ho0,hb⟩;refine ⟨_,rfl,?_⟩;replace S:=S.got (atI .i64) hb ho0;obtain ⟨At620,ct620,rfl,S⟩:=S;clear F hb ho0;have F:=S.fc
       clear S0;have S0:=S.tl.tl.tl.tl;refine ⟨S0,?_⟩
       repeat (first | (refine q0 (h:=?_)) | (refine q1 S0 (h:=?_)) | (refine q0n (h:=?_)) | (refine q1n S0 (h:=?_)))
       refine oz ?_
       try clear S0
       go_upto_region 16 with (first | ((with_reducible refine gate_callee (f:=32) rfl (L ?_));refine cl (some 52) Try.func32 (laws_toBoard.calls _ _ _ _ _ _ _ _ _ _ S.c S.n A33) (hargs:=by (simp only [ma_,mb_,mc_,F] <;> rfl)) (h:=?_);rintro e W ⟨v627,rfl,ho0,hb⟩;refine ⟨_,rfl,?_⟩;replace S:=S.got at88 hb ho0;obtain ⟨At626,ct626,rfl,S⟩:=S;clear F hb ho0;have F:=S.fc) | ((with_reducible refine gd 14 rfl (L ?_));refine al 14 S zi50 ?_;clear S F;intro gb629 W S;have F:=S.fc) | ((with_reducible refine gate_callee (f:=33) rfl (L ?_));refine cl (some 54) Try.func33 (laws_toIntSS.calls _ _ _ _ _ _ S.c S.n A34) (hargs:=by (simp only [ma_,mb_,mc_,F] <;> rfl)) (h:=?_);rintro e W ⟨v631,rfl,ho0,hb⟩;refine ⟨_,rfl,?_⟩;replace S:=S.gotS hb ho0;obtain ⟨At630,ct630,rfl,S⟩:=S;clear F hb ho0;have F:=S.fc) | ((with_reducible refine gate_callee (f:=49) rfl (L ?_));refine cl (some 56) Try.func49 (laws_toTable.calls _ _ _ _ _ _ _ _ S.c S.n A35) (hargs:=by (simp only [ma_,mb_,mc_,F] <;> rfl)) (h:=?_);rintro e W ⟨v635,rfl,ho0,hb⟩;refine ⟨_,rfl,?_⟩;replace S:=S.got (atI .i64) hb ho0;obtain ⟨At634,ct634,rfl,S⟩:=S;clear F hb ho0;have F:=S.fc) | ((with_reducible refine gd 16 rfl (L ?_));refine al 16 S zi46 ?_;clear S F;intro gb637 W S;have F:=S.fc) | ((with_reducible refine gate_callee (f:=50) rfl (L ?_));refine cl (some 63) Try.func50 (impl_WrongByFlips.calls _ _ _ _ _ _ _ _ _ _ _ _ _ _ _ _ _ _ S.c S.n S.c S.n S.c S.n A36) (hargs:=by (simp only [ma_,mb_,mc_,F] <;> rfl)) (h:=?_);rintro e W ⟨v639,rfl,ho0,hb⟩;refine ⟨_,rfl,?_⟩;replace S:=S.got (atI .i64) hb ho0;obtain ⟨At638,ct638,rfl,S⟩:=S;clear F hb ho0;have F:=S.fc) | ((with_reducible refine gs (t:=46) rfl (L ?_));(first | refine sb (.agg #[_,_]) S sz46 ?_ | refine ro (.agg #[_,_]) S sz46 ?_ (ho:=rfl) (hx:=rfl) (hy:=rfl));(clear S F;intro W S;have F:=S.fc)) | ((with_reducible refine gs (t:=50) rfl (L ?_));(first | refine sb (.agg #[_,_,_]) S sz50 ?_ | refine ro (.agg #[_,_,_]) S sz50 ?_ (ho:=rfl) (hx:=rfl) (hy:=rfl));(clear S F;intro W S;have F:=S.fc)))
       (try simp only [Act.put,List.setIfInBounds_toArray,List.set_cons_zero,List.set_cons_succ])
       go_cut [74] (fun v74 wc=>∃ (kq:Nat) (x74_36:Bool),v74 = .bool x74_36∧laws_FnExactWrongByFlips.j0 kq a1 l2 a3 t620 t623 t630 t638 t641 x74_36 a0_0 a0_1 l0_2 a4_0 l4_1 t624 t625 t626 t633 t634 = some r∧kq ≤ k∧St w w (fun _=>False) [bor at106 A0_2 c0_2 l0_2,bor (atU (d:=Kd.slice 3 (Kd.int .i64))) A2 c2 l2,bor (atI .i64) A4_1 c4_1 l4_1] wc  [row (atI .i64) 3 At638 t638.length ct638 t638,box gb637 46 [.int .i64 t633,.slice At634 t634.length ct634],row (atI .i64) 3 At634 t634.length ct634 t634,srow (Kd.slice 3 (Kd.int .i64)) 23 At630 t630.length ct630 t630,box gb629 50 [.int .i64 t624,.int .i64 t625,.slice At626 t626.length ct626],row at88 88 At626 t626.length ct626 t626,row (atI .i64) 3 At620 t620.length ct620 t620,box gb604 63 [.int .i64 a4_0,.slice A4_1 l4_1.length c4_1],box gb603 41 [.int .i64 a0_0,.int .i64 a0_1,.slice A0_2 l0_2.length c0_2]])
       case first =>
        replace H:=Option.bind_eq_some_iff.mp H;obtain ⟨t642,A72,H⟩:=H;(try dsimp only at H)
        replace H:=sp_ H;rcases H with ⟨c73,H⟩ | ⟨c73,H⟩
        · skip
          subst c73
          go_wp2_with (first | ((with_reducible refine gate_callee (f:=21) rfl (L ?_));refine cl (some 68) Try.func21 (laws_eqIntS.calls _ _ _ _ _ _ _ _ _ S.c S.n S.c S.n A72) (hargs:=by (simp only [ma_,mb_,mc_,F] <;> rfl)) (h:=?_);rintro e W ⟨rfl,hb⟩;refine ⟨_,rfl,?_⟩;replace S:=S.gw hb;clear F hb;have F:=S.fc) | ((with_reducible refine gs (t:=46) rfl (L ?_));(first | refine sb (.agg #[_,_]) S sz46 ?_ | refine ro (.agg #[_,_]) S sz46 ?_ (ho:=rfl) (hx:=rfl) (hy:=rfl));(clear S F;intro W S;have F:=S.fc)) | ((with_reducible refine gs (t:=50) rfl (L ?_));(first | refine sb (.agg #[_,_,_]) S sz50 ?_ | refine ro (.agg #[_,_,_]) S sz50 ?_ (ho:=rfl) (hx:=rfl) (hy:=rfl));(clear S F;intro W S;have F:=S.fc)))
          go_meet
          case rel=>exact ⟨_,(t641 != t623),(by first | rfl | (simp;done) | (simp [*];done) | (rw [w6_ (by omega) (by omega)])),H,(by first | omega | exact Nat.le_refl _),(S.ms [1,1,1,1,1,1,1,0,0,0])⟩
        · skip
          replace c73:=cbf c73;subst c73
          go_wp2_with (first | ((with_reducible refine gate_callee (f:=21) rfl (L ?_));refine cl (some 68) Try.func21 (laws_eqIntS.calls _ _ _ _ _ _ _ _ _ S.c S.n S.c S.n A72) (hargs:=by (simp only [ma_,mb_,mc_,F] <;> rfl)) (h:=?_);rintro e W ⟨rfl,hb⟩;refine ⟨_,rfl,?_⟩;replace S:=S.gw hb;clear F hb;have F:=S.fc) | ((with_reducible refine gs (t:=46) rfl (L ?_));(first | refine sb (.agg #[_,_]) S sz46 ?_ | refine ro (.agg #[_,_]) S sz46 ?_ (ho:=rfl) (hx:=rfl) (hy:=rfl));(clear S F;intro W S;have F:=S.fc)) | ((with_reducible refine gs (t:=50) rfl (L ?_));(first | refine sb (.agg #[_,_,_]) S sz50 ?_ | refine ro (.agg #[_,_,_]) S sz50 ?_ (ho:=rfl) (hx:=rfl) (hy:=rfl));(clear S F;intro W S;have F:=S.fc)))
          go_meet
          case rel=>exact ⟨_,true,(by first | rfl | (simp;done) | (simp [*];done) | (rw [w6_ (by omega) (by omega)])),H,(by first | omega | exact Nat.le_refl _),(S.ms [1,1,1,1,1,1,1,0,0,0])⟩
       case rest =>
        clear H S F
        obtain ⟨kq,x74_36,rfl,HA,HJ36,S⟩:=hcut
        have F:=S.fc
        cases kq with
        | zero=>exact absurd HA (by simp [laws_FnExactWrongByFlips.j0])
        | succ kj36 =>
         have H:=HA;clear HA;simp only [laws_FnExactWrongByFlips.j0,F] at H
         replace H:=sp_ H;rcases H with ⟨c78,H⟩ | ⟨c78,H⟩
         · skip
           subst c78
           exact absurd (H.trans (congrArg some HRT.out)) (by simp)
         · skip
           replace c78:=cbf c78;subst c78
           replace H:=Option.bind_eq_some_iff.mp H;obtain ⟨⟨t643,t644,t645⟩,A79,H⟩:=H;(try dsimp only at H)
           replace H:=Option.bind_eq_some_iff.mp H;obtain ⟨t648,A80,H⟩:=H;(try dsimp only at H)
           replace H:=sp_ H;rcases H with ⟨c81,H⟩ | ⟨c81,H⟩
           · skip
             subst c81
             replace H:=Option.bind_eq_some_iff.mp H;obtain ⟨t649,A82,H⟩:=H;(try dsimp only at H)
             replace H:=Option.bind_eq_some_iff.mp H;obtain ⟨t652,A83,H⟩:=H;(try dsimp only at H)
             replace H:=sp_ H;rcases H with ⟨c84,H⟩ | ⟨c84,H⟩
             · skip
               subst c84
               replace H:=Option.bind_eq_some_iff.mp H;obtain ⟨⟨t653,t654⟩,A85,H⟩:=H;(try dsimp only at H)
               replace H:=Option.bind_eq_some_iff.mp H;obtain ⟨t657,A86,H⟩:=H;(try dsimp only at H)
               replace H:=sp_ H;rcases H with ⟨c87,H⟩ | ⟨c87,H⟩
               · skip
                 subst c87
                 replace H:=Option.bind_eq_some_iff.mp H;obtain ⟨⟨t658,t659⟩,A88,H⟩:=H;(try dsimp only at H)
                 replace H:=Option.bind_eq_some_iff.mp H;obtain ⟨t660,A89,H⟩:=H;(try dsimp only at H)
                 replace H:=Option.bind_eq_some_iff.mp H;obtain ⟨⟨t661,t662⟩,A90,H⟩:=H;(try dsimp only at H)
                 go_wp2_with (first | ((with_reducible refine gs (t:=46) rfl (L ?_));(first | refine sb (.agg #[_,_]) S sz46 ?_ | refine ro (.agg #[_,_]) S sz46 ?_ (ho:=rfl) (hx:=rfl) (hy:=rfl));(clear S F;intro W S;have F:=S.fc)) | ((with_reducible refine gs (t:=50) rfl (L ?_));(first | refine sb (.agg #[_,_,_]) S sz50 ?_ | refine ro (.agg #[_,_,_]) S sz50 ?_ (ho:=rfl) (hx:=rfl) (hy:=rfl));(clear S F;intro W S;have F:=S.fc)))
                 refine rq S [(1,0),(1,1),(2,2),(2,3),(0,4)] [] (h:=?_);clear S F;intro W S;have S0:=S;have F:=S.fc
                 repeat (first | (refine q0 (h:=?_)) | (refine q1 S0 (h:=?_)) | (refine q0n (h:=?_)) | (refine q1n S0 (h:=?_)))
                 refine lk2 (by rfl) (by exact (Eq.refl true)) ?_;refine cl (some 77) Try.func32 (laws_toBoard.calls _ _ _ _ _ _ _ _ _ _ S.c S.n A79) (hargs:=by (simp only [ma_,mb_,mc_,F] <;> rfl)) (h:=?_);rintro e W ⟨v646,rfl,ho0,hb⟩;refine ⟨_,rfl,?_⟩;replace S:=S.got at88 hb ho0;obtain ⟨At645,ct645,rfl,S⟩:=S;clear F hb ho0;have F:=S.fc
                 clear S0;have S0:=S.tl;refine ⟨S0,?_⟩
                 refine lk2 (by rfl) (by exact (Eq.refl true)) ?_;refine cl (some 78) Try.func36 (laws_eqBoard.calls _ _ _ _ _ _ _ _ _ _ _ _ _ S.c S.n S.c S.n A80) (hargs:=by (simp only [ma_,mb_,mc_,F] <;> rfl)) (h:=?_);rintro e W ⟨rfl,hb⟩;refine ⟨_,rfl,?_⟩;replace S:=S.go hb;clear F hb;have F:=S.fc
                 clear S0;have S0:=S.tl;refine ⟨S0,?_⟩
                 repeat (first | (refine q0 (h:=?_)) | (refine q1 S0 (h:=?_)) | (refine q0n (h:=?_)) | (refine q1n S0 (h:=?_)))
                 refine oz ?_
                 try clear S0
                 go_wp2_with (first | ((with_reducible refine gate_callee (f:=33) rfl (L ?_));refine cl (some 82) Try.func33 (laws_toIntSS.calls _ _ _ _ _ _ S.c S.n A82) (hargs:=by (simp only [ma_,mb_,mc_,F] <;> rfl)) (h:=?_);rintro e W ⟨v650,rfl,ho0,hb⟩;refine ⟨_,rfl,?_⟩;replace S:=S.gotS hb ho0;obtain ⟨At649,ct649,rfl,S⟩:=S;clear F hb ho0;have F:=S.fc) | ((with_reducible refine gate_callee (f:=37) rfl (L ?_));refine cl (some 83) Try.func37 (laws_eqIntSS.calls _ _ _ _ _ _ _ _ _ S.c S.n S.c S.n A83) (hargs:=by (simp only [ma_,mb_,mc_,F] <;> rfl)) (h:=?_);rintro e W ⟨rfl,hb⟩;refine ⟨_,rfl,?_⟩;replace S:=S.gw hb;clear F hb;have F:=S.fc) | ((with_reducible refine gs (t:=46) rfl (L ?_));(first | refine sb (.agg #[_,_]) S sz46 ?_ | refine ro (.agg #[_,_]) S sz46 ?_ (ho:=rfl) (hx:=rfl) (hy:=rfl));(clear S F;intro W S;have F:=S.fc)) | ((with_reducible refine gs (t:=50) rfl (L ?_));(first | refine sb (.agg #[_,_,_]) S sz50 ?_ | refine ro (.agg #[_,_,_]) S sz50 ?_ (ho:=rfl) (hx:=rfl) (hy:=rfl));(clear S F;intro W S;have F:=S.fc)))
                 refine rq S [(1,0),(1,1),(2,2),(2,3),(0,4)] [] (h:=?_);clear S F;intro W S;have S0:=S;have F:=S.fc
                 repeat (first | (refine q0 (h:=?_)) | (refine q1 S0 (h:=?_)) | (refine q0n (h:=?_)) | (refine q1n S0 (h:=?_)))
                 refine lk2 (by rfl) (by exact (Eq.refl true)) ?_;refine cl (some 87) Try.func49 (laws_toTable.calls _ _ _ _ _ _ _ _ S.c S.n A85) (hargs:=by (simp only [ma_,mb_,mc_,F] <;> rfl)) (h:=?_);rintro e W ⟨v655,rfl,ho0,hb⟩;refine ⟨_,rfl,?_⟩;replace S:=S.got (atI .i64) hb ho0;obtain ⟨At654,ct654,rfl,S⟩:=S;clear F hb ho0;have F:=S.fc
                 clear S0;have S0:=S.tl;refine ⟨S0,?_⟩
                 refine lk2 (by rfl) (by exact (Eq.refl true)) ?_;refine cl (some 88) Try.func35 (laws_eqTable.calls _ _ _ _ _ _ _ _ _ _ _ S.c S.n S.c S.n A86) (hargs:=by (simp only [ma_,mb_,mc_,F] <;> rfl)) (h:=?_);rintro e W ⟨rfl,hb⟩;refine ⟨_,rfl,?_⟩;replace S:=S.go hb;clear F hb;have F:=S.fc
                 clear S0;have S0:=S.tl;refine ⟨S0,?_⟩
                 repeat (first | (refine q0 (h:=?_)) | (refine q1 S0 (h:=?_)) | (refine q0n (h:=?_)) | (refine q1n S0 (h:=?_)))
                 refine oz ?_
                 try clear S0
                 go_upto_region 28 with (first | ((with_reducible refine gate_callee (f:=38) rfl (L ?_));obtain ⟨ok_,k_⟩:=S.lend (A:=At626);refine cl (some 92) Try.func38 (laws_markBoard.calls _ _ _ ok_ _ _ _ _ _ _ _ k_.below k_.own A88) (hargs:=by (simp only [ma_,mb_,mc_,F] <;> rfl)) (h:=?_);rintro e W ⟨rfl,hy,hb,hk⟩;refine ⟨_,rfl,?_⟩;clear S F;have S:=k_.back _ _ hy hb hk;clear k_ hy hb hk ok_;have F:=S.fc) | ((with_reducible refine gate_callee (f:=39) rfl (L ?_));obtain ⟨ok_,hb0_,ho_,bk_⟩:=S.lendS (A:=At630);refine cl (some 95) Try.func39 (laws_markIntSS.calls _ ok_ _ _ _ _ _ _ hb0_ ho_ A89) (hargs:=by (simp only [ma_,mb_,mc_,F] <;> rfl)) (h:=?_);rintro e W ⟨rfl,hb,hk⟩;refine ⟨_,rfl,?_⟩;clear S F;have S:=bk_ W hb hk;clear bk_ hb0_ ho_ hb hk ok_;have F:=S.fc) | ((with_reducible refine gate_callee (f:=40) rfl (L ?_));obtain ⟨ok_,k_⟩:=S.lend (A:=At634);refine cl (some 98) Try.func40 (laws_markTable.calls _ _ ok_ _ _ _ _ _ _ _ k_.below k_.own A90) (hargs:=by (simp only [ma_,mb_,mc_,F] <;> rfl)) (h:=?_);rintro e W ⟨rfl,hy,hb,hk⟩;refine ⟨_,rfl,?_⟩;clear S F;have S:=k_.back _ _ hy hb hk;clear k_ hy hb hk ok_;have F:=S.fc) | ((with_reducible refine gs (t:=46) rfl (L ?_));(first | refine sb (.agg #[_,_]) S sz46 ?_ | refine ro (.agg #[_,_]) S sz46 ?_ (ho:=rfl) (hx:=rfl) (hy:=rfl));(clear S F;intro W S;have F:=S.fc)) | ((with_reducible refine gs (t:=50) rfl (L ?_));(first | refine sb (.agg #[_,_,_]) S sz50 ?_ | refine ro (.agg #[_,_,_]) S sz50 ?_ (ho:=rfl) (hx:=rfl) (hy:=rfl));(clear S F;intro W S;have F:=S.fc)))
                 (try simp only [Act.put,List.setIfInBounds_toArray,List.set_cons_zero,List.set_cons_succ])
                 go_cut [111] (fun v111 wc=>∃ (kq:Nat) (x111_90:Bool),v111 = .bool x111_90∧laws_FnExactWrongByFlips.j1 kq a1 l2 a3 t620 t623 t638 x111_90 a0_0 a0_1 l0_2 a4_0 l4_1 = some r∧kq ≤ kj36∧St w w (fun _=>False) [bor at106 A0_2 c0_2 l0_2,bor (atU (d:=Kd.slice 3 (Kd.int .i64))) A2 c2 l2,bor (atI .i64) A4_1 c4_1 l4_1] wc  [row (atI .i64) 3 At638 t638.length ct638 t638,box gb637 46 [.int .i64 t633,.slice At634 t634.length ct634],row (atI .i64) 3 At634 t634.length ct634 t662,box gb629 50 [.int .i64 t624,.int .i64 t625,.slice At626 t626.length ct626],row at88 88 At626 t626.length ct626 t659,row (atI .i64) 3 At620 t620.length ct620 t620,box gb604 63 [.int .i64 a4_0,.slice A4_1 l4_1.length c4_1],box gb603 41 [.int .i64 a0_0,.int .i64 a0_1,.slice A0_2 l0_2.length c0_2]])
                 case first =>
                  replace H:=sp_ H;rcases H with ⟨c111,H⟩ | ⟨c111,H⟩
                  · skip
                    go_wp2_with (first | ((with_reducible refine gs (t:=46) rfl (L ?_));(first | refine sb (.agg #[_,_]) S sz46 ?_ | refine ro (.agg #[_,_]) S sz46 ?_ (ho:=rfl) (hx:=rfl) (hy:=rfl));(clear S F;intro W S;have F:=S.fc)) | ((with_reducible refine gs (t:=50) rfl (L ?_));(first | refine sb (.agg #[_,_,_]) S sz50 ?_ | refine ro (.agg #[_,_,_]) S sz50 ?_ (ho:=rfl) (hx:=rfl) (hy:=rfl));(clear S F;intro W S;have F:=S.fc)))
                    go_meet
                    case rel=>exact ⟨_,true,(by first | rfl | (simp;done) | (simp [*];done) | (rw [w6_ (by omega) (by omega)])),(by first | exact H | (simp only [F];exact H)),(by first | omega | exact Nat.le_refl _),(S.ms [0,0,0,1,1,1,0])⟩
                  · skip
                    replace H:=Option.bind_eq_some_iff.mp H;obtain ⟨t663,A112,H⟩:=H;(try dsimp only at H)
                    replace H:=sp_ H;rcases H with ⟨c113,H⟩ | ⟨c113,H⟩
                    · skip
                      subst c113
                      go_wp2_with (first | (go_at_call 21;(try simp only [F]);refine (laws_eqIntS.calls _ _ _ _ _ _ _ _ _ S.c S.n S.c S.n A112).mono ?_;rintro e W ⟨rfl,hb⟩;replace S:=S.gw hb;clear F hb;have F:=S.fc) | ((with_reducible refine gs (t:=46) rfl (L ?_));(first | refine sb (.agg #[_,_]) S sz46 ?_ | refine ro (.agg #[_,_]) S sz46 ?_ (ho:=rfl) (hx:=rfl) (hy:=rfl));(clear S F;intro W S;have F:=S.fc)) | ((with_reducible refine gs (t:=50) rfl (L ?_));(first | refine sb (.agg #[_,_,_]) S sz50 ?_ | refine ro (.agg #[_,_,_]) S sz50 ?_ (ho:=rfl) (hx:=rfl) (hy:=rfl));(clear S F;intro W S;have F:=S.fc)))
                      go_meet
                      case rel=>exact ⟨_,(t641 != t623),(by first | rfl | (simp;done) | (simp [*];done) | (rw [w6_ (by omega) (by omega)])),(by first | exact H | (simp only [F];exact H)),(by first | omega | exact Nat.le_refl _),(S.ms [0,0,0,1,1,1,0])⟩
                    · skip
                      replace c113:=cbf c113;subst c113
                      go_wp2_with (first | (go_at_call 21;(try simp only [F]);refine (laws_eqIntS.calls _ _ _ _ _ _ _ _ _ S.c S.n S.c S.n A112).mono ?_;rintro e W ⟨rfl,hb⟩;replace S:=S.gw hb;clear F hb;have F:=S.fc) | ((with_reducible refine gs (t:=46) rfl (L ?_));(first | refine sb (.agg #[_,_]) S sz46 ?_ | refine ro (.agg #[_,_]) S sz46 ?_ (ho:=rfl) (hx:=rfl) (hy:=rfl));(clear S F;intro W S;have F:=S.fc)) | ((with_reducible refine gs (t:=50) rfl (L ?_));(first | refine sb (.agg #[_,_,_]) S sz50 ?_ | refine ro (.agg #[_,_,_]) S sz50 ?_ (ho:=rfl) (hx:=rfl) (hy:=rfl));(clear S F;intro W S;have F:=S.fc)))
                      go_meet
                      case rel=>exact ⟨_,true,(by first | rfl | (simp;done) | (simp [*];done) | (rw [w6_ (by omega) (by omega)])),(by first | exact H | (simp only [F];exact H)),(by first | omega | exact Nat.le_refl _),(S.ms [0,0,0,1,1,1,0])⟩
                 case rest =>
                  clear H S F
                  obtain ⟨kq,x111_90,rfl,HA,HJ90,S⟩:=hcut
                  have F:=S.fc
                  cases kq with
                  | zero=>exact absurd HA (by simp [laws_FnExactWrongByFlips.j1])
                  | succ kj90 =>
                   have H:=HA;clear HA;simp only [laws_FnExactWrongByFlips.j1,F] at H
                   replace H:=sp_ H;rcases H with ⟨c118,H⟩ | ⟨c118,H⟩
                   · skip
                     subst c118
                     exact absurd (H.trans (congrArg some HRT.out)) (by simp)
                   · skip
                     replace c118:=cbf c118;subst c118
                     replace H:=Option.bind_eq_some_iff.mp H;obtain ⟨⟨t664,t665⟩,A119,H⟩:=H;(try dsimp only at H)
                     replace H:=Option.bind_eq_some_iff.mp H;obtain ⟨t666,A120,H⟩:=H;(try dsimp only at H)
                     replace H:=sp_ H;rcases H with ⟨c121,H⟩ | ⟨c121,H⟩
                     · skip
                       exact absurd (H.trans (congrArg some HRT.out)) (by simp)
                     · skip
                       replace H:=sp_ H;rcases H with ⟨c122,H⟩ | ⟨c122,H⟩
                       · skip
                         replace c122:=ceq c122
                         replace H:=Option.bind_eq_some_iff.mp H;obtain ⟨⟨t667,t668,t669⟩,A123,H⟩:=H;(try dsimp only at H)
                         replace H:=Option.bind_eq_some_iff.mp H;obtain ⟨t672,A124,H⟩:=H;(try dsimp only at H)
                         replace H:=Option.bind_eq_some_iff.mp H;obtain ⟨⟨t675,t676⟩,A125,H⟩:=H;(try dsimp only at H)
                         replace H:=Option.bind_eq_some_iff.mp H;obtain ⟨⟨t679,t682⟩,A126,H⟩:=H;(try dsimp only at H)
                         go_wp2_with (first | ((with_reducible refine gate_callee (f:=23) rfl (L ?_));obtain ⟨ok_,k_⟩:=S.lend (A:=At638);refine cl (some 114) Try.func23 (laws_markIntS.calls _ ok_ _ _ _ _ _ _ _ k_.below k_.own A119) (hargs:=by (simp only [ma_,mb_,mc_,F] <;> rfl)) (h:=?_);rintro e W ⟨rfl,hy,hb,hk⟩;refine ⟨_,rfl,?_⟩;clear S F;have S:=k_.back _ _ hy hb hk;clear k_ hy hb hk ok_;have F:=S.fc) | ((with_reducible refine gate_callee (f:=24) rfl (L ?_));refine cl (some 117) Try.func24 (laws_heldIntS.calls _ _ _ _ _ _ _ S.c S.n A120) (hargs:=by (simp only [ma_,mb_,mc_,F] <;> rfl)) (h:=?_);rintro e W ⟨rfl,hb⟩;refine ⟨_,rfl,?_⟩;replace S:=S.gw hb;clear F hb;have F:=S.fc) | ((with_reducible refine gs (t:=46) rfl (L ?_));(first | refine sb (.agg #[_,_]) S sz46 ?_ | refine ro (.agg #[_,_]) S sz46 ?_ (ho:=rfl) (hx:=rfl) (hy:=rfl));(clear S F;intro W S;have F:=S.fc)) | ((with_reducible refine gs (t:=50) rfl (L ?_));(first | refine sb (.agg #[_,_,_]) S sz50 ?_ | refine ro (.agg #[_,_,_]) S sz50 ?_ (ho:=rfl) (hx:=rfl) (hy:=rfl));(clear S F;intro W S;have F:=S.fc)))
                         refine rq S [(0,2),(0,3),(0,5),(1,0),(1,6),(2,1),(2,4),(2,7),(2,8),(0,9),(0,10),(0,11),(0,12),(0,13)] [] (h:=?_);clear S F;intro W S;have S0:=S;have F:=S.fc
                         repeat (first | (refine q0 (h:=?_)) | (refine q1 S0 (h:=?_)) | (refine q0n (h:=?_)) | (refine q1n S0 (h:=?_)))
                         refine lk2 (by rfl) (by exact (Eq.refl true)) ?_;refine cl (some 125) Try.func32 (laws_toBoard.calls _ _ _ _ _ _ _ _ _ _ S.c S.n A123) (hargs:=by (simp only [ma_,mb_,mc_,F] <;> rfl)) (h:=?_);rintro e W ⟨v670,rfl,ho0,hb⟩;refine ⟨_,rfl,?_⟩;replace S:=S.got at88 hb ho0;obtain ⟨At669,ct669,rfl,S⟩:=S;clear F hb ho0;have F:=S.fc
                         clear S0;have S0:=S.tl;refine ⟨S0,?_⟩
                         refine lk2 (by rfl) (by exact (Eq.refl true)) ?_;refine cl (some 128) Try.func33 (laws_toIntSS.calls _ _ _ _ _ _ S.c S.n A124) (hargs:=by (simp only [ma_,mb_,mc_,F] <;> rfl)) (h:=?_);rintro e W ⟨v673,rfl,ho0,hb⟩;refine ⟨_,rfl,?_⟩;replace S:=S.gotS hb ho0;obtain ⟨At672,ct672,rfl,S⟩:=S;clear F hb ho0;have F:=S.fc
                         clear S0;have S0:=S.tl.tl;refine ⟨S0,?_⟩
                         refine lk2 (by rfl) (by exact (Eq.refl true)) ?_;refine cl (some 131) Try.func49 (laws_toTable.calls _ _ _ _ _ _ _ _ S.c S.n A125) (hargs:=by (simp only [ma_,mb_,mc_,F] <;> rfl)) (h:=?_);rintro e W ⟨v677,rfl,ho0,hb⟩;refine ⟨_,rfl,?_⟩;replace S:=S.got (atI .i64) hb ho0;obtain ⟨At676,ct676,rfl,S⟩:=S;clear F hb ho0;have F:=S.fc
                         clear S0;have S0:=S.tl.tl.tl;refine ⟨S0,?_⟩
                         refine lk2 (by rfl) (by exact (Eq.refl true)) ?_;refine cl (some 132) Try.func50 (impl_WrongByFlips.calls _ _ _ _ _ _ _ _ _ _ _ _ _ _ _ _ _ _ S.c S.n S.c S.n S.c S.n A126) (hargs:=by (simp only [ma_,mb_,mc_,F] <;> rfl)) (h:=?_);rintro e W ⟨v680,rfl,ho0,hb⟩;refine ⟨_,rfl,?_⟩;replace S:=S.got (atI .i64) hb ho0;obtain ⟨At679,ct679,rfl,S⟩:=S;clear F hb ho0;have F:=S.fc
                         clear S0;have S0:=S.tl.tl.tl.tl;refine ⟨S0,?_⟩
                         repeat (first | (refine q0 (h:=?_)) | (refine q1 S0 (h:=?_)) | (refine q0n (h:=?_)) | (refine q1n S0 (h:=?_)))
                         refine oz ?_
                         try clear S0
                         go_upto_region 39 with (first | ((with_reducible refine gs (t:=46) rfl (L ?_));(first | refine sb (.agg #[_,_]) S sz46 ?_ | refine ro (.agg #[_,_]) S sz46 ?_ (ho:=rfl) (hx:=rfl) (hy:=rfl));(clear S F;intro W S;have F:=S.fc)) | ((with_reducible refine gs (t:=50) rfl (L ?_));(first | refine sb (.agg #[_,_,_]) S sz50 ?_ | refine ro (.agg #[_,_,_]) S sz50 ?_ (ho:=rfl) (hx:=rfl) (hy:=rfl));(clear S F;intro W S;have F:=S.fc)))
                         go_cut [143] (fun v143 wc=>∃ (kq:Nat) (x143_126:Bool),v143 = .bool x143_126∧laws_FnExactWrongByFlips.j2 kq t665 t664 x143_126 = some r∧kq ≤ kj90∧St w w (fun _=>False) [bor at106 A0_2 c0_2 l0_2,bor (atU (d:=Kd.slice 3 (Kd.int .i64))) A2 c2 l2,bor (atI .i64) A4_1 c4_1 l4_1] wc  [row (atI .i64) 3 At638 t638.length ct638 t665,box gb637 46 [.int .i64 t633,.slice At634 t634.length ct634],row (atI .i64) 3 At634 t634.length ct634 t662,box gb629 50 [.int .i64 t624,.int .i64 t625,.slice At626 t626.length ct626],row at88 88 At626 t626.length ct626 t659,box gb604 63 [.int .i64 a4_0,.slice A4_1 l4_1.length c4_1],box gb603 41 [.int .i64 a0_0,.int .i64 a0_1,.slice A0_2 l0_2.length c0_2]])
                         case first =>
                          replace H:=Option.bind_eq_some_iff.mp H;obtain ⟨t683,A138,H⟩:=H;(try dsimp only at H)
                          replace H:=sp_ H;rcases H with ⟨c139,H⟩ | ⟨c139,H⟩
                          · skip
                            subst c139
                            go_wp2_with (first | ((with_reducible refine gate_callee (f:=21) rfl (L ?_));refine cl (some 137) Try.func21 (laws_eqIntS.calls _ _ _ _ _ _ _ _ _ S.c S.n S.c S.n A138) (hargs:=by (simp only [ma_,mb_,mc_,F] <;> rfl)) (h:=?_);rintro e W ⟨rfl,hb⟩;refine ⟨_,rfl,?_⟩;replace S:=S.gw hb;clear F hb;have F:=S.fc) | ((with_reducible refine gs (t:=46) rfl (L ?_));(first | refine sb (.agg #[_,_]) S sz46 ?_ | refine ro (.agg #[_,_]) S sz46 ?_ (ho:=rfl) (hx:=rfl) (hy:=rfl));(clear S F;intro W S;have F:=S.fc)) | ((with_reducible refine gs (t:=50) rfl (L ?_));(first | refine sb (.agg #[_,_,_]) S sz50 ?_ | refine ro (.agg #[_,_,_]) S sz50 ?_ (ho:=rfl) (hx:=rfl) (hy:=rfl));(clear S F;intro W S;have F:=S.fc)))
                            go_meet
                            case rel=>exact ⟨_,(t682 != t623),(by first | rfl | (simp;done) | (simp [*];done) | (rw [w6_ (by omega) (by omega)])),(by first | exact H | (simp only [F];exact H)),(by first | omega | exact Nat.le_refl _),(S.ms [0,0,0,0,1,1,1,1,1,0])⟩
                          · skip
                            replace c139:=cbf c139;subst c139
                            go_wp2_with (first | ((with_reducible refine gate_callee (f:=21) rfl (L ?_));refine cl (some 137) Try.func21 (laws_eqIntS.calls _ _ _ _ _ _ _ _ _ S.c S.n S.c S.n A138) (hargs:=by (simp only [ma_,mb_,mc_,F] <;> rfl)) (h:=?_);rintro e W ⟨rfl,hb⟩;refine ⟨_,rfl,?_⟩;replace S:=S.gw hb;clear F hb;have F:=S.fc) | ((with_reducible refine gs (t:=46) rfl (L ?_));(first | refine sb (.agg #[_,_]) S sz46 ?_ | refine ro (.agg #[_,_]) S sz46 ?_ (ho:=rfl) (hx:=rfl) (hy:=rfl));(clear S F;intro W S;have F:=S.fc)) | ((with_reducible refine gs (t:=50) rfl (L ?_));(first | refine sb (.agg #[_,_,_]) S sz50 ?_ | refine ro (.agg #[_,_,_]) S sz50 ?_ (ho:=rfl) (hx:=rfl) (hy:=rfl));(clear S F;intro W S;have F:=S.fc)))
                            go_meet
                            case rel=>exact ⟨_,true,(by first | rfl | (simp;done) | (simp [*];done) | (rw [w6_ (by omega) (by omega)])),(by first | exact H | (simp only [F];exact H)),(by first | omega | exact Nat.le_refl _),(S.ms [0,0,0,0,1,1,1,1,1,0])⟩
                         case rest =>
                          clear H S F
                          obtain ⟨kq,x143_126,rfl,HA,HJ126,S⟩:=hcut
                          have F:=S.fc
                          cases kq with
                          | zero=>exact absurd HA (by simp [laws_FnExactWrongByFlips.j2])
                          | succ kj126 =>
                           have H:=HA;clear HA;simp only [laws_FnExactWrongByFlips.j2,F] at H
                           replace H:=sp_ H;rcases H with ⟨c144,H⟩ | ⟨c144,H⟩
                           · skip
                             subst c144
                             exact absurd (H.trans (congrArg some HRT.out)) (by simp)
                           · skip
                             replace c144:=cbf c144;subst c144
                             replace H:=Option.bind_eq_some_iff.mp H;obtain ⟨t684,A145,H⟩:=H;(try dsimp only at H)
                             replace H:=sp_ H;rcases H with ⟨c146,H⟩ | ⟨c146,H⟩
                             · skip
                               exact absurd (H.trans (congrArg some HRT.out)) (by simp)
                             · skip
                               replace H:=sp_ H;rcases H with ⟨c147,H⟩ | ⟨c147,H⟩
                               · skip
                                 replace c147:=ceq c147
                                 obtain rfl:=Option.some.inj H
                                 go_wp2_with (first | ((with_reducible refine gate_callee (f:=24) rfl (L ?_));refine cl (some 146) Try.func24 (laws_heldIntS.calls _ _ _ _ _ _ _ S.c S.n A145) (hargs:=by (simp only [ma_,mb_,mc_,F] <;> rfl)) (h:=?_);rintro e W ⟨rfl,hb⟩;refine ⟨_,rfl,?_⟩;replace S:=S.gw hb;clear F hb;have F:=S.fc) | ((with_reducible refine gs (t:=46) rfl (L ?_));(first | refine sb (.agg #[_,_]) S sz46 ?_ | refine ro (.agg #[_,_]) S sz46 ?_ (ho:=rfl) (hx:=rfl) (hy:=rfl));(clear S F;intro W S;have F:=S.fc)) | ((with_reducible refine gs (t:=50) rfl (L ?_));(first | refine sb (.agg #[_,_,_]) S sz50 ?_ | refine ro (.agg #[_,_,_]) S sz50 ?_ (ho:=rfl) (hx:=rfl) (hy:=rfl));(clear S F;intro W S;have F:=S.fc)))
                                 go_ret
                                 exact ⟨(by first | rfl | (simp [e0_,e1_] <;> rfl) | (simp [*,e0_,e1_] <;> rfl)),S.below⟩
                               · skip
                                 replace c147:=cne c147
                                 exact absurd (H.trans (congrArg some HRT.out)) (by simp)
                       · skip
                         replace c122:=cne c122
                         exact absurd (H.trans (congrArg some HRT.out)) (by simp)
               · skip
                 replace c87:=cbf c87;subst c87
                 exact absurd (H.trans (congrArg some HRT.out)) (by simp)
             · skip
               replace c84:=cbf c84;subst c84
               exact absurd (H.trans (congrArg some HRT.out)) (by simp)
           · skip
             replace c81:=cbf c81;subst c81
             exact absurd (H.trans (congrArg some HRT.out)) (by simp)
end Go.Proofs.Ytipaimgpmgbkiaa.F
