-- Printed by a program; checked here.
import Derived.Test.YtipaimgpmgbkiaaF0
import Derived.Test.YtipaimgpmgbkiaaF6
namespace Go.Proofs.Ytipaimgpmgbkiaa.F
open Go.RowKit Go.Proofs.YtipaimgpmgbkiaaV.PrintWords Go.Proofs.YtipaimgpmgbkiaaV.PrintLast Go.Proofs.YtipaimgpmgbkiaaV.PrintMore Go.Proofs.YtipaimgpmgbkiaaV.Sl Go.Proofs.YtipaimgpmgbkiaaV.Rf
attribute [local go_sem] max2_int min2_int max_two min_two max_three min_three max_four min_four ia_opt it_opt
attribute [local go_sem] Try.underlying4 Try.underlying23 Try.underlying25 Try.underlying29 Try.underlying31 Try.underlying42 Try.underlying50 Try.underlying85 Try.underlying88 Try.underlying89 Try.underlying106 Try.underlying122 Try.underlying127
set_option maxHeartbeats 8000000
set_option maxRecDepth 100000
set_option linter.unusedVariables false
set_option linter.unusedSimpArgs false

/-! ### laws_eqCellS: function 66 -/
def laws_eqCellS.l0:Nat→List (S88)→List (S88)→Int→Option (Bool)
  | 0,_,_,_=>none
  | k + 1,x0,x1,x5=>if x5 < (x0.length:Int) then (if 0 ≤ x5 then (if x5 < (x1.length:Int) then ((laws_eqCell.f ((rd_T88 x0 x5).f0) ((rd_T88 x0 x5).f1) ((rd_T88 x1 x5).f0) ((rd_T88 x1 x5).f1)).bind fun t502=>(if t502 = true then (laws_eqCellS.l0 k x0 x1 (wrap64 (x5 + 1))) else (some false))) else (none)) else (none)) else (some true)
def laws_eqCellS.f (k:Nat) (l0:List (S88)) (l1:List (S88)):Option (Bool):=if (l0.length:Int) = (l1.length:Int) then (laws_eqCellS.l0 k l0 l1 0) else (some false)
theorem laws_eqCellS.calls (k:Nat) (A0:Option Addr) (c0:Nat) (l0:List (S88)) (A1:Option Addr) (c1:Nat) (l1:List (S88)) (r:Bool) (w:World) (hr0:Kd.C k88 w A0 l0.length l0) (hc0:l0.length ≤ c0) (hr1:Kd.C k88 w A1 l1.length l1) (hc1:l1.length ≤ c1) (h:laws_eqCellS.f k l0 l1 = some r) :
    Calls Try.prog 66 #[.slice A0 l0.length c0,.slice A1 l1.length c1] w fun e w'=>e = .returned (.bool r)∧Below w.heap.size w w':=by
 have S:=St.init (w:=w) (dc k88_heap at88 hr0 hc0 (dc k88_heap at88 hr1 hc1 dn))
 clear hr0 hc0 hr1 hc1
 have F:=S.fc
 have H:=h;clear h;unfold laws_eqCellS.f at H
 replace H:=sp_ H;rcases H with ⟨c3,H⟩ | ⟨c3,H⟩
 · skip
   replace c3:=ceq c3
   go_enter Try.func66,Try.ntmps66
   go_wp2
   go_loopg [5] k (fun kq v5 w'=>∃ (x5_1:Int),v5 = .int .i64 x5_1∧laws_eqCellS.l0 kq l0 l1 x5_1 = some r∧kq ≤ k∧St w w (fun _=>False) [bor at88 A0 c0 l0,bor at88 A1 c1 l1] w'  [])
   case atStart=>exact ⟨0,(by first | rfl | (simp;done) | (simp [*];done) | (rw [w6_ (by omega) (by omega)])),H,Nat.le_refl _,S⟩
   case round =>
    clear H S F
    obtain ⟨x5_1,rfl,HA,HK1,S⟩:=hrel
    have F:=S.fc
    cases gk with
    | zero=>exact absurd HA (by simp [laws_eqCellS.l0])
    | succ k1 =>
     have H:=HA;clear HA;simp only [laws_eqCellS.l0,F] at H
     replace H:=sp_ H;rcases H with ⟨c4,H⟩ | ⟨c4,H⟩
     · skip
       replace H:=np_ H;obtain ⟨c5,H⟩:=H
       replace H:=np_ H;obtain ⟨c6,H⟩:=H
       replace H:=Option.bind_eq_some_iff.mp H;obtain ⟨t502,A7,H⟩:=H;(try dsimp only at H)
       replace H:=sp_ H;rcases H with ⟨c8,H⟩ | ⟨c8,H⟩
       · skip
         subst c8
         try go_wp2
         refine rq S [(0,0),(0,1),(0,2),(0,4),(0,5),(0,6),(1,3),(1,7),(2,8),(0,9)] [] (h:=?_);clear S F;intro W S;have S0:=S;have F:=S.fc
         repeat (first | (refine q0 (h:=?_)) | (refine q1 S0 (h:=?_)) | (refine q0n (h:=?_)) | (refine q1n S0 (h:=?_)))
         refine lk2 (by rfl) (by exact (Eq.refl true)) ?_;refine cl (some 25) Try.func100 (laws_eqCell.calls _ _ _ _ _ _ A7) (hargs:=by (simp only [ma_,mb_,mc_,F] <;> rfl)) (h:=?_);rintro e W ⟨rfl,hb⟩;refine ⟨_,rfl,?_⟩;replace S:=S.go hb;clear F hb;have F:=S.fc
         clear S0;have S0:=S;refine ⟨S0,?_⟩
         repeat (first | (refine q0 (h:=?_)) | (refine q1 S0 (h:=?_)) | (refine q0n (h:=?_)) | (refine q1n S0 (h:=?_)))
         refine oz ?_
         try clear S0
         try go_wp2
         go_roundg k1
         case measure=>omega
         case rel=>exact ⟨(wrap64 (x5_1 + 1)),(by first | rfl | (simp;done) | (simp [*];done) | (rw [w6_ (by omega) (by omega)])),H,(by first | omega | exact Nat.le_refl _),S⟩
       · skip
         replace c8:=cbf c8;subst c8
         obtain rfl:=Option.some.inj H
         try go_wp2
         refine rq S [(0,0),(0,1),(0,2),(0,4),(0,5),(0,6),(1,3),(1,7),(2,8),(0,9)] [] (h:=?_);clear S F;intro W S;have S0:=S;have F:=S.fc
         repeat (first | (refine q0 (h:=?_)) | (refine q1 S0 (h:=?_)) | (refine q0n (h:=?_)) | (refine q1n S0 (h:=?_)))
         refine lk2 (by rfl) (by exact (Eq.refl true)) ?_;refine cl (some 25) Try.func100 (laws_eqCell.calls _ _ _ _ _ _ A7) (hargs:=by (simp only [ma_,mb_,mc_,F] <;> rfl)) (h:=?_);rintro e W ⟨rfl,hb⟩;refine ⟨_,rfl,?_⟩;replace S:=S.go hb;clear F hb;have F:=S.fc
         clear S0;have S0:=S;refine ⟨S0,?_⟩
         repeat (first | (refine q0 (h:=?_)) | (refine q1 S0 (h:=?_)) | (refine q0n (h:=?_)) | (refine q1n S0 (h:=?_)))
         refine oz ?_
         try clear S0
         try go_wp2
         go_ret
         exact ⟨(by first | rfl | (simp [e0_,e1_] <;> rfl) | (simp [*,e0_,e1_] <;> rfl)),S.below⟩
     · skip
       obtain rfl:=Option.some.inj H
       go_wp2
       go_ret
       exact ⟨(by first | rfl | (simp [e0_,e1_] <;> rfl) | (simp [*,e0_,e1_] <;> rfl)),S.below⟩
 · skip
   replace c3:=cne c3
   obtain rfl:=Option.some.inj H
   go_enter Try.func66,Try.ntmps66
   go_wp2
   go_ret
   exact ⟨(by first | rfl | (simp [e0_,e1_] <;> rfl) | (simp [*,e0_,e1_] <;> rfl)),S.below⟩

/-! ### laws_eqChallenge: function 18 -/
def laws_eqChallenge.f (k:Nat) (a0_0:Int) (a0_1:Int) (l0_2:List (S88)) (l0_3:List Int) (l0_4:List Int) (a1_0:Int) (a1_1:Int) (l1_2:List (S88)) (l1_3:List Int) (l1_4:List Int):Option (Bool):=if a0_0 = a1_0 then (if a0_1 = a1_1 then ((laws_eqCellS.f k l0_2 l1_2).bind fun t505=>(if t505 = true then ((laws_eqIntS.f k l0_3 l1_3).bind fun t506=>(if t506 = true then ((laws_eqIntS.f k l0_4 l1_4).bind fun t507=>(if t507 = true then (some true) else (some false))) else (some false))) else (some false))) else (some false)) else (some false)
theorem laws_eqChallenge.calls (k:Nat) (a0_0:Int) (a0_1:Int) (A0_2:Option Addr) (c0_2:Nat) (l0_2:List (S88)) (A0_3:Option Addr) (c0_3:Nat) (l0_3:List Int) (A0_4:Option Addr) (c0_4:Nat) (l0_4:List Int) (a1_0:Int) (a1_1:Int) (A1_2:Option Addr) (c1_2:Nat) (l1_2:List (S88)) (A1_3:Option Addr) (c1_3:Nat) (l1_3:List Int) (A1_4:Option Addr) (c1_4:Nat) (l1_4:List Int) (r:Bool) (w:World) (hr0_2:Kd.C k88 w A0_2 l0_2.length l0_2) (hc0_2:l0_2.length ≤ c0_2) (hr0_3:Kd.C (Kd.int .i64) w A0_3 l0_3.length l0_3) (hc0_3:l0_3.length ≤ c0_3) (hr0_4:Kd.C (Kd.int .i64) w A0_4 l0_4.length l0_4) (hc0_4:l0_4.length ≤ c0_4) (hr1_2:Kd.C k88 w A1_2 l1_2.length l1_2) (hc1_2:l1_2.length ≤ c1_2) (hr1_3:Kd.C (Kd.int .i64) w A1_3 l1_3.length l1_3) (hc1_3:l1_3.length ≤ c1_3) (hr1_4:Kd.C (Kd.int .i64) w A1_4 l1_4.length l1_4) (hc1_4:l1_4.length ≤ c1_4) (h:laws_eqChallenge.f k a0_0 a0_1 l0_2 l0_3 l0_4 a1_0 a1_1 l1_2 l1_3 l1_4 = some r) :
    Calls Try.prog 18 #[.agg #[.int .i64 a0_0,.int .i64 a0_1,.slice A0_2 l0_2.length c0_2,.slice A0_3 l0_3.length c0_3,.slice A0_4 l0_4.length c0_4],.agg #[.int .i64 a1_0,.int .i64 a1_1,.slice A1_2 l1_2.length c1_2,.slice A1_3 l1_3.length c1_3,.slice A1_4 l1_4.length c1_4]] w fun e w'=>e = .returned (.bool r)∧Below w.heap.size w w':=by
 have S:=St.init (w:=w) (dc k88_heap at88 hr0_2 hc0_2 (dc (Kd.heap_int .i64) (atI .i64) hr0_3 hc0_3 (dc (Kd.heap_int .i64) (atI .i64) hr0_4 hc0_4 (dc k88_heap at88 hr1_2 hc1_2 (dc (Kd.heap_int .i64) (atI .i64) hr1_3 hc1_3 (dc (Kd.heap_int .i64) (atI .i64) hr1_4 hc1_4 dn))))))
 clear hr0_2 hc0_2 hr0_3 hc0_3 hr0_4 hc0_4 hr1_2 hc1_2 hr1_3 hc1_3 hr1_4 hc1_4
 have F:=S.fc
 have H:=h;clear h;unfold laws_eqChallenge.f at H
 replace H:=sp_ H;rcases H with ⟨c3,H⟩ | ⟨c3,H⟩
 · skip
   replace c3:=ceq c3
   replace H:=sp_ H;rcases H with ⟨c4,H⟩ | ⟨c4,H⟩
   · skip
     replace c4:=ceq c4
     replace H:=Option.bind_eq_some_iff.mp H;obtain ⟨t505,A5,H⟩:=H;(try dsimp only at H)
     replace H:=sp_ H;rcases H with ⟨c6,H⟩ | ⟨c6,H⟩
     · skip
       subst c6
       replace H:=Option.bind_eq_some_iff.mp H;obtain ⟨t506,A7,H⟩:=H;(try dsimp only at H)
       replace H:=sp_ H;rcases H with ⟨c8,H⟩ | ⟨c8,H⟩
       · skip
         subst c8
         replace H:=Option.bind_eq_some_iff.mp H;obtain ⟨t507,A9,H⟩:=H;(try dsimp only at H)
         replace H:=sp_ H;rcases H with ⟨c10,H⟩ | ⟨c10,H⟩
         · skip
           subst c10
           obtain rfl:=Option.some.inj H
           go_enter Try.func18,Try.ntmps18
           go_wp2_with (first | ((with_reducible refine gd 2 rfl (L ?_));refine bo 2 (.agg #[_,_,_,_,_]) S ?_;clear S F;intro gb503 W S;have F:=S.fc) | ((with_reducible refine gd 3 rfl (L ?_));refine bo 3 (.agg #[_,_,_,_,_]) S ?_;clear S F;intro gb504 W S;have F:=S.fc) | ((with_reducible refine gate_callee (f:=66) rfl (L ?_));refine cl (some 19) Try.func66 (laws_eqCellS.calls _ _ _ _ _ _ _ _ _ S.c S.n S.c S.n A5) (hargs:=by (simp only [ma_,mb_,mc_,F] <;> rfl)) (h:=?_);rintro e W ⟨rfl,hb⟩;refine ⟨_,rfl,?_⟩;replace S:=S.go hb;clear F hb;have F:=S.fc) | ((with_reducible refine gate_callee (f:=21) rfl (L ?_));refine cl (some 25) Try.func21 (laws_eqIntS.calls _ _ _ _ _ _ _ _ _ S.c S.n S.c S.n A7) (hargs:=by (simp only [ma_,mb_,mc_,F] <;> rfl)) (h:=?_);rintro e W ⟨rfl,hb⟩;refine ⟨_,rfl,?_⟩;replace S:=S.gw hb;clear F hb;have F:=S.fc) | ((with_reducible refine gate_callee (f:=21) rfl (L ?_));refine cl (some 31) Try.func21 (laws_eqIntS.calls _ _ _ _ _ _ _ _ _ S.c S.n S.c S.n A9) (hargs:=by (simp only [ma_,mb_,mc_,F] <;> rfl)) (h:=?_);rintro e W ⟨rfl,hb⟩;refine ⟨_,rfl,?_⟩;replace S:=S.gw hb;clear F hb;have F:=S.fc))
           go_ret
           exact ⟨(by first | rfl | (simp [e0_,e1_] <;> rfl) | (simp [*,e0_,e1_] <;> rfl)),S.below⟩
         · skip
           replace c10:=cbf c10;subst c10
           obtain rfl:=Option.some.inj H
           go_enter Try.func18,Try.ntmps18
           go_wp2_with (first | ((with_reducible refine gd 2 rfl (L ?_));refine bo 2 (.agg #[_,_,_,_,_]) S ?_;clear S F;intro gb503 W S;have F:=S.fc) | ((with_reducible refine gd 3 rfl (L ?_));refine bo 3 (.agg #[_,_,_,_,_]) S ?_;clear S F;intro gb504 W S;have F:=S.fc) | ((with_reducible refine gate_callee (f:=66) rfl (L ?_));refine cl (some 19) Try.func66 (laws_eqCellS.calls _ _ _ _ _ _ _ _ _ S.c S.n S.c S.n A5) (hargs:=by (simp only [ma_,mb_,mc_,F] <;> rfl)) (h:=?_);rintro e W ⟨rfl,hb⟩;refine ⟨_,rfl,?_⟩;replace S:=S.go hb;clear F hb;have F:=S.fc) | ((with_reducible refine gate_callee (f:=21) rfl (L ?_));refine cl (some 25) Try.func21 (laws_eqIntS.calls _ _ _ _ _ _ _ _ _ S.c S.n S.c S.n A7) (hargs:=by (simp only [ma_,mb_,mc_,F] <;> rfl)) (h:=?_);rintro e W ⟨rfl,hb⟩;refine ⟨_,rfl,?_⟩;replace S:=S.gw hb;clear F hb;have F:=S.fc) | ((with_reducible refine gate_callee (f:=21) rfl (L ?_));refine cl (some 31) Try.func21 (laws_eqIntS.calls _ _ _ _ _ _ _ _ _ S.c S.n S.c S.n A9) (hargs:=by (simp only [ma_,mb_,mc_,F] <;> rfl)) (h:=?_);rintro e W ⟨rfl,hb⟩;refine ⟨_,rfl,?_⟩;replace S:=S.gw hb;clear F hb;have F:=S.fc))
           go_ret
           exact ⟨(by first | rfl | (simp [e0_,e1_] <;> rfl) | (simp [*,e0_,e1_] <;> rfl)),S.below⟩
       · skip
         replace c8:=cbf c8;subst c8
         obtain rfl:=Option.some.inj H
         go_enter Try.func18,Try.ntmps18
         go_wp2_with (first | ((with_reducible refine gd 2 rfl (L ?_));refine bo 2 (.agg #[_,_,_,_,_]) S ?_;clear S F;intro gb503 W S;have F:=S.fc) | ((with_reducible refine gd 3 rfl (L ?_));refine bo 3 (.agg #[_,_,_,_,_]) S ?_;clear S F;intro gb504 W S;have F:=S.fc) | ((with_reducible refine gate_callee (f:=66) rfl (L ?_));refine cl (some 19) Try.func66 (laws_eqCellS.calls _ _ _ _ _ _ _ _ _ S.c S.n S.c S.n A5) (hargs:=by (simp only [ma_,mb_,mc_,F] <;> rfl)) (h:=?_);rintro e W ⟨rfl,hb⟩;refine ⟨_,rfl,?_⟩;replace S:=S.go hb;clear F hb;have F:=S.fc) | ((with_reducible refine gate_callee (f:=21) rfl (L ?_));refine cl (some 25) Try.func21 (laws_eqIntS.calls _ _ _ _ _ _ _ _ _ S.c S.n S.c S.n A7) (hargs:=by (simp only [ma_,mb_,mc_,F] <;> rfl)) (h:=?_);rintro e W ⟨rfl,hb⟩;refine ⟨_,rfl,?_⟩;replace S:=S.gw hb;clear F hb;have F:=S.fc))
         go_ret
         exact ⟨(by first | rfl | (simp [e0_,e1_] <;> rfl) | (simp [*,e0_,e1_] <;> rfl)),S.below⟩
     · skip
       replace c6:=cbf c6;subst c6
       obtain rfl:=Option.some.inj H
       go_enter Try.func18,Try.ntmps18
       go_wp2_with (first | ((with_reducible refine gd 2 rfl (L ?_));refine bo 2 (.agg #[_,_,_,_,_]) S ?_;clear S F;intro gb503 W S;have F:=S.fc) | ((with_reducible refine gd 3 rfl (L ?_));refine bo 3 (.agg #[_,_,_,_,_]) S ?_;clear S F;intro gb504 W S;have F:=S.fc) | ((with_reducible refine gate_callee (f:=66) rfl (L ?_));refine cl (some 19) Try.func66 (laws_eqCellS.calls _ _ _ _ _ _ _ _ _ S.c S.n S.c S.n A5) (hargs:=by (simp only [ma_,mb_,mc_,F] <;> rfl)) (h:=?_);rintro e W ⟨rfl,hb⟩;refine ⟨_,rfl,?_⟩;replace S:=S.go hb;clear F hb;have F:=S.fc))
       go_ret
       exact ⟨(by first | rfl | (simp [e0_,e1_] <;> rfl) | (simp [*,e0_,e1_] <;> rfl)),S.below⟩
   · skip
     replace c4:=cne c4
     obtain rfl:=Option.some.inj H
     go_enter Try.func18,Try.ntmps18
     go_wp2_with (first | ((with_reducible refine gd 2 rfl (L ?_));refine bo 2 (.agg #[_,_,_,_,_]) S ?_;clear S F;intro gb503 W S;have F:=S.fc) | ((with_reducible refine gd 3 rfl (L ?_));refine bo 3 (.agg #[_,_,_,_,_]) S ?_;clear S F;intro gb504 W S;have F:=S.fc))
     go_ret
     exact ⟨(by first | rfl | (simp [e0_,e1_] <;> rfl) | (simp [*,e0_,e1_] <;> rfl)),S.below⟩
 · skip
   replace c3:=cne c3
   obtain rfl:=Option.some.inj H
   go_enter Try.func18,Try.ntmps18
   go_wp2_with (first | ((with_reducible refine gd 2 rfl (L ?_));refine bo 2 (.agg #[_,_,_,_,_]) S ?_;clear S F;intro gb503 W S;have F:=S.fc) | ((with_reducible refine gd 3 rfl (L ?_));refine bo 3 (.agg #[_,_,_,_,_]) S ?_;clear S F;intro gb504 W S;have F:=S.fc))
   go_ret
   exact ⟨(by first | rfl | (simp [e0_,e1_] <;> rfl) | (simp [*,e0_,e1_] <;> rfl)),S.below⟩

/-! ### laws_markIntS: function 23 -/
def laws_markIntS.l0:Nat→List Int→Int→Int→Option (Int × List Int)
  | 0,_,_,_=>none
  | k + 1,x0,x1,x5=>if x5 < (x0.length:Int) then (if 0 ≤ x5 then (laws_markIntS.l0 k (x0.set (x5:Int).toNat x1) (wrap64 (x1 + 1)) (wrap64 (x5 + 1))) else (none)) else (some (x1,x0))
def laws_markIntS.f (k:Nat) (l0:List Int) (a1:Int):Option (Int × List Int):=laws_markIntS.l0 k l0 a1 0
theorem laws_markIntS.calls (k:Nat) (P0_:Nat→Prop) (u9000_:Value) (l0:List Int) (a1:Int) (r1:Int) (r2:List Int) (w0 w:World) (hB:Below w0.heap.size w0 w) (ho0:Kd.R (Kd.int .i64) 3 w w0.heap.size P0_ u9000_ l0) (h:laws_markIntS.f k l0 a1 = some (r1,r2)) :
    Calls Try.prog 23 #[u9000_,.int .i64 a1] w fun e w'=>e = .returned (.int .i64 r1)∧Kd.R (Kd.int .i64) 3 w' w0.heap.size (fun k_=>(P0_ k_∨w.heap.size ≤ k_)) u9000_ r2∧Below w0.heap.size w0 w'∧Kept w w' (fun k_=>P0_ k_):=by
 obtain ⟨Al0,cl0,rfl⟩:=Kd.R_slice ho0
 have S:=St.own1 (atI .i64) hB ho0 dn
 clear hB ho0
 have F:=S.fc
 have H:=h;clear h;unfold laws_markIntS.f at H
 go_enter Try.func23,Try.ntmps23
 go_wp2_with (first | ((with_reducible refine gs (t:=3) rfl (L ?_));(first | refine sb (.int _ _) S sz3 ?_ | refine ro (.int _ _) S sz3 ?_ (ho:=rfl) (hx:=rfl) (hy:=rfl));(clear S F;intro W S;have F:=S.fc)))
 go_loopg [1,5] k (fun kq v1 v5 w'=>∃ (x0_1:List Int) (x1_1:Int) (x5_1:Int),v1 = .int .i64 x1_1∧v5 = .int .i64 x5_1∧laws_markIntS.l0 kq x0_1 x1_1 x5_1 = some (r1,r2)∧kq ≤ k∧St w0 w P0_ [] w'  [row (atI .i64) 3 Al0 l0.length cl0 x0_1])
 case atStart=>exact ⟨l0,a1,0,(by first | rfl | (simp;done) | (simp [*];done) | (rw [w6_ (by omega) (by omega)])),(by first | rfl | (simp;done) | (simp [*];done) | (rw [w6_ (by omega) (by omega)])),H,Nat.le_refl _,S⟩
 case round =>
  clear H S F
  obtain ⟨x0_1,x1_1,x5_1,rfl,rfl,HA,HK1,S⟩:=hrel
  have F:=S.fc
  cases gk with
  | zero=>exact absurd HA (by simp [laws_markIntS.l0])
  | succ k1 =>
   have H:=HA;clear HA;simp only [laws_markIntS.l0,F] at H
   replace H:=sp_ H;rcases H with ⟨c3,H⟩ | ⟨c3,H⟩
   · skip
     replace H:=np_ H;obtain ⟨c4,H⟩:=H
     (first | (with_reducible replace H:=ob_ H;obtain ⟨y619,hy619,H⟩:=H;(try dsimp only at H)) | (obtain ⟨y619,hy619⟩:∃ y_:List Int,y_ = (x0_1.set (x5_1:Int).toNat x1_1):=⟨_,rfl⟩;(try rw [← hy619] at H);(try simp only [Option.bind_some] at H)));have Ny619:=Aside0.mk hy619;clear hy619
     go_wp2_with (first | ((with_reducible refine gs (t:=3) rfl (L ?_));(first | refine sb (.int _ _) S sz3 ?_ | refine ro (.int _ _) S sz3 ?_ (ho:=rfl) (hx:=rfl) (hy:=rfl));clear S F;intro W S;(try rw [← Ny619.out] at S);have F:=S.fc))
     go_roundg k1
     case measure=>omega
     case rel=>exact ⟨y619,(wrap64 (x1_1 + 1)),(wrap64 (x5_1 + 1)),(by first | rfl | (simp;done) | (simp [*];done) | (rw [w6_ (by omega) (by omega)])),(by first | rfl | (simp;done) | (simp [*];done) | (rw [w6_ (by omega) (by omega)])),H,(by first | omega | exact Nat.le_refl _),S⟩
   · skip
     simp only [Option.some.injEq,Prod.mk.injEq] at H
     obtain ⟨rfl,rfl⟩:=H
     go_wp2_with (first | ((with_reducible refine gs (t:=3) rfl (L ?_));(first | refine sb (.int _ _) S sz3 ?_ | refine ro (.int _ _) S sz3 ?_ (ho:=rfl) (hx:=rfl) (hy:=rfl));(clear S F;intro W S;have F:=S.fc)))
     go_ret
     exact ⟨(by first | rfl | (simp [e0_,e1_] <;> rfl) | (simp [*,e0_,e1_] <;> rfl)),(by first | exact S.rp | exact Kd.R_nil _ _ _ _ _),S.below,S.kept⟩

/-! ### laws_markCellS: function 70 -/
def laws_markCellS.l0:Nat→List (S88)→Int→Int→Option (Int × (List (S88)))
  | 0,_,_,_=>none
  | k + 1,x0,x1,x5=>if x5 < (x0.length:Int) then (if 0 ≤ x5 then ((some (x0.set (x5:Int).toNat (⟨x1,(rd_T88 x0 x5).f1⟩:S88):List (S88))).bind fun y620=>(laws_markCellS.l0 k (y620.set (x5:Int).toNat (⟨(rd_T88 y620 x5).f0,wrap64 (x1 + 1)⟩:S88)) (wrap64 ((wrap64 (x1 + 1)) + 1)) (wrap64 (x5 + 1)))) else (none)) else (some (x1,x0))
def laws_markCellS.f (k:Nat) (l0:List (S88)) (a1:Int):Option (Int × (List (S88))):=laws_markCellS.l0 k l0 a1 0
theorem laws_markCellS.calls (k:Nat) (P0_:Nat→Prop) (u9000_:Value) (l0:List (S88)) (a1:Int) (r1:Int) (r2:List (S88)) (w0 w:World) (hB:Below w0.heap.size w0 w) (ho0:Kd.R k88 88 w w0.heap.size P0_ u9000_ l0) (h:laws_markCellS.f k l0 a1 = some (r1,r2)) :
    Calls Try.prog 70 #[u9000_,.int .i64 a1] w fun e w'=>e = .returned (.int .i64 r1)∧Kd.R k88 88 w' w0.heap.size (fun k_=>(P0_ k_∨w.heap.size ≤ k_)) u9000_ r2∧Below w0.heap.size w0 w'∧Kept w w' (fun k_=>P0_ k_):=by
 obtain ⟨Al0,cl0,rfl⟩:=Kd.R_slice ho0
 have S:=St.own1 at88 hB ho0 dn
 clear hB ho0
 have F:=S.fc
 have H:=h;clear h;unfold laws_markCellS.f at H
 go_enter Try.func70,Try.ntmps70
 go_wp2_with (first | ((with_reducible refine gs (t:=3) rfl (L ?_));(first | refine sb (.int _ _) S sz3 ?_ | refine ro (.int _ _) S sz3 ?_ (ho:=rfl) (hx:=rfl) (hy:=rfl));clear S F;intro W S;(try simp only [gd88] at S);have F:=S.fc))
 go_loopg [1,5] k (fun kq v1 v5 w'=>∃ (x0_1:List (S88)) (x1_1:Int) (x5_1:Int),v1 = .int .i64 x1_1∧v5 = .int .i64 x5_1∧laws_markCellS.l0 kq x0_1 x1_1 x5_1 = some (r1,r2)∧kq ≤ k∧St w0 w P0_ [] w'  [row at88 88 Al0 l0.length cl0 x0_1])
 case atStart=>exact ⟨l0,a1,0,(by first | rfl | (simp;done) | (simp [*];done) | (rw [w6_ (by omega) (by omega)])),(by first | rfl | (simp;done) | (simp [*];done) | (rw [w6_ (by omega) (by omega)])),H,Nat.le_refl _,S⟩
 case round =>
  clear H S F
  obtain ⟨x0_1,x1_1,x5_1,rfl,rfl,HA,HK1,S⟩:=hrel
  have F:=S.fc
  cases gk with
  | zero=>exact absurd HA (by simp [laws_markCellS.l0])
  | succ k1 =>
   have H:=HA;clear HA;simp only [laws_markCellS.l0,F] at H
   replace H:=sp_ H;rcases H with ⟨c3,H⟩ | ⟨c3,H⟩
   · skip
     replace H:=np_ H;obtain ⟨c4,H⟩:=H
     (first | (with_reducible replace H:=ob_ H;obtain ⟨y620,hy620,H⟩:=H;(try dsimp only at H)) | (obtain ⟨y620,hy620⟩:∃ y_:List (S88),y_ = (x0_1.set (x5_1:Int).toNat (⟨x1_1,(rd_T88 x0_1 x5_1).f1⟩:S88)):=⟨_,rfl⟩;(try rw [← hy620] at H);(try simp only [Option.bind_some] at H)));have Ny620:=Aside0.mk hy620;clear hy620
     (first | (with_reducible replace H:=ob_ H;obtain ⟨y621,hy621,H⟩:=H;(try dsimp only at H)) | (obtain ⟨y621,hy621⟩:∃ y_:List (S88),y_ = (y620.set (x5_1:Int).toNat (⟨(rd_T88 y620 x5_1).f0,wrap64 (x1_1 + 1)⟩:S88)):=⟨_,rfl⟩;(try rw [← hy621] at H);(try simp only [Option.bind_some] at H)));have Ny621:=Aside0.mk hy621;clear hy621
     go_wp2_with (first | ((with_reducible refine gs (t:=3) rfl (L ?_));(first | refine sb (.int _ _) S sz3 ?_ | refine ro (.int _ _) S sz3 ?_ (ho:=rfl) (hx:=rfl) (hy:=rfl));clear S F;intro W S;(try simp only [gd88] at S);(try rw [← Ny620.out] at S);(try rw [← Ny621.out] at S);have F:=S.fc))
     go_roundg k1
     case measure=>omega
     case rel=>exact ⟨y621,(wrap64 ((wrap64 (x1_1 + 1)) + 1)),(wrap64 (x5_1 + 1)),(by first | rfl | (simp;done) | (simp [*];done) | (rw [w6_ (by omega) (by omega)])),(by first | rfl | (simp;done) | (simp [*];done) | (rw [w6_ (by omega) (by omega)])),H,(by first | omega | exact Nat.le_refl _),S⟩
   · skip
     simp only [Option.some.injEq,Prod.mk.injEq] at H
     obtain ⟨rfl,rfl⟩:=H
     go_wp2_with (first | ((with_reducible refine gs (t:=3) rfl (L ?_));(first | refine sb (.int _ _) S sz3 ?_ | refine ro (.int _ _) S sz3 ?_ (ho:=rfl) (hx:=rfl) (hy:=rfl));clear S F;intro W S;(try simp only [gd88] at S);have F:=S.fc))
     go_ret
     exact ⟨(by first | rfl | (simp [e0_,e1_] <;> rfl) | (simp [*,e0_,e1_] <;> rfl)),(by first | exact S.rp | exact Kd.R_nil _ _ _ _ _),S.below,S.kept⟩

/-! ### laws_markChallenge: function 22 -/
def laws_markChallenge.f (k:Nat) (a0_0:Int) (a0_1:Int) (l0_2:List (S88)) (l0_3:List Int) (l0_4:List Int) (a1:Int):Option (Int × (List (S88)) × List Int × List Int):=(laws_markCellS.f k l0_2 a1).bind fun bt623=>((laws_markIntS.f k l0_3 bt623.1).bind fun bt625=>((laws_markIntS.f k l0_4 bt625.1).bind fun bt627=>(some (bt627.1,bt623.2,bt625.2,bt627.2))))
theorem laws_markChallenge.calls (k:Nat) (a0_0:Int) (a0_1:Int) (P0_2_:Nat→Prop) (u9000_:Value) (l0_2:List (S88)) (P0_3_:Nat→Prop) (u9001_:Value) (l0_3:List Int) (P0_4_:Nat→Prop) (u9002_:Value) (l0_4:List Int) (a1:Int) (r1:Int) (r2:List (S88)) (r3:List Int) (r4:List Int) (w0 w:World) (hB:Below w0.heap.size w0 w) (ho0_2:Kd.R k88 88 w w0.heap.size P0_2_ u9000_ l0_2) (ho0_3:Kd.R (Kd.int .i64) 3 w w0.heap.size P0_3_ u9001_ l0_3) (hp0_3_0_4:∀ k_,P0_3_ k_→¬ P0_4_ k_) (ho0_4:Kd.R (Kd.int .i64) 3 w w0.heap.size P0_4_ u9002_ l0_4) (hp0_4_0_3:∀ k_,P0_4_ k_→¬ P0_3_ k_) (h:laws_markChallenge.f k a0_0 a0_1 l0_2 l0_3 l0_4 a1 = some (r1,r2,r3,r4)) :
  Calls Try.prog 22 #[.agg #[.int .i64 a0_0,.int .i64 a0_1,u9000_,u9001_,u9002_],.int .i64 a1] w fun e w'=>e = .returned (.int .i64 r1)∧Kd.R k88 88 w' w0.heap.size (fun k_=>((P0_2_ k_∨P0_3_ k_∨P0_4_ k_)∨w.heap.size ≤ k_)) u9000_ r2∧Kd.R (Kd.int .i64) 3 w' w0.heap.size (fun k_=>((P0_2_ k_∨P0_3_ k_∨P0_4_ k_)∨w.heap.size ≤ k_)) u9001_ r3∧Kd.R (Kd.int .i64) 3 w' w0.heap.size (fun k_=>((P0_2_ k_∨P0_3_ k_∨P0_4_ k_)∨w.heap.size ≤ k_)) u9002_ r4∧Below w0.heap.size w0 w'∧Kept w w' (fun k_=>P0_2_ k_∨P0_3_ k_∨P0_4_ k_):=by
 have HO0_2:=Aside0.mk (show Kd.R k88 88 w w0.heap.size (fun k_=>((P0_2_ k_∨P0_3_ k_∨P0_4_ k_)∨w.heap.size ≤ k_)) u9000_ l0_2 from Kd.R_mono ho0_2 (fun k_ hk=>(.inl (.inl hk))));have HO0_3:=Aside0.mk (show Kd.R (Kd.int .i64) 3 w w0.heap.size (fun k_=>((P0_2_ k_∨P0_3_ k_∨P0_4_ k_)∨w.heap.size ≤ k_)∧some k_ ≠ (u9002_:Value).ownBlock) u9001_ l0_3 from Kd.R_mono ho0_3 (fun k_ hk=>⟨(.inl (.inr (.inl hk))),fun e_=>hp0_3_0_4 k_ hk (ho0_4.1 k_ e_.symm)⟩));have HO0_4:=Aside0.mk (show Kd.R (Kd.int .i64) 3 w w0.heap.size (fun k_=>((P0_2_ k_∨P0_3_ k_∨P0_4_ k_)∨w.heap.size ≤ k_)∧some k_ ≠ (u9001_:Value).ownBlock) u9002_ l0_4 from Kd.R_mono ho0_4 (fun k_ hk=>⟨(.inl (.inr (.inr hk))),fun e_=>hp0_4_0_3 k_ hk (ho0_3.1 k_ e_.symm)⟩));have HK:=Aside0.mk (Kept.refl w (fun k_=>P0_2_ k_∨P0_3_ k_∨P0_4_ k_));have HW0:=Aside0.mk hB.size;have HB:=Aside0.mk hB;clear hB;have H:((laws_markCellS.f k l0_2 a1).bind fun bt623=>((laws_markIntS.f k l0_3 bt623.1).bind fun bt625=>((laws_markIntS.f k l0_4 bt625.1).bind fun bt627=>(some (bt627.1,bt623.2,bt625.2,bt627.2))))) = some (r1,r2,r3,r4):=h;clear h;replace H:=Option.bind_eq_some_iff.mp H;obtain ⟨⟨t623,t624⟩,A30,H⟩:=H;(try dsimp only at H)
 have A3:=Aside0.mk A30;clear A30;replace H:=Option.bind_eq_some_iff.mp H;obtain ⟨⟨t625,t626⟩,A40,H⟩:=H;(try dsimp only at H)
 have A4:=Aside0.mk A40;clear A40;replace H:=Option.bind_eq_some_iff.mp H;obtain ⟨⟨t627,t628⟩,A50,H⟩:=H;(try dsimp only at H)
 have A5:=Aside0.mk A50;clear A50;simp only [Option.some.injEq,Prod.mk.injEq] at H;obtain ⟨rfl,rfl,rfl,rfl⟩:=H;obtain ⟨Ao6,co6,eo6⟩:=Kd.R_slice HO0_2.out;subst eo6;obtain ⟨Ao7,co7,eo7⟩:=Kd.R_slice HO0_3.out;subst eo7;obtain ⟨Ao8,co8,eo8⟩:=Kd.R_slice HO0_4.out;subst eo8;go_enter Try.func22,Try.ntmps22;go_wp2_with (first | ((with_reducible refine gate_dst (N:=2) rfl ?_);refine box_event ?hg (N:=2) ?hd (cs:=#[.int .i64 a0_0,.int .i64 a0_1,.slice Ao6 l0_2.length co6,.slice Ao7 l0_3.length co7,.slice Ao8 l0_4.length co8]) (t:=31) ?hr ?_;(case hd=>rfl);(case hg=>rfl);(case hr=>first | (go_simp;done) | (go_simp;rfl));intro gb622 hg w9 hbox hb;refine ev8 (Kd.R_below (Kd.R_mv HO0_2.out) hb) (Kd.R_below (Kd.R_mv HO0_3.out) hb) (Kd.R_below (Kd.R_mv HO0_4.out) hb) (Kept.below (S:=(fun k_=>P0_2_ k_∨P0_3_ k_∨P0_4_ k_)) (km HK) hb) (bs HB hb) (hbox) ((by rw [hg];exact (by first | exact HK.out.1 | exact (show Kept w _ (fun k_=>P0_2_ k_∨P0_3_ k_∨P0_4_ k_) from km HK).1):w.heap.size ≤ gb622)) (gle hg HB) ?_;clear HO0_2 HO0_3 HO0_4 HK HB;intro HO0_2 HO0_3 HO0_4 HK HB BK622 GW622 GE622;clear hb hbox hg;obtain ⟨hcz10_0,hcz10_1,hcz10_2,hcz10_3,hcz10_4,hfz10_0,hfz10_1,hfz10_2,hfz10_3,hfz10_4⟩:=bt5 BK622) | ((with_reducible refine gate_callee (f:=70) rfl ?_);refine gL_ (some 8) Try.func70 #[.slice Ao6 l0_2.length co6,.int .i64 a1] (h:=?_);(with_reducible refine (laws_markCellS.calls k (fun k_=>some k_ = (.slice Ao6 l0_2.length co6:Value).ownBlock) (.slice Ao6 l0_2.length co6) l0_2 a1 t623 t624 w0 _ (bm HB) ?side2 A3.out).mono ?_);(case side2=>exact Kd.R_tight rfl HO0_2.out);rintro e w11 ⟨rfl,hy0,hb,hkp⟩;refine ⟨_,rfl,?_⟩;refine ev6 (Kd.R_reok rfl hy0 (fun k_ e_=>HO0_2.out.1 k_ e_)) (Kd.R_mono (ok':=fun k_=>((P0_2_ k_∨P0_3_ k_∨P0_4_ k_)∨w.heap.size ≤ k_)∧some k_ ≠ (.slice Ao8 l0_4.length co8:Value).ownBlock) (Kd.R_keptB ((Kd.R_apart' HO0_3.out (Kd.R_typed HO0_2.out) (by decide))) hkp (fun k_ hk_ hs_=>(hk_.2) hs_)) (fun k_ hk_=>⟨hk_.1.1.1,hk_.1.1.2⟩)) (Kd.R_mono (ok':=fun k_=>((P0_2_ k_∨P0_3_ k_∨P0_4_ k_)∨w.heap.size ≤ k_)∧some k_ ≠ (.slice Ao7 l0_3.length co7:Value).ownBlock) (Kd.R_keptB ((Kd.R_apart' HO0_4.out (Kd.R_typed HO0_2.out) (by decide))) hkp (fun k_ hk_ hs_=>(hk_.2) hs_)) (fun k_ hk_=>⟨hk_.1.1.1,hk_.1.1.2⟩)) (blk_kept (km_ BK622) hkp (fun hs_=>(fun e_=>(Kd.R_ne HO0_2.out BK622.out (by decide)) e_) hs_)) (Kept.then_ (S:=(fun k_=>P0_2_ k_∨P0_3_ k_∨P0_4_ k_)) (km HK) hkp (fun k_ hs_=>(fun e_=>(HO0_2.out.1 k_ e_.symm)) hs_)) (hb) ?_;clear HO0_2 HO0_3 HO0_4 BK622 HK HB;intro HO0_2 HO0_3 HO0_4 BK622 HK HB;(try clear hb);(try clear hkp);(try clear hy0);obtain ⟨hcz12_0,hcz12_1,hcz12_2,hcz12_3,hcz12_4,hfz12_0,hfz12_1,hfz12_2,hfz12_3,hfz12_4⟩:=bt5 BK622) | ((with_reducible refine gate_callee (f:=23) rfl ?_);refine gL_ (some 12) Try.func23 #[.slice Ao7 l0_3.length co7,.int .i64 t623] (h:=?_);(with_reducible refine (laws_markIntS.calls k (fun k_=>some k_ = (.slice Ao7 l0_3.length co7:Value).ownBlock) (.slice Ao7 l0_3.length co7) l0_3 t623 t625 t626 w0 _ (bm HB) ?side2 A4.out).mono ?_);(case side2=>exact Kd.R_tight rfl HO0_3.out);rintro e w13 ⟨rfl,hy0,hb,hkp⟩;refine ⟨_,rfl,?_⟩;refine ev6 (Kd.R_mono (ok':=fun k_=>((P0_2_ k_∨P0_3_ k_∨P0_4_ k_)∨w.heap.size ≤ k_)) (Kd.R_keptB ((Kd.R_apart' HO0_2.out (Kd.R_typed HO0_3.out) (by decide))) hkp (fun k_ hk_ hs_=>(hk_.2) hs_)) (fun k_ hk_=>hk_.1.1)) (Kd.R_reok rfl hy0 (fun k_ e_=>HO0_3.out.1 k_ e_)) (Kd.R_mono (ok':=fun k_=>((P0_2_ k_∨P0_3_ k_∨P0_4_ k_)∨w.heap.size ≤ k_)∧some k_ ≠ (.slice Ao7 l0_3.length co7:Value).ownBlock) (Kd.R_keptB (HO0_4.out) hkp (fun k_ hk_ hs_=>(hk_.2) hs_)) (fun k_ hk_=>⟨hk_.1.1,hk_.1.2⟩)) (blk_kept (km_ BK622) hkp (fun hs_=>(fun e_=>(Kd.R_ne HO0_3.out BK622.out (by decide)) e_) hs_)) (Kept.then_ (S:=(fun k_=>P0_2_ k_∨P0_3_ k_∨P0_4_ k_)) (km HK) hkp (fun k_ hs_=>(fun e_=>(HO0_3.out.1 k_ e_.symm).1) hs_)) (hb) ?_;clear HO0_2 HO0_3 HO0_4 BK622 HK HB;intro HO0_2 HO0_3 HO0_4 BK622 HK HB;(try clear hb);(try clear hkp);(try clear hy0);obtain ⟨hcz14_0,hcz14_1,hcz14_2,hcz14_3,hcz14_4,hfz14_0,hfz14_1,hfz14_2,hfz14_3,hfz14_4⟩:=bt5 BK622) | ((with_reducible refine gate_callee (f:=23) rfl ?_);refine gL_ (some 16) Try.func23 #[.slice Ao8 l0_4.length co8,.int .i64 t625] (h:=?_);(with_reducible refine (laws_markIntS.calls k (fun k_=>some k_ = (.slice Ao8 l0_4.length co8:Value).ownBlock) (.slice Ao8 l0_4.length co8) l0_4 t625 t627 t628 w0 _ (bm HB) ?side2 A5.out).mono ?_);(case side2=>exact Kd.R_tight rfl HO0_4.out);rintro e w15 ⟨rfl,hy0,hb,hkp⟩;refine ⟨_,rfl,?_⟩;refine ev6 (Kd.R_mono (ok':=fun k_=>((P0_2_ k_∨P0_3_ k_∨P0_4_ k_)∨w.heap.size ≤ k_)) (Kd.R_keptB ((Kd.R_apart' HO0_2.out (Kd.R_typed HO0_4.out) (by decide))) hkp (fun k_ hk_ hs_=>(hk_.2) hs_)) (fun k_ hk_=>hk_.1.1)) (Kd.R_mono (ok':=fun k_=>((P0_2_ k_∨P0_3_ k_∨P0_4_ k_)∨w.heap.size ≤ k_)∧some k_ ≠ (.slice Ao8 l0_4.length co8:Value).ownBlock) (Kd.R_keptB (HO0_3.out) hkp (fun k_ hk_ hs_=>(hk_.2) hs_)) (fun k_ hk_=>⟨hk_.1.1,hk_.1.2⟩)) (Kd.R_reok rfl hy0 (fun k_ e_=>HO0_4.out.1 k_ e_)) (blk_kept (km_ BK622) hkp (fun hs_=>(fun e_=>(Kd.R_ne HO0_4.out BK622.out (by decide)) e_) hs_)) (Kept.then_ (S:=(fun k_=>P0_2_ k_∨P0_3_ k_∨P0_4_ k_)) (km HK) hkp (fun k_ hs_=>(fun e_=>(HO0_4.out.1 k_ e_.symm).1) hs_)) (hb) ?_;clear HO0_2 HO0_3 HO0_4 BK622 HK HB;intro HO0_2 HO0_3 HO0_4 BK622 HK HB;(try clear hb);(try clear hkp);(try clear hy0)))
 go_ret;exact ⟨by first | rfl | (simp [e0_,e1_] <;> rfl) | (simp [*,e0_,e1_] <;> rfl),Kd.R_mv HO0_2.out,Kd.R_mv (Kd.R_mono (ok':=fun k_=>(((P0_2_ k_∨P0_3_ k_∨P0_4_ k_)∨w.heap.size ≤ k_))) HO0_3.out (fun _ hk=>hk.1)),Kd.R_mv (Kd.R_mono (ok':=fun k_=>(((P0_2_ k_∨P0_3_ k_∨P0_4_ k_)∨w.heap.size ≤ k_))) HO0_4.out (fun _ hk=>hk.1)),bm HB,km HK⟩
end Go.Proofs.Ytipaimgpmgbkiaa.F
