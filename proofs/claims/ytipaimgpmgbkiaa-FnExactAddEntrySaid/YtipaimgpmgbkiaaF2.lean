-- Printed by a program; checked here.
import Derived.Test.YtipaimgpmgbkiaaF0
import Derived.Test.YtipaimgpmgbkiaaF1
namespace Go.Proofs.Ytipaimgpmgbkiaa.F
open Go.RowKit Go.Proofs.YtipaimgpmgbkiaaV.PrintWords Go.Proofs.YtipaimgpmgbkiaaV.PrintLast Go.Proofs.YtipaimgpmgbkiaaV.PrintMore Go.Proofs.YtipaimgpmgbkiaaV.Sl Go.Proofs.YtipaimgpmgbkiaaV.Rf
attribute [local go_sem] max2_int min2_int max_two min_two max_three min_three max_four min_four ia_opt it_opt
attribute [local go_sem] Try.underlying4 Try.underlying23 Try.underlying25 Try.underlying29 Try.underlying31 Try.underlying41 Try.underlying42 Try.underlying46 Try.underlying50 Try.underlying63 Try.underlying85 Try.underlying88 Try.underlying89 Try.underlying106 Try.underlying122 Try.underlying127
set_option maxHeartbeats 8000000
set_option maxRecDepth 100000
set_option linter.unusedVariables false
set_option linter.unusedSimpArgs false

attribute [local go_sem high] eqA88
/-! ### laws_szCellS: function 58 -/
def laws_szCellS.f (l0:List (S106)) (a1:Int):Option (Int):=if (wrap64 (a1 - (l0.length:Int))) < 0 then (some (-1)) else (some (wrap64 (a1 - (l0.length:Int))))
theorem laws_szCellS.calls (A0:Option Addr) (c0:Nat) (l0:List (S106)) (a1:Int) (r:Int) (w:World) (hr0:Kd.C k106 w A0 l0.length l0) (hc0:l0.length ≤ c0) (h:laws_szCellS.f l0 a1 = some r) :
  Calls Try.prog 58 #[.slice A0 l0.length c0,.int .i64 a1] w fun e w'=>e = .returned (.int .i64 r)∧Drawn0 w w':=by
 have HR0:=Aside0.mk hr0;have HC0:=Aside0.mk hc0;clear hr0 hc0;have H:(if (wrap64 (a1 - (l0.length:Int))) < 0 then (some (-1)) else (some (wrap64 (a1 - (l0.length:Int))))) = some r:=h;clear h;by_cases c3:(wrap64 (a1 - (l0.length:Int))) < 0
 ·rw [if_pos c3] at H;have c3b0:decide ((wrap64 (a1 - (l0.length:Int))) < 0) = true:=decide_eq_true c3;clear c3;obtain rfl:=Option.some.inj H;go_enter Try.func58,Try.ntmps58;go_wp2;go_ret;exact ⟨by first | rfl | (simp;done) | (simp [*];done),by repeat (first | exact Drawn0.refl _ | apply Drawn0.step)⟩
 ·rw [if_neg c3] at H;have c3b0:decide ((wrap64 (a1 - (l0.length:Int))) < 0) = false:=decide_eq_false c3;clear c3;obtain rfl:=Option.some.inj H;go_enter Try.func58,Try.ntmps58;go_wp2;go_ret;exact ⟨by first | rfl | (simp;done) | (simp [*];done),by repeat (first | exact Drawn0.refl _ | apply Drawn0.step)⟩

/-! ### laws_szIntS: function 59 -/
def laws_szIntS.f (l0:List Int) (a1:Int):Option (Int):=if (wrap64 (a1 - (l0.length:Int))) < 0 then (some (-1)) else (some (wrap64 (a1 - (l0.length:Int))))
theorem laws_szIntS.calls (A0:Option Addr) (c0:Nat) (l0:List Int) (a1:Int) (r:Int) (w:World) (hr0:Kd.C (Kd.int .i64) w A0 l0.length l0) (hc0:l0.length ≤ c0) (h:laws_szIntS.f l0 a1 = some r) :
  Calls Try.prog 59 #[.slice A0 l0.length c0,.int .i64 a1] w fun e w'=>e = .returned (.int .i64 r)∧Drawn0 w w':=by
 have HR0:=Aside0.mk hr0;have HC0:=Aside0.mk hc0;clear hr0 hc0;have H:(if (wrap64 (a1 - (l0.length:Int))) < 0 then (some (-1)) else (some (wrap64 (a1 - (l0.length:Int))))) = some r:=h;clear h;by_cases c3:(wrap64 (a1 - (l0.length:Int))) < 0
 ·rw [if_pos c3] at H;have c3b0:decide ((wrap64 (a1 - (l0.length:Int))) < 0) = true:=decide_eq_true c3;clear c3;obtain rfl:=Option.some.inj H;go_enter Try.func59,Try.ntmps59;go_wp2;go_ret;exact ⟨by first | rfl | (simp;done) | (simp [*];done),by repeat (first | exact Drawn0.refl _ | apply Drawn0.step)⟩
 ·rw [if_neg c3] at H;have c3b0:decide ((wrap64 (a1 - (l0.length:Int))) < 0) = false:=decide_eq_false c3;clear c3;obtain rfl:=Option.some.inj H;go_enter Try.func59,Try.ntmps59;go_wp2;go_ret;exact ⟨by first | rfl | (simp;done) | (simp [*];done),by repeat (first | exact Drawn0.refl _ | apply Drawn0.step)⟩

/-! ### laws_szChallenge: function 14 -/
def laws_szChallenge.f (a0_0:Int) (a0_1:Int) (l0_2:List (S106)) (l0_3:List Int) (l0_4:List Int) (a1:Int):Option (Int):=(laws_szCellS.f l0_2 a1).bind fun t102=>(if t102 < 0 then (some (-1)) else ((laws_szIntS.f l0_3 t102).bind fun t103=>(if t103 < 0 then (some (-1)) else ((laws_szIntS.f l0_4 t103).bind fun t104=>(if t104 < 0 then (some (-1)) else (some t104))))))
theorem laws_szChallenge.calls (a0_0:Int) (a0_1:Int) (A0_2:Option Addr) (c0_2:Nat) (l0_2:List (S106)) (A0_3:Option Addr) (c0_3:Nat) (l0_3:List Int) (A0_4:Option Addr) (c0_4:Nat) (l0_4:List Int) (a1:Int) (r:Int) (w:World) (hr0_2:Kd.C k106 w A0_2 l0_2.length l0_2) (hc0_2:l0_2.length ≤ c0_2) (hr0_3:Kd.C (Kd.int .i64) w A0_3 l0_3.length l0_3) (hc0_3:l0_3.length ≤ c0_3) (hr0_4:Kd.C (Kd.int .i64) w A0_4 l0_4.length l0_4) (hc0_4:l0_4.length ≤ c0_4) (h:laws_szChallenge.f a0_0 a0_1 l0_2 l0_3 l0_4 a1 = some r) :
    Calls Try.prog 14 #[.agg #[.int .i64 a0_0,.int .i64 a0_1,.slice A0_2 l0_2.length c0_2,.slice A0_3 l0_3.length c0_3,.slice A0_4 l0_4.length c0_4],.int .i64 a1] w fun e w'=>e = .returned (.int .i64 r)∧Below w.heap.size w w':=by
 have S:=St.init (w:=w) (dc k106_heap at106 hr0_2 hc0_2 (dc (Kd.heap_int .i64) (atI .i64) hr0_3 hc0_3 (dc (Kd.heap_int .i64) (atI .i64) hr0_4 hc0_4 dn)))
 clear hr0_2 hc0_2 hr0_3 hc0_3 hr0_4 hc0_4
 have F:=S.fc
 have H:=h;clear h;unfold laws_szChallenge.f at H
 replace H:=Option.bind_eq_some_iff.mp H;obtain ⟨t102,A3,H⟩:=H;(try dsimp only at H)
 replace H:=sp_ H;rcases H with ⟨c4,H⟩ | ⟨c4,H⟩
 · skip
   obtain rfl:=Option.some.inj H
   go_enter Try.func14,Try.ntmps14
   go_wp2_with (first | ((with_reducible refine gd 2 rfl (L ?_));refine bo 2 (.agg #[_,_,_,_,_]) S ?_;clear S F;intro gb101 W S;have F:=S.fc) | ((with_reducible refine gate_callee (f:=58) rfl (L ?_));refine cl (some 8) Try.func58 (laws_szCellS.calls _ _ _ _ _ _ S.c S.n A3) (hargs:=by (simp only [ma_,mb_,mc_,F] <;> rfl)) (h:=?_);rintro e W ⟨rfl,hb⟩;refine ⟨_,rfl,?_⟩;replace S:=S.gw hb;clear F hb;have F:=S.fc))
   go_ret
   exact ⟨(by first | rfl | (simp [e0_,e1_] <;> rfl) | (simp [*,e0_,e1_] <;> rfl)),S.below⟩
 · skip
   replace H:=Option.bind_eq_some_iff.mp H;obtain ⟨t103,A7,H⟩:=H;(try dsimp only at H)
   replace H:=sp_ H;rcases H with ⟨c8,H⟩ | ⟨c8,H⟩
   · skip
     obtain rfl:=Option.some.inj H
     go_enter Try.func14,Try.ntmps14
     go_wp2_with (first | ((with_reducible refine gd 2 rfl (L ?_));refine bo 2 (.agg #[_,_,_,_,_]) S ?_;clear S F;intro gb101 W S;have F:=S.fc) | ((with_reducible refine gate_callee (f:=58) rfl (L ?_));refine cl (some 8) Try.func58 (laws_szCellS.calls _ _ _ _ _ _ S.c S.n A3) (hargs:=by (simp only [ma_,mb_,mc_,F] <;> rfl)) (h:=?_);rintro e W ⟨rfl,hb⟩;refine ⟨_,rfl,?_⟩;replace S:=S.gw hb;clear F hb;have F:=S.fc) | ((with_reducible refine gate_callee (f:=59) rfl (L ?_));refine cl (some 14) Try.func59 (laws_szIntS.calls _ _ _ _ _ _ S.c S.n A7) (hargs:=by (simp only [ma_,mb_,mc_,F] <;> rfl)) (h:=?_);rintro e W ⟨rfl,hb⟩;refine ⟨_,rfl,?_⟩;replace S:=S.gw hb;clear F hb;have F:=S.fc))
     go_ret
     exact ⟨(by first | rfl | (simp [e0_,e1_] <;> rfl) | (simp [*,e0_,e1_] <;> rfl)),S.below⟩
   · skip
     replace H:=Option.bind_eq_some_iff.mp H;obtain ⟨t104,A11,H⟩:=H;(try dsimp only at H)
     replace H:=sp_ H;rcases H with ⟨c12,H⟩ | ⟨c12,H⟩
     · skip
       obtain rfl:=Option.some.inj H
       go_enter Try.func14,Try.ntmps14
       go_wp2_with (first | ((with_reducible refine gd 2 rfl (L ?_));refine bo 2 (.agg #[_,_,_,_,_]) S ?_;clear S F;intro gb101 W S;have F:=S.fc) | ((with_reducible refine gate_callee (f:=58) rfl (L ?_));refine cl (some 8) Try.func58 (laws_szCellS.calls _ _ _ _ _ _ S.c S.n A3) (hargs:=by (simp only [ma_,mb_,mc_,F] <;> rfl)) (h:=?_);rintro e W ⟨rfl,hb⟩;refine ⟨_,rfl,?_⟩;replace S:=S.gw hb;clear F hb;have F:=S.fc) | ((with_reducible refine gate_callee (f:=59) rfl (L ?_));refine cl (some 14) Try.func59 (laws_szIntS.calls _ _ _ _ _ _ S.c S.n A7) (hargs:=by (simp only [ma_,mb_,mc_,F] <;> rfl)) (h:=?_);rintro e W ⟨rfl,hb⟩;refine ⟨_,rfl,?_⟩;replace S:=S.gw hb;clear F hb;have F:=S.fc) | ((with_reducible refine gate_callee (f:=59) rfl (L ?_));refine cl (some 20) Try.func59 (laws_szIntS.calls _ _ _ _ _ _ S.c S.n A11) (hargs:=by (simp only [ma_,mb_,mc_,F] <;> rfl)) (h:=?_);rintro e W ⟨rfl,hb⟩;refine ⟨_,rfl,?_⟩;replace S:=S.gw hb;clear F hb;have F:=S.fc))
       go_ret
       exact ⟨(by first | rfl | (simp [e0_,e1_] <;> rfl) | (simp [*,e0_,e1_] <;> rfl)),S.below⟩
     · skip
       obtain rfl:=Option.some.inj H
       go_enter Try.func14,Try.ntmps14
       go_wp2_with (first | ((with_reducible refine gd 2 rfl (L ?_));refine bo 2 (.agg #[_,_,_,_,_]) S ?_;clear S F;intro gb101 W S;have F:=S.fc) | ((with_reducible refine gate_callee (f:=58) rfl (L ?_));refine cl (some 8) Try.func58 (laws_szCellS.calls _ _ _ _ _ _ S.c S.n A3) (hargs:=by (simp only [ma_,mb_,mc_,F] <;> rfl)) (h:=?_);rintro e W ⟨rfl,hb⟩;refine ⟨_,rfl,?_⟩;replace S:=S.gw hb;clear F hb;have F:=S.fc) | ((with_reducible refine gate_callee (f:=59) rfl (L ?_));refine cl (some 14) Try.func59 (laws_szIntS.calls _ _ _ _ _ _ S.c S.n A7) (hargs:=by (simp only [ma_,mb_,mc_,F] <;> rfl)) (h:=?_);rintro e W ⟨rfl,hb⟩;refine ⟨_,rfl,?_⟩;replace S:=S.gw hb;clear F hb;have F:=S.fc) | ((with_reducible refine gate_callee (f:=59) rfl (L ?_));refine cl (some 20) Try.func59 (laws_szIntS.calls _ _ _ _ _ _ S.c S.n A11) (hargs:=by (simp only [ma_,mb_,mc_,F] <;> rfl)) (h:=?_);rintro e W ⟨rfl,hb⟩;refine ⟨_,rfl,?_⟩;replace S:=S.gw hb;clear F hb;have F:=S.fc))
       go_ret
       exact ⟨(by first | rfl | (simp [e0_,e1_] <;> rfl) | (simp [*,e0_,e1_] <;> rfl)),S.below⟩

/-! ### spec_l1In: function 89 -/
def spec_l1In.f (a0:Int) (a1:Int) (a2:Int):Option (Bool):=if a0 ≥ a1 then (some (decide (a0 ≤ a2))) else (some false)
theorem spec_l1In.calls (a0:Int) (a1:Int) (a2:Int) (r:Bool) (w:World) (h:spec_l1In.f a0 a1 a2 = some r) :
  Calls Try.prog 89 #[.int .i64 a0,.int .i64 a1,.int .i64 a2] w fun e w'=>e = .returned (.bool r)∧Drawn0 w w':=by
 have H:(if a0 ≥ a1 then (some (decide (a0 ≤ a2))) else (some false)) = some r:=h;clear h;by_cases c4:a0 ≥ a1
 ·rw [if_pos c4] at H;have c4b0:decide (a1 ≤ a0) = true:=decide_eq_true c4;clear c4;obtain rfl:=Option.some.inj H;go_enter Try.func89,Try.ntmps89;go_wp2;go_ret;exact ⟨by first | rfl | (simp;done) | (simp [*];done),by repeat (first | exact Drawn0.refl _ | apply Drawn0.step)⟩
 ·rw [if_neg c4] at H;have c4b0:decide (a1 ≤ a0) = false:=decide_eq_false c4;clear c4;obtain rfl:=Option.some.inj H;go_enter Try.func89,Try.ntmps89;go_wp2;go_ret;exact ⟨by first | rfl | (simp;done) | (simp [*];done),by repeat (first | exact Drawn0.refl _ | apply Drawn0.step)⟩

/-! ### spec_paTurning: function 126 -/
def spec_paTurning.f (a0_0:Int) (a0_1:Int):Option (Bool):=if a0_0 = 3 then (some true) else (some (a0_0 == 6))
theorem spec_paTurning.calls (a0_0:Int) (a0_1:Int) (r:Bool) (w:World) (h:spec_paTurning.f a0_0 a0_1 = some r) :
    Calls Try.prog 126 #[.agg #[.int .i64 a0_0,.int .i64 a0_1]] w fun e w'=>e = .returned (.bool r)∧Below w.heap.size w w':=by
 have S:=St.init (w:=w) dn
 have F:=S.fc
 have H:=h;clear h;unfold spec_paTurning.f at H
 replace H:=sp_ H;rcases H with ⟨c2,H⟩ | ⟨c2,H⟩
 · skip
   replace c2:=ceq c2
   obtain rfl:=Option.some.inj H
   go_enter Try.func126,Try.ntmps126
   go_wp2_with (first | ((with_reducible refine gd 1 rfl (L ?_));refine bo 1 (.agg #[_,_]) S ?_;clear S F;intro gb105 W S;have F:=S.fc))
   go_ret
   exact ⟨(by first | rfl | (simp [e0_,e1_] <;> rfl) | (simp [*,e0_,e1_] <;> rfl)),S.below⟩
 · skip
   replace c2:=cne c2
   obtain rfl:=Option.some.inj H
   go_enter Try.func126,Try.ntmps126
   go_wp2_with (first | ((with_reducible refine gd 1 rfl (L ?_));refine bo 1 (.agg #[_,_]) S ?_;clear S F;intro gb105 W S;have F:=S.fc))
   go_ret
   exact ⟨(by first | rfl | (simp [e0_,e1_] <;> rfl) | (simp [*,e0_,e1_] <;> rfl)),S.below⟩

/-! ### spec_paGood: function 101 -/
def spec_paGood.f (a0_0:Int) (a0_1:Int):Option (Bool):=(spec_l1In.f a0_0 0 7).bind fun t107=>(if t107 = true then (if a0_1 = 0 then (some true) else (if a0_1 = 1 then ((spec_paTurning.f a0_0 a0_1).bind fun t108=>(some t108)) else (some false))) else (some false))
theorem spec_paGood.calls (a0_0:Int) (a0_1:Int) (r:Bool) (w:World) (h:spec_paGood.f a0_0 a0_1 = some r) :
    Calls Try.prog 101 #[.agg #[.int .i64 a0_0,.int .i64 a0_1]] w fun e w'=>e = .returned (.bool r)∧Below w.heap.size w w':=by
 have S:=St.init (w:=w) dn
 have F:=S.fc
 have H:=h;clear h;unfold spec_paGood.f at H
 replace H:=Option.bind_eq_some_iff.mp H;obtain ⟨t107,A2,H⟩:=H;(try dsimp only at H)
 replace H:=sp_ H;rcases H with ⟨c3,H⟩ | ⟨c3,H⟩
 · skip
   subst c3
   replace H:=sp_ H;rcases H with ⟨c4,H⟩ | ⟨c4,H⟩
   · skip
     replace c4:=ceq c4
     obtain rfl:=Option.some.inj H
     go_enter Try.func101,Try.ntmps101
     go_wp2_with (first | ((with_reducible refine gd 1 rfl (L ?_));refine bo 1 (.agg #[_,_]) S ?_;clear S F;intro gb106 W S;have F:=S.fc) | ((with_reducible refine gate_callee (f:=89) rfl (L ?_));refine cl (some 5) Try.func89 (spec_l1In.calls _ _ _ _ _ A2) (hargs:=by (simp only [ma_,mb_,mc_,F] <;> rfl)) (h:=?_);rintro e W ⟨rfl,hb⟩;refine ⟨_,rfl,?_⟩;replace S:=S.gw hb;clear F hb;have F:=S.fc))
     go_ret
     exact ⟨(by first | rfl | (simp [e0_,e1_] <;> rfl) | (simp [*,e0_,e1_] <;> rfl)),S.below⟩
   · skip
     replace c4:=cne c4
     replace H:=sp_ H;rcases H with ⟨c7,H⟩ | ⟨c7,H⟩
     · skip
       replace c7:=ceq c7
       replace H:=Option.bind_eq_some_iff.mp H;obtain ⟨t108,A8,H⟩:=H;(try dsimp only at H)
       obtain rfl:=Option.some.inj H
       go_enter Try.func101,Try.ntmps101
       go_wp2_with (first | ((with_reducible refine gd 1 rfl (L ?_));refine bo 1 (.agg #[_,_]) S ?_;clear S F;intro gb106 W S;have F:=S.fc) | ((with_reducible refine gate_callee (f:=89) rfl (L ?_));refine cl (some 5) Try.func89 (spec_l1In.calls _ _ _ _ _ A2) (hargs:=by (simp only [ma_,mb_,mc_,F] <;> rfl)) (h:=?_);rintro e W ⟨rfl,hb⟩;refine ⟨_,rfl,?_⟩;replace S:=S.gw hb;clear F hb;have F:=S.fc) | (go_at_call 126;(try simp only [F]);refine (spec_paTurning.calls _ _ _ _ A8).mono ?_;rintro e W ⟨rfl,hb⟩;replace S:=S.go hb;clear F hb;have F:=S.fc))
       go_ret
       exact ⟨(by first | rfl | (simp [e0_,e1_] <;> rfl) | (simp [*,e0_,e1_] <;> rfl)),S.below⟩
     · skip
       replace c7:=cne c7
       obtain rfl:=Option.some.inj H
       go_enter Try.func101,Try.ntmps101
       go_wp2_with (first | ((with_reducible refine gd 1 rfl (L ?_));refine bo 1 (.agg #[_,_]) S ?_;clear S F;intro gb106 W S;have F:=S.fc) | ((with_reducible refine gate_callee (f:=89) rfl (L ?_));refine cl (some 5) Try.func89 (spec_l1In.calls _ _ _ _ _ A2) (hargs:=by (simp only [ma_,mb_,mc_,F] <;> rfl)) (h:=?_);rintro e W ⟨rfl,hb⟩;refine ⟨_,rfl,?_⟩;replace S:=S.gw hb;clear F hb;have F:=S.fc))
       go_ret
       exact ⟨(by first | rfl | (simp [e0_,e1_] <;> rfl) | (simp [*,e0_,e1_] <;> rfl)),S.below⟩
 · skip
   replace c3:=cbf c3;subst c3
   obtain rfl:=Option.some.inj H
   go_enter Try.func101,Try.ntmps101
   go_wp2_with (first | ((with_reducible refine gd 1 rfl (L ?_));refine bo 1 (.agg #[_,_]) S ?_;clear S F;intro gb106 W S;have F:=S.fc) | ((with_reducible refine gate_callee (f:=89) rfl (L ?_));refine cl (some 5) Try.func89 (spec_l1In.calls _ _ _ _ _ A2) (hargs:=by (simp only [ma_,mb_,mc_,F] <;> rfl)) (h:=?_);rintro e W ⟨rfl,hb⟩;refine ⟨_,rfl,?_⟩;replace S:=S.gw hb;clear F hb;have F:=S.fc))
   go_ret
   exact ⟨(by first | rfl | (simp [e0_,e1_] <;> rfl) | (simp [*,e0_,e1_] <;> rfl)),S.below⟩

/-! ### spec_l1All: function 102 -/
def spec_l1All.l0:Nat→Int→Int→List Int→Int→Int→Option (Bool)
 | 0,_,_,_,_,_=>none
 | k + 1,x1,x2,x9,x10,x11=>if x11 < x10 then (if 0 ≤ x11 then (if x11 < (x9.length:Int) then ((spec_l1In.f (rd x9 x11) x1 x2).bind fun t110=>(if t110 = true then (spec_l1All.l0 k x1 x2 x9 x10 (wrap64 (x11 + 1))) else (some false))) else (none)) else (none)) else (some true)
def spec_l1All.f (k:Nat) (l0:List Int) (a1:Int) (a2:Int):Option (Bool):=spec_l1All.l0 k a1 a2 l0 (l0.length:Int) 0
theorem spec_l1All.calls (k:Nat) (A0:Option Addr) (c0:Nat) (l0:List Int) (a1:Int) (a2:Int) (r:Bool) (w:World) (hr0:Kd.C (Kd.int .i64) w A0 l0.length l0) (hc0:l0.length ≤ c0) (h:spec_l1All.f k l0 a1 a2 = some r) :
  Calls Try.prog 102 #[.slice A0 l0.length c0,.int .i64 a1,.int .i64 a2] w fun e w'=>e = .returned (.bool r)∧Drawn0 w w':=by
 have HR0:=Aside0.mk hr0;have HC0:=Aside0.mk hc0;clear hr0 hc0;have H:(spec_l1All.l0 k a1 a2 l0 (l0.length:Int) 0) = some r:=h;clear h;have H':=Aside0.mk H;clear H;go_enter Try.func102,Try.ntmps102;go_wp2;go_loopg [11] k (fun kq v11 w'=>∃ (x11_1:Int),v11 = .int .i64 x11_1∧Aside0 (spec_l1All.l0 kq a1 a2 l0 (l0.length:Int) x11_1 = some r)∧Aside0 (kq ≤ k)∧Drawn0 w w')
 case atStart=>exact ⟨(0),(by first | rfl | (simp;done) | (simp [*];done)),H',⟨Nat.le_refl _⟩,by repeat (first | exact Drawn0.refl _ | apply Drawn0.step)⟩
 case round =>
  clear H';(try clear c1);(try clear p2);obtain ⟨x11_1,rfl,HA,HK1,⟨m1,rfl⟩⟩:=hrel;cases gk with
  | zero=>exact absurd HA.out (by simp [spec_l1All.l0])
  | succ k1 =>
   have H:=HA.out;clear HA;simp only [spec_l1All.l0] at H;by_cases c4:x11_1 < (l0.length:Int)
   ·rw [if_pos c4] at H;have c4b0:decide (x11_1 < (l0.length:Int)) = true:=decide_eq_true c4;clear c4;replace H:=np_ H;obtain ⟨c5,H⟩:=H;have c5b0:decide (0 ≤ x11_1) = true:=decide_eq_true c5;clear c5;replace H:=np_ H;obtain ⟨c6,H⟩:=H;have c6b0:decide (x11_1 < (l0.length:Int)) = true:=decide_eq_true c6;clear c6;replace H:=Option.bind_eq_some_iff.mp H;obtain ⟨t110,A70,H⟩:=H;(try dsimp only at H)
    have A7:=Aside0.mk A70;clear A70;by_cases c8:t110 = true
    ·subst c8;have H1:(spec_l1All.l0 k1 a1 a2 l0 (l0.length:Int) (wrap64 (x11_1 + 1))) = some r:=by rw [if_pos rfl] at H;exact H
     clear H;have H:=H1;clear H1;have H':=Aside0.mk H;clear H;have p109:0 ≤ (x11_1:Int):=of_decide_eq_true (by first | (with_reducible assumption) | assumption);have q109:x11_1 < (l0.length:Int):=of_decide_eq_true (by first | (with_reducible assumption) | assumption);obtain ⟨ad109,e109,hx109_0⟩:=Kd.at_int HR0.out x11_1 p109 q109;cases e109;replace p109:=eq_true p109;replace q109:=eq_true q109;go_wp2_with (first | ((with_reducible refine gate_callee (f:=89) rfl ?_);refine gL_ (some 18) Try.func89 #[.int .i64 (rd l0 x11_1),.int .i64 a1,.int .i64 a2] (h:=?_);(with_reducible refine (spec_l1In.calls (rd l0 x11_1) a1 a2 true _ A7.out).mono ?_);rintro e w' ⟨rfl,⟨nd,rfl⟩⟩;refine ⟨_,rfl,?_⟩))
     go_roundg k1
     case measure=>have:=HK1.out;omega
     case rel=>exact ⟨(wrap64 (x11_1 + 1)),(by first | rfl | (simp;done) | (simp [*];done)),H',⟨by have:=HK1.out;omega⟩,by repeat (first | exact Drawn0.refl _ | apply Drawn0.step)⟩
    ·replace c8:=Bool.eq_false_iff.mpr c8;subst c8;have H1:(some false) = some r:=by rw [if_neg (show ¬ (false = true) by decide)] at H;exact H
     clear H;have H:=H1;clear H1;obtain rfl:=Option.some.inj H;have p109:0 ≤ (x11_1:Int):=of_decide_eq_true (by first | (with_reducible assumption) | assumption);have q109:x11_1 < (l0.length:Int):=of_decide_eq_true (by first | (with_reducible assumption) | assumption);obtain ⟨ad109,e109,hx109_0⟩:=Kd.at_int HR0.out x11_1 p109 q109;cases e109;replace p109:=eq_true p109;replace q109:=eq_true q109;go_wp2_with (first | ((with_reducible refine gate_callee (f:=89) rfl ?_);refine gL_ (some 18) Try.func89 #[.int .i64 (rd l0 x11_1),.int .i64 a1,.int .i64 a2] (h:=?_);(with_reducible refine (spec_l1In.calls (rd l0 x11_1) a1 a2 false _ A7.out).mono ?_);rintro e w' ⟨rfl,⟨nd,rfl⟩⟩;refine ⟨_,rfl,?_⟩))
     go_ret;exact ⟨by first | rfl | (simp;done) | (simp [*];done),by repeat (first | exact Drawn0.refl _ | apply Drawn0.step)⟩
   ·rw [if_neg c4] at H;have c4b0:decide (x11_1 < (l0.length:Int)) = false:=decide_eq_false c4;clear c4;obtain rfl:=Option.some.inj H;go_wp2;go_ret;exact ⟨by first | rfl | (simp;done) | (simp [*];done),by repeat (first | exact Drawn0.refl _ | apply Drawn0.step)⟩

/-! ### spec_syPower: function 127 -/
def spec_syPower.l0:Nat→Int→Int→Int→Option (Int)
 | 0,_,_,_=>none
 | k + 1,x0,x1,x5=>if x1 > 0 then (if x5 ≤ 7000 then (spec_syPower.l0 k x0 (wrap64 (x1 - 1)) (wrap64 (x5 * x0))) else (some x5)) else (some x5)
def spec_syPower.f (k:Nat) (a0:Int) (a1:Int):Option (Int):=spec_syPower.l0 k a0 a1 1
theorem spec_syPower.calls (k:Nat) (a0:Int) (a1:Int) (r:Int) (w:World) (h:spec_syPower.f k a0 a1 = some r) :
  Calls Try.prog 127 #[.int .i64 a0,.int .i64 a1] w fun e w'=>e = .returned (.int .i64 r)∧Drawn0 w w':=by
 have H:(spec_syPower.l0 k a0 a1 1) = some r:=h;clear h;have H':=Aside0.mk H;clear H;go_enter Try.func127,Try.ntmps127;go_wp2;go_loopg [1,5] k (fun kq v1 v5 w'=>∃ (x1_1:Int) (x5_1:Int),v1 = .int .i64 x1_1∧v5 = .int .i64 x5_1∧Aside0 (spec_syPower.l0 kq a0 x1_1 x5_1 = some r)∧Aside0 (kq ≤ k)∧Drawn0 w w')
 case atStart=>exact ⟨(a1),(1),(by first | rfl | (simp;done) | (simp [*];done)),(by first | rfl | (simp;done) | (simp [*];done)),H',⟨Nat.le_refl _⟩,by repeat (first | exact Drawn0.refl _ | apply Drawn0.step)⟩
 case round =>
  clear H';(try clear c1);(try clear p2);obtain ⟨x1_1,x5_1,rfl,rfl,HA,HK1,⟨m1,rfl⟩⟩:=hrel;cases gk with
  | zero=>exact absurd HA.out (by simp [spec_syPower.l0])
  | succ k1 =>
   have H:=HA.out;clear HA;simp only [spec_syPower.l0] at H;by_cases c3:x1_1 > 0
   ·rw [if_pos c3] at H;have c3b0:decide (0 < x1_1) = true:=decide_eq_true c3;clear c3;by_cases c4:x5_1 ≤ 7000
    ·rw [if_pos c4] at H;have c4b0:decide (x5_1 ≤ 7000) = true:=decide_eq_true c4;clear c4;have H':=Aside0.mk H;clear H;go_wp2;go_roundg k1
     case measure=>have:=HK1.out;omega
     case rel=>exact ⟨(wrap64 (x1_1 - 1)),(wrap64 (x5_1 * a0)),(by first | rfl | (simp;done) | (simp [*];done)),(by first | rfl | (simp;done) | (simp [*];done)),H',⟨by have:=HK1.out;omega⟩,by repeat (first | exact Drawn0.refl _ | apply Drawn0.step)⟩
    ·rw [if_neg c4] at H;have c4b0:decide (x5_1 ≤ 7000) = false:=decide_eq_false c4;clear c4;obtain rfl:=Option.some.inj H;go_wp2;go_ret;exact ⟨by first | rfl | (simp;done) | (simp [*];done),by repeat (first | exact Drawn0.refl _ | apply Drawn0.step)⟩
   ·rw [if_neg c3] at H;have c3b0:decide (0 < x1_1) = false:=decide_eq_false c3;clear c3;obtain rfl:=Option.some.inj H;go_wp2;go_ret;exact ⟨by first | rfl | (simp;done) | (simp [*];done),by repeat (first | exact Drawn0.refl _ | apply Drawn0.step)⟩

/-! ### spec_syTried: function 103 -/
def spec_syTried.f (k:Nat) (a0_0:Int) (a0_1:Int) (l0_2:List (S88)) (l0_3:List Int) (l0_4:List Int):Option (Int):=(spec_syPower.f k (wrap64 ((l0_2.length:Int) + 1)) (wrap64 (a0_0 * a0_1))).bind fun t112=>(some t112)
theorem spec_syTried.calls (k:Nat) (a0_0:Int) (a0_1:Int) (A0_2:Option Addr) (c0_2:Nat) (l0_2:List (S88)) (A0_3:Option Addr) (c0_3:Nat) (l0_3:List Int) (A0_4:Option Addr) (c0_4:Nat) (l0_4:List Int) (r:Int) (w:World) (hr0_2:Kd.C k88 w A0_2 l0_2.length l0_2) (hc0_2:l0_2.length ≤ c0_2) (hr0_3:Kd.C (Kd.int .i64) w A0_3 l0_3.length l0_3) (hc0_3:l0_3.length ≤ c0_3) (hr0_4:Kd.C (Kd.int .i64) w A0_4 l0_4.length l0_4) (hc0_4:l0_4.length ≤ c0_4) (h:spec_syTried.f k a0_0 a0_1 l0_2 l0_3 l0_4 = some r) :
    Calls Try.prog 103 #[.agg #[.int .i64 a0_0,.int .i64 a0_1,.slice A0_2 l0_2.length c0_2,.slice A0_3 l0_3.length c0_3,.slice A0_4 l0_4.length c0_4]] w fun e w'=>e = .returned (.int .i64 r)∧Below w.heap.size w w':=by
 have S:=St.init (w:=w) (dc k88_heap at88 hr0_2 hc0_2 (dc (Kd.heap_int .i64) (atI .i64) hr0_3 hc0_3 (dc (Kd.heap_int .i64) (atI .i64) hr0_4 hc0_4 dn)))
 clear hr0_2 hc0_2 hr0_3 hc0_3 hr0_4 hc0_4
 have F:=S.fc
 have H:=h;clear h;unfold spec_syTried.f at H
 replace H:=Option.bind_eq_some_iff.mp H;obtain ⟨t112,A2,H⟩:=H;(try dsimp only at H)
 obtain rfl:=Option.some.inj H
 go_enter Try.func103,Try.ntmps103
 go_wp2_with (first | ((with_reducible refine gd 1 rfl (L ?_));refine bo 1 (.agg #[_,_,_,_,_]) S ?_;clear S F;intro gb111 W S;have F:=S.fc) | ((with_reducible refine gate_callee (f:=127) rfl (L ?_));refine cl (some 12) Try.func127 (spec_syPower.calls _ _ _ _ _ A2) (hargs:=by (simp only [ma_,mb_,mc_,F] <;> rfl)) (h:=?_);rintro e W ⟨rfl,hb⟩;refine ⟨_,rfl,?_⟩;replace S:=S.gw hb;clear F hb;have F:=S.fc))
 go_ret
 exact ⟨(by first | rfl | (simp [e0_,e1_] <;> rfl) | (simp [*,e0_,e1_] <;> rfl)),S.below⟩

/-! ### spec_syGood: function 67 -/
mutual
def spec_syGood.l0:Nat→List (S88)→Int→Int→Int→Int→List (S88)→List Int→List Int→Option (Bool)
 | 0,_,_,_,_,_,_,_,_=>none
 | k + 1,x8,x9,x10,x114000,x114001,x114002,x114003,x114004=>if x10 < x9 then (if 0 ≤ x10 then (if x10 < (x8.length:Int) then ((spec_paGood.f ((rd_T88 x8 x10).f0) ((rd_T88 x8 x10).f1)).bind fun t116=>(if t116 = true then (spec_syGood.j1 k x10 x8 x9 x10 (((rd_T88 x8 x10).f0) == 0) x114000 x114001 x114002 x114003 x114004 ((rd_T88 x8 x10).f0) ((rd_T88 x8 x10).f1)) else (spec_syGood.j1 k x10 x8 x9 x10 true x114000 x114001 x114002 x114003 x114004 ((rd_T88 x8 x10).f0) ((rd_T88 x8 x10).f1)))) else (none)) else (none)) else ((spec_l1In.f x114000 1 4).bind fun t123=>(if t123 = true then ((spec_l1In.f x114001 1 4).bind fun t124=>(if t124 = true then ((spec_l1In.f (x114002.length:Int) 1 6).bind fun t125=>(if t125 = true then ((spec_l1In.f (x114003.length:Int) 1 8).bind fun t126=>(if t126 = true then (spec_syGood.j3 k ((x114004.length:Int) != (x114003.length:Int)) x114000 x114001 x114002 x114003 x114004) else (spec_syGood.j3 k true x114000 x114001 x114002 x114003 x114004))) else (spec_syGood.j3 k true x114000 x114001 x114002 x114003 x114004))) else (spec_syGood.j3 k true x114000 x114001 x114002 x114003 x114004))) else (spec_syGood.j3 k true x114000 x114001 x114002 x114003 x114004)))
def spec_syGood.j1:Nat→Int→List (S88)→Int→Int→Bool→Int→Int→List (S88)→List Int→List Int→Int→Int→Option (Bool)
 | 0,_,_,_,_,_,_,_,_,_,_,_,_=>none
 | k + 1,x3,x8,x9,x10,x22,x114000,x114001,x114002,x114003,x114004,x116000,x116001=>if x22 = true then (some false) else (if 0 ≤ x3 then (if x3 ≤ (x114002.length:Int) then ((some (x114002.take (x3:Int).toNat:List (S88))).bind fun y117=>(spec_syGood.l1 k x8 x9 x10 y117 (y117.length:Int) 0 x114000 x114001 x114002 x114003 x114004 x116000 x116001)) else (none)) else (none))
def spec_syGood.l1:Nat→List (S88)→Int→Int→List (S88)→Int→Int→Int→Int→List (S88)→List Int→List Int→Int→Int→Option (Bool)
 | 0,_,_,_,_,_,_,_,_,_,_,_,_,_=>none
 | k + 1,x8,x9,x10,x26,x27,x28,x114000,x114001,x114002,x114003,x114004,x116000,x116001=>if x28 < x27 then (if 0 ≤ x28 then (if x28 < (x26.length:Int) then (if (x116000 == ((rd_T88 x26 x28).f0) && (x116001 == ((rd_T88 x26 x28).f1))) = true then (some false) else (spec_syGood.l1 k x8 x9 x10 x26 x27 (wrap64 (x28 + 1)) x114000 x114001 x114002 x114003 x114004 x116000 x116001)) else (none)) else (none)) else (spec_syGood.l0 k x8 x9 (wrap64 (x10 + 1)) x114000 x114001 x114002 x114003 x114004)
def spec_syGood.j3:Nat→Bool→Int→Int→List (S88)→List Int→List Int→Option (Bool)
 | 0,_,_,_,_,_,_=>none
 | k + 1,x69,x114000,x114001,x114002,x114003,x114004=>if x69 = true then (some false) else ((spec_l1All.f k x114003 0 (wrap64 (x114001 - 1))).bind fun t127=>(if t127 = true then ((spec_l1All.f k x114004 0 (wrap64 (x114001 + 1))).bind fun t128=>(if t128 = true then ((spec_syTried.f k x114000 x114001 x114002 x114003 x114004).bind fun t129=>(some (decide (t129 ≤ 7000)))) else (some false))) else (some false)))
end
def spec_syGood.f (k:Nat) (a0_0:Int) (a0_1:Int) (l0_2:List (S88)) (l0_3:List Int) (l0_4:List Int):Option (Bool):=spec_syGood.l0 k l0_2 (l0_2.length:Int) 0 a0_0 a0_1 l0_2 l0_3 l0_4
theorem spec_syGood.calls (k:Nat) (a0_0:Int) (a0_1:Int) (A0_2:Option Addr) (c0_2:Nat) (l0_2:List (S88)) (A0_3:Option Addr) (c0_3:Nat) (l0_3:List Int) (A0_4:Option Addr) (c0_4:Nat) (l0_4:List Int) (r:Bool) (w:World) (hr0_2:Kd.C k88 w A0_2 l0_2.length l0_2) (hc0_2:l0_2.length ≤ c0_2) (hr0_3:Kd.C (Kd.int .i64) w A0_3 l0_3.length l0_3) (hc0_3:l0_3.length ≤ c0_3) (hr0_4:Kd.C (Kd.int .i64) w A0_4 l0_4.length l0_4) (hc0_4:l0_4.length ≤ c0_4) (h:spec_syGood.f k a0_0 a0_1 l0_2 l0_3 l0_4 = some r) :
  Calls Try.prog 67 #[.agg #[.int .i64 a0_0,.int .i64 a0_1,.slice A0_2 l0_2.length c0_2,.slice A0_3 l0_3.length c0_3,.slice A0_4 l0_4.length c0_4]] w fun e w'=>e = .returned (.bool r)∧Below w.heap.size w w':=by
 have HR0_2:=Aside0.mk hr0_2;have HC0_2:=Aside0.mk hc0_2;clear hr0_2 hc0_2;have HR0_3:=Aside0.mk hr0_3;have HC0_3:=Aside0.mk hc0_3;clear hr0_3 hc0_3;have HR0_4:=Aside0.mk hr0_4;have HC0_4:=Aside0.mk hc0_4;clear hr0_4 hc0_4;have HB:=Aside0.mk (Below.refl w.heap.size w);have H:(spec_syGood.l0 k l0_2 (l0_2.length:Int) 0 a0_0 a0_1 l0_2 l0_3 l0_4) = some r:=h;clear h;have H':=Aside0.mk H;clear H;go_enter Try.func67,Try.ntmps67;go_wp2_with (first | ((with_reducible refine gate_dst (N:=1) rfl ?_);refine box_event ?hg (N:=1) ?hd (cs:=#[.int .i64 a0_0,.int .i64 a0_1,.slice A0_2 l0_2.length c0_2,.slice A0_3 l0_3.length c0_3,.slice A0_4 l0_4.length c0_4]) (t:=31) ?hr ?_;(case hd=>rfl);(case hg=>rfl);(case hr=>first | (go_simp;done) | (go_simp;rfl));intro gb113 hg w2 hbox hb;refine ev4 (bs HB hb) (hbox) (gle hg HB) (gle hg HB) ?_;clear HB;intro HB BK113 GW113 GE113;clear hb hbox hg;obtain ⟨hcz3_0,hcz3_1,hcz3_2,hcz3_3,hcz3_4,hfz3_0,hfz3_1,hfz3_2,hfz3_3,hfz3_4⟩:=bt5 BK113))
 go_loopg [10] k (fun kq v10 w'=>∃ (x10_1:Int),v10 = .int .i64 x10_1∧Aside0 (spec_syGood.l0 kq l0_2 (l0_2.length:Int) x10_1 a0_0 a0_1 l0_2 l0_3 l0_4 = some r)∧Aside0 (kq ≤ k)∧Aside0 (w'.heap[gb113]? = some (.cells #[.int .i64 a0_0,.int .i64 a0_1,(.slice A0_2 l0_2.length c0_2),(.slice A0_3 l0_3.length c0_3),(.slice A0_4 l0_4.length c0_4)] 31 (0,0)))∧Aside0 (Below w.heap.size w w'))
 case atStart=>exact ⟨(0),(by first | rfl | (simp;done) | (simp [*];done)),H',⟨Nat.le_refl _⟩,⟨km_ BK113⟩,⟨bm HB⟩⟩
 case round =>
  clear H';(try clear p2);(try clear hcz3_0 hcz3_1 hcz3_2 hcz3_3 hcz3_4 hfz3_0 hfz3_1 hfz3_2 hfz3_3 hfz3_4);obtain ⟨x10_1,rfl,HA,HK1,BK113,HB⟩:=hrel;cases gk with
  | zero=>exact absurd HA.out (by simp [spec_syGood.l0])
  | succ k1 =>
   have H:=HA.out;clear HA;simp only [spec_syGood.l0] at H;by_cases c4:x10_1 < (l0_2.length:Int)
   ·rw [if_pos c4] at H;have c4b0:decide (x10_1 < (l0_2.length:Int)) = true:=decide_eq_true c4;clear c4;replace H:=np_ H;obtain ⟨c5,H⟩:=H;have c5b0:decide (0 ≤ x10_1) = true:=decide_eq_true c5;clear c5;replace H:=np_ H;obtain ⟨c6,H⟩:=H;have c6b0:decide (x10_1 < (l0_2.length:Int)) = true:=decide_eq_true c6;clear c6;have HC7:=Aside0.mk H;clear H;have p114:0 ≤ (x10_1:Int):=of_decide_eq_true (by first | (with_reducible assumption) | assumption);have q114:x10_1 < (l0_2.length:Int):=of_decide_eq_true (by first | (with_reducible assumption) | assumption);obtain ⟨ad114,e114,hx114_0,hx114_1⟩:=at_T88 HR0_2.out x10_1 p114 q114;cases e114;replace hx114_0:=(HB.out.cell (World.block_lt_of_cell? w _ hx114_0)).trans hx114_0;replace hx114_1:=(HB.out.cell (World.block_lt_of_cell? w _ hx114_1)).trans hx114_1;replace p114:=eq_true p114;replace q114:=eq_true q114;go_upto_region 4 with (first | ((with_reducible refine gate_dst (N:=4) rfl ?_);refine box_event ?hg (N:=4) ?hd (cs:=#[.int .i64 0,.int .i64 0]) (t:=88) ?hr ?_;(case hd=>rfl);(case hg=>rfl);(case hr=>first | (go_simp;done) | (go_simp;rfl));intro gb115 hg w8 hbox hb;refine ev7 (kb BK113 hb) (bs HB hb) (hbox) (gle hg HB) (gle hg HB) (gnf hg BK113) (gne hg BK113) ?_;clear BK113 HB;intro BK113 HB BK115 GW115 GE115 NB113_115 NB115_113;clear hb hbox hg;have hnb9:=NB115_113.out;have hnc9:=NB113_115.out;obtain ⟨hcz10_0,hcz10_1,hfz10_0,hfz10_1⟩:=bt2 BK115))
    (try simp only [Act.put,za_,zb_,zc_])
    go_cut [22] (fun v22 wc=>∃ (kq:Nat) (x22_6:Bool),v22 = .bool x22_6∧Aside0 (spec_syGood.j1 kq x10_1 l0_2 (l0_2.length:Int) x10_1 x22_6 a0_0 a0_1 l0_2 l0_3 l0_4 ((rd_T88 l0_2 x10_1).f0) ((rd_T88 l0_2 x10_1).f1) = some r)∧Aside0 (kq ≤ k1)∧Aside0 (wc.heap[gb113]? = some (.cells #[.int .i64 a0_0,.int .i64 a0_1,(.slice (some ad114) l0_2.length c0_2),(.slice A0_3 l0_3.length c0_3),(.slice A0_4 l0_4.length c0_4)] 31 (0,0)))∧Aside0 (wc.heap[gb115]? = some (.cells #[.int .i64 ((rd_T88 l0_2 x10_1).f0),.int .i64 ((rd_T88 l0_2 x10_1).f1)] 88 (0,0)))∧Aside0 (Below w.heap.size w wc))
    case first =>
     have H:=HC7.out;clear HC7;replace H:=Option.bind_eq_some_iff.mp H;obtain ⟨t116,A110,H⟩:=H;(try dsimp only at H)
     have A11:=Aside0.mk A110;clear A110;by_cases c12:t116 = true
     ·subst c12;have H1:(spec_syGood.j1 k1 x10_1 l0_2 (l0_2.length:Int) x10_1 (((rd_T88 l0_2 x10_1).f0) == 0) a0_0 a0_1 l0_2 l0_3 l0_4 ((rd_T88 l0_2 x10_1).f0) ((rd_T88 l0_2 x10_1).f1)) = some r:=by rw [if_pos rfl] at H;exact H
      clear H;have H:=H1;clear H1;have H':=Aside0.mk H;clear H;have hnb13:=NB115_113.out;have hnc13:=NB113_115.out;obtain ⟨hcz14_0,hcz14_1,hfz14_0,hfz14_1⟩:=bt2 BK115;go_wp2_with (first | ((with_reducible refine gate_callee (f:=101) rfl ?_);refine gL_ (some 16) Try.func101 #[.agg #[.int .i64 ((rd_T88 l0_2 x10_1).f0),.int .i64 ((rd_T88 l0_2 x10_1).f1)]] (h:=?_);(with_reducible refine (spec_paGood.calls ((rd_T88 l0_2 x10_1).f0) ((rd_T88 l0_2 x10_1).f1) true _ A11.out).mono ?_);rintro e w15 ⟨rfl,hb⟩;refine ⟨_,rfl,?_⟩;refine ev3 (blk_below (g:=gb113) (o:=.cells #[.int .i64 a0_0,.int .i64 a0_1,.slice (some ad114) l0_2.length c0_2,.slice A0_3 l0_3.length c0_3,.slice A0_4 l0_4.length c0_4] 31 (0,0)) (fp BK113 rfl) hb) (blk_below (g:=gb115) (o:=.cells #[.int .i64 ((rd_T88 l0_2 x10_1).f0),.int .i64 ((rd_T88 l0_2 x10_1).f1)] 88 (0,0)) (fp BK115 rfl) hb) (bs HB hb) ?_;clear BK113 BK115 HB;intro BK113 BK115 HB;(try clear hb);obtain ⟨hcz16_0,hcz16_1,hfz16_0,hfz16_1⟩:=bt2 BK115))
      go_meet
      case rel=>exact ⟨_,((((rd_T88 l0_2 x10_1).f0) == 0)),(by first | rfl | (simp;done) | (simp [*];done)),H',⟨by have:=HK1.out;first | omega | exact Nat.le_refl _⟩,⟨km_ BK113⟩,⟨km_ BK115⟩,⟨bm HB⟩⟩
     ·replace c12:=Bool.eq_false_iff.mpr c12;subst c12;have H1:(spec_syGood.j1 k1 x10_1 l0_2 (l0_2.length:Int) x10_1 true a0_0 a0_1 l0_2 l0_3 l0_4 ((rd_T88 l0_2 x10_1).f0) ((rd_T88 l0_2 x10_1).f1)) = some r:=by rw [if_neg (show ¬ (false = true) by decide)] at H;exact H
      clear H;have H:=H1;clear H1;have H':=Aside0.mk H;clear H;have hnb17:=NB115_113.out;have hnc17:=NB113_115.out;obtain ⟨hcz18_0,hcz18_1,hfz18_0,hfz18_1⟩:=bt2 BK115;go_wp2_with (first | ((with_reducible refine gate_callee (f:=101) rfl ?_);refine gL_ (some 16) Try.func101 #[.agg #[.int .i64 ((rd_T88 l0_2 x10_1).f0),.int .i64 ((rd_T88 l0_2 x10_1).f1)]] (h:=?_);(with_reducible refine (spec_paGood.calls ((rd_T88 l0_2 x10_1).f0) ((rd_T88 l0_2 x10_1).f1) false _ A11.out).mono ?_);rintro e w19 ⟨rfl,hb⟩;refine ⟨_,rfl,?_⟩;refine ev3 (blk_below (g:=gb113) (o:=.cells #[.int .i64 a0_0,.int .i64 a0_1,.slice (some ad114) l0_2.length c0_2,.slice A0_3 l0_3.length c0_3,.slice A0_4 l0_4.length c0_4] 31 (0,0)) (fp BK113 rfl) hb) (blk_below (g:=gb115) (o:=.cells #[.int .i64 ((rd_T88 l0_2 x10_1).f0),.int .i64 ((rd_T88 l0_2 x10_1).f1)] 88 (0,0)) (fp BK115 rfl) hb) (bs HB hb) ?_;clear BK113 BK115 HB;intro BK113 BK115 HB;(try clear hb)))
      go_meet
      case rel=>exact ⟨_,(true),(by first | rfl | (simp;done) | (simp [*];done)),H',⟨by have:=HK1.out;first | omega | exact Nat.le_refl _⟩,⟨km_ BK113⟩,⟨km_ BK115⟩,⟨bm HB⟩⟩
    case rest =>
     clear HC7;(try clear p1);(try clear q1);(try clear hx1);(try clear p2);(try clear c4);(try clear c4b0);(try clear c5);(try clear c5b0);(try clear c6);(try clear c6b0);(try clear c9);(try clear p11);(try clear q11);(try clear hx11);(try clear hcz10_0 hcz10_1 hfz10_0 hfz10_1);(try clear hcz3_0 hcz3_1 hcz3_2 hcz3_3 hcz3_4 hfz3_0 hfz3_1 hfz3_2 hfz3_3 hfz3_4);(try clear hx114_0);(try clear hx114_1);(try clear p114);(try clear p2);(try clear q114);obtain ⟨kq,x22_6,rfl,HA,HJ6,BK113,BK115,HB⟩:=hcut;cases kq with
     | zero=>exact absurd HA.out (by simp [spec_syGood.j1])
     | succ kj6 =>
      have H:=HA.out;clear HA;simp only [spec_syGood.j1] at H;by_cases c20:x22_6 = true
      ·subst c20;have H1:(some false) = some r:=by rw [if_pos rfl] at H;exact H
       clear H;have H:=H1;clear H1;obtain rfl:=Option.some.inj H;go_wp2;go_ret;exact ⟨by first | rfl | (simp [e0_,e1_] <;> rfl) | (simp [*,e0_,e1_] <;> rfl),bm HB⟩
      ·replace c20:=Bool.eq_false_iff.mpr c20;subst c20;have H1:(if 0 ≤ x10_1 then (if x10_1 ≤ (l0_2.length:Int) then ((some (l0_2.take (x10_1:Int).toNat:List (S88))).bind fun y117=>(spec_syGood.l1 kj6 l0_2 (l0_2.length:Int) x10_1 y117 (y117.length:Int) 0 a0_0 a0_1 l0_2 l0_3 l0_4 ((rd_T88 l0_2 x10_1).f0) ((rd_T88 l0_2 x10_1).f1))) else (none)) else (none)) = some r:=by rw [if_neg (show ¬ (false = true) by decide)] at H;exact H
       clear H;have H:=H1;clear H1;replace H:=np_ H;obtain ⟨c21,H⟩:=H;have c21b0:=eq_true c21;have c21b1:decide (0 ≤ x10_1) = true:=decide_eq_true c21;clear c21;replace H:=np_ H;obtain ⟨c22,H⟩:=H;have c22b0:=eq_true c22;have c22b1:decide (x10_1 ≤ (l0_2.length:Int)) = true:=decide_eq_true c22;clear c22;obtain ⟨y117,hy117⟩:∃ y_:List (S88),y_ = (l0_2.take (x10_1:Int).toNat):=⟨_,rfl⟩
       replace H:(spec_syGood.l1 kj6 l0_2 (l0_2.length:Int) x10_1 y117 (y117.length:Int) 0 a0_0 a0_1 l0_2 l0_3 l0_4 ((rd_T88 l0_2 x10_1).f0) ((rd_T88 l0_2 x10_1).f1)) = some r:=by first | (rw [hy117];with_reducible exact H) | (have H2_:=(Option.bind_some _ _).symm.trans H;rw [hy117];with_reducible exact H2_) | (have H2_:=(Option.bind_some _ _).symm.trans H;with_reducible exact H2_) | with_reducible exact H | (rw [hy117];exact H) | exact H
       have Ny117:=Aside0.mk hy117;clear hy117;have H':=Aside0.mk H;clear H;have hnb23:=NB113_115.out;have hnc23:=NB115_113.out;obtain ⟨hcz24_0,hcz24_1,hcz24_2,hcz24_3,hcz24_4,hfz24_0,hfz24_1,hfz24_2,hfz24_3,hfz24_4⟩:=bt5 BK113;have q25:(x10_1:Int) ≤ ((l0_2.length:Int):Int):=of_decide_eq_true (by first | (with_reducible assumption) | assumption);obtain ⟨i025,hi025,_,hsz25,_⟩:=info_parts info88;have hroom25:l0_2.length ≤ c0_2:=HC0_2.out;have hC25:Kd.C k88 _ (some ad114) l0_2.length l0_2:=HR0_2.out;have hcut25:=cut_to (P:=Try.prog) 29 88 .i64 Try.underlying29 hi025 (some ad114) l0_2.length c0_2 x10_1 (of_decide_eq_true (by first | (with_reducible assumption) | assumption)) q25 hroom25;have hr25:=Kd.C_take (m:=(x10_1:Int).toNat) hC25 (by omega);have hy25:y117.length = (x10_1:Int).toNat:=(by rw [Ny117.out,List.length_take];omega)
       rw [← Ny117.out] at hr25;rw [← hy25] at hcut25;have HR120:=Aside0.mk hr25;have HC120:=Aside0.mk (show y117.length ≤ c0_2 from by omega);clear hr25 hC25 hroom25 hi025 hsz25;have KY25:=Aside0.mk hy25;clear hy25;replace q25:=eq_true q25;go_wp2;go_loopg [28] kj6 (fun kq v28 w'=>∃ (x28_3:Int),v28 = .int .i64 x28_3∧Aside0 (spec_syGood.l1 kq l0_2 (l0_2.length:Int) x10_1 y117 (y117.length:Int) x28_3 a0_0 a0_1 l0_2 l0_3 l0_4 ((rd_T88 l0_2 x10_1).f0) ((rd_T88 l0_2 x10_1).f1) = some r)∧Aside0 (kq ≤ kj6)∧Aside0 (w'.heap[gb113]? = some (.cells #[.int .i64 a0_0,.int .i64 a0_1,(.slice (some ad114) l0_2.length c0_2),(.slice A0_3 l0_3.length c0_3),(.slice A0_4 l0_4.length c0_4)] 31 (0,0)))∧Aside0 (w'.heap[gb115]? = some (.cells #[.int .i64 ((rd_T88 l0_2 x10_1).f0),.int .i64 ((rd_T88 l0_2 x10_1).f1)] 88 (0,0)))∧Aside0 (Below w.heap.size w w'))
       case atStart=>exact ⟨(0),(by first | rfl | (simp;done) | (simp [*];done)),H',⟨Nat.le_refl _⟩,⟨km_ BK113⟩,⟨km_ BK115⟩,⟨bm HB⟩⟩
       case round =>
        clear H';(try clear p1);(try clear q1);(try clear hx1);(try clear c2);(try clear p2);(try clear q2);(try clear c4);(try clear c4b0);(try clear c5);(try clear c5b0);(try clear c6);(try clear c6b0);(try clear c9);(try clear p11);(try clear q11);(try clear hx11);(try clear c20);(try clear c21);(try clear c21b0);(try clear c21b1);(try clear c22);(try clear c22b0);(try clear c22b1);(try clear c23);(try clear q25);(try clear hcz10_0 hcz10_1 hfz10_0 hfz10_1);(try clear hcz24_0 hcz24_1 hcz24_2 hcz24_3 hcz24_4 hfz24_0 hfz24_1 hfz24_2 hfz24_3 hfz24_4);(try clear hcz3_0 hcz3_1 hcz3_2 hcz3_3 hcz3_4 hfz3_0 hfz3_1 hfz3_2 hfz3_3 hfz3_4);(try clear hx114_0);(try clear hx114_1);(try clear p1);(try clear p11);(try clear p114);(try clear p2);(try clear q1);(try clear q11);(try clear q114);(try clear q25);obtain ⟨x28_3,rfl,HA,HK3,BK113,BK115,HB⟩:=hrel;cases gk with
        | zero=>exact absurd HA.out (by simp [spec_syGood.l1])
        | succ k3 =>
         have H:=HA.out;clear HA;simp only [spec_syGood.l1] at H;by_cases c26:x28_3 < (y117.length:Int)
         ·rw [if_pos c26] at H;have c26b0:decide (x28_3 < (y117.length:Int)) = true:=decide_eq_true c26;clear c26;replace H:=np_ H;obtain ⟨c27,H⟩:=H;have c27b0:decide (0 ≤ x28_3) = true:=decide_eq_true c27;clear c27;replace H:=np_ H;obtain ⟨c28,H⟩:=H;have c28b0:decide (x28_3 < (y117.length:Int)) = true:=decide_eq_true c28;clear c28;by_cases c29:(((rd_T88 l0_2 x10_1).f0) == ((rd_T88 y117 x28_3).f0) && (((rd_T88 l0_2 x10_1).f1) == ((rd_T88 y117 x28_3).f1))) = true
          ·rw [if_pos c29] at H;have c29b0:(((rd_T88 l0_2 x10_1).f0) == ((rd_T88 y117 x28_3).f0) && (((rd_T88 l0_2 x10_1).f1) == ((rd_T88 y117 x28_3).f1))) = true:=c29;(try (have c29b1:decide (((rd_T88 l0_2 x10_1).f0) = ((rd_T88 y117 x28_3).f0) && (((rd_T88 l0_2 x10_1).f1) == ((rd_T88 y117 x28_3).f1))) = true:=by simpa using c29))
           (try (have c29b2:(((rd_T88 l0_2 x10_1).f0) == ((rd_T88 y117 x28_3).f0) && (((rd_T88 l0_2 x10_1).f1) == ((rd_T88 y117 x28_3).f1))) = true:=by simpa using c29))
           clear c29;obtain rfl:=Option.some.inj H;have p121:0 ≤ (x28_3:Int):=of_decide_eq_true (by first | (with_reducible assumption) | assumption);have q121:x28_3 < (y117.length:Int):=of_decide_eq_true (by first | (with_reducible assumption) | assumption);obtain ⟨ad121,e121,hx121_0,hx121_1⟩:=at_T88 HR120.out x28_3 p121 q121;obtain rfl:ad114 = ad121:=(by injection e121)
           replace hx121_0:=(HB.out.cell (World.block_lt_of_cell? w _ hx121_0)).trans hx121_0;replace hx121_1:=(HB.out.cell (World.block_lt_of_cell? w _ hx121_1)).trans hx121_1;replace p121:=eq_true p121;replace q121:=eq_true q121;go_wp2_with (first | ((with_reducible refine gate_dst (N:=6) rfl ?_);refine box_event ?hg (N:=6) ?hd (cs:=#[.int .i64 0,.int .i64 0]) (t:=88) ?hr ?_;(case hd=>rfl);(case hg=>rfl);(case hr=>first | (go_simp;done) | (go_simp;rfl));intro gb122 hg w30 hbox hb;refine ev10 (kb BK113 hb) (kb BK115 hb) (bs HB hb) (hbox) (gle hg HB) (gle hg HB) (gnf hg BK113) (gne hg BK113) (gnf hg BK115) (gne hg BK115) ?_;clear BK113 BK115 HB;intro BK113 BK115 HB BK122 GW122 GE122 NB113_122 NB122_113 NB115_122 NB122_115;clear hb hbox hg;have hnb31:=NB122_113.out;have hnc31:=NB113_122.out;have hnb32:=NB122_115.out;have hnc32:=NB115_122.out;obtain ⟨hcz33_0,hcz33_1,hfz33_0,hfz33_1⟩:=bt2 BK122;have hnb34:=NB115_113.out;have hnc34:=NB113_115.out;obtain ⟨hcz35_0,hcz35_1,hfz35_0,hfz35_1⟩:=bt2 BK115))
           go_ret;exact ⟨by first | rfl | (simp [e0_,e1_] <;> rfl) | (simp [*,e0_,e1_] <;> rfl),bm HB⟩
          ·rw [if_neg c29] at H;have c29b0:(((rd_T88 l0_2 x10_1).f0) == ((rd_T88 y117 x28_3).f0) && (((rd_T88 l0_2 x10_1).f1) == ((rd_T88 y117 x28_3).f1))) = false:=by simpa using c29
           (try (have c29b1:decide (((rd_T88 l0_2 x10_1).f0) = ((rd_T88 y117 x28_3).f0) && (((rd_T88 l0_2 x10_1).f1) == ((rd_T88 y117 x28_3).f1))) = false:=by simpa using c29))
           (try (have c29b2:(((rd_T88 l0_2 x10_1).f0) == ((rd_T88 y117 x28_3).f0) && (((rd_T88 l0_2 x10_1).f1) == ((rd_T88 y117 x28_3).f1))) = false:=by simpa using c29))
           (try (have c29b3:¬ (((rd_T88 l0_2 x10_1).f0) = ((rd_T88 y117 x28_3).f0) && (((rd_T88 l0_2 x10_1).f1) == ((rd_T88 y117 x28_3).f1))):=by simpa using c29))
           clear c29;have H':=Aside0.mk H;clear H;have p121:0 ≤ (x28_3:Int):=of_decide_eq_true (by first | (with_reducible assumption) | assumption);have q121:x28_3 < (y117.length:Int):=of_decide_eq_true (by first | (with_reducible assumption) | assumption);obtain ⟨ad121,e121,hx121_0,hx121_1⟩:=at_T88 HR120.out x28_3 p121 q121;obtain rfl:ad114 = ad121:=(by injection e121)
           replace hx121_0:=(HB.out.cell (World.block_lt_of_cell? w _ hx121_0)).trans hx121_0;replace hx121_1:=(HB.out.cell (World.block_lt_of_cell? w _ hx121_1)).trans hx121_1;replace p121:=eq_true p121;replace q121:=eq_true q121;go_wp2_with (first | ((with_reducible refine gate_dst (N:=6) rfl ?_);refine box_event ?hg (N:=6) ?hd (cs:=#[.int .i64 0,.int .i64 0]) (t:=88) ?hr ?_;(case hd=>rfl);(case hg=>rfl);(case hr=>first | (go_simp;done) | (go_simp;rfl));intro gb122 hg w36 hbox hb;refine ev10 (kb BK113 hb) (kb BK115 hb) (bs HB hb) (hbox) (gle hg HB) (gle hg HB) (gnf hg BK113) (gne hg BK113) (gnf hg BK115) (gne hg BK115) ?_;clear BK113 BK115 HB;intro BK113 BK115 HB BK122 GW122 GE122 NB113_122 NB122_113 NB115_122 NB122_115;clear hb hbox hg;have hnb37:=NB122_113.out;have hnc37:=NB113_122.out;have hnb38:=NB122_115.out;have hnc38:=NB115_122.out;obtain ⟨hcz39_0,hcz39_1,hfz39_0,hfz39_1⟩:=bt2 BK122;have hnb40:=NB115_113.out;have hnc40:=NB113_115.out;obtain ⟨hcz41_0,hcz41_1,hfz41_0,hfz41_1⟩:=bt2 BK115))
           go_roundg k3
           case measure=>have:=HK1.out;have:=HJ6.out;have:=HK3.out;omega
           case rel=>exact ⟨(wrap64 (x28_3 + 1)),(by first | rfl | (simp;done) | (simp [*];done)),H',⟨by have:=HK1.out;have:=HJ6.out;have:=HK3.out;omega⟩,⟨fp BK113 rfl⟩,⟨fp BK115 rfl⟩,⟨bm HB⟩⟩
         ·rw [if_neg c26] at H;have c26b0:decide (x28_3 < (y117.length:Int)) = false:=decide_eq_false c26;clear c26;have H':=Aside0.mk H;clear H;go_wp2;go_roundg k3
          case measure=>have:=HK1.out;have:=HJ6.out;have:=HK3.out;omega
          case rel=>exact ⟨(wrap64 (x10_1 + 1)),(by first | rfl | (simp;done) | (simp [*];done)),H',⟨by have:=HK1.out;have:=HJ6.out;have:=HK3.out;omega⟩,⟨km_ BK113⟩,⟨bm HB⟩⟩
   ·rw [if_neg c4] at H;have c4b0:decide (x10_1 < (l0_2.length:Int)) = false:=decide_eq_false c4;clear c4;have HC42:=Aside0.mk H;clear H;go_upto_region 13 with (fail)
    go_cut [69] (fun v69 wc=>∃ (kq:Nat) (x69_41:Bool),v69 = .bool x69_41∧Aside0 (spec_syGood.j3 kq x69_41 a0_0 a0_1 l0_2 l0_3 l0_4 = some r)∧Aside0 (kq ≤ k1)∧Aside0 (wc.heap[gb113]? = some (.cells #[.int .i64 a0_0,.int .i64 a0_1,(.slice A0_2 l0_2.length c0_2),(.slice A0_3 l0_3.length c0_3),(.slice A0_4 l0_4.length c0_4)] 31 (0,0)))∧Aside0 (Below w.heap.size w wc))
    case first =>
     have H:=HC42.out;clear HC42;replace H:=Option.bind_eq_some_iff.mp H;obtain ⟨t123,A430,H⟩:=H;(try dsimp only at H)
     have A43:=Aside0.mk A430;clear A430;by_cases c44:t123 = true
     ·subst c44;have H1:((spec_l1In.f a0_1 1 4).bind fun t124=>(if t124 = true then ((spec_l1In.f (l0_2.length:Int) 1 6).bind fun t125=>(if t125 = true then ((spec_l1In.f (l0_3.length:Int) 1 8).bind fun t126=>(if t126 = true then (spec_syGood.j3 k1 ((l0_4.length:Int) != (l0_3.length:Int)) a0_0 a0_1 l0_2 l0_3 l0_4) else (spec_syGood.j3 k1 true a0_0 a0_1 l0_2 l0_3 l0_4))) else (spec_syGood.j3 k1 true a0_0 a0_1 l0_2 l0_3 l0_4))) else (spec_syGood.j3 k1 true a0_0 a0_1 l0_2 l0_3 l0_4))) = some r:=by rw [if_pos rfl] at H;exact H
      clear H;have H:=H1;clear H1;replace H:=Option.bind_eq_some_iff.mp H;obtain ⟨t124,A450,H⟩:=H;(try dsimp only at H)
      have A45:=Aside0.mk A450;clear A450;by_cases c46:t124 = true
      ·subst c46;have H1:((spec_l1In.f (l0_2.length:Int) 1 6).bind fun t125=>(if t125 = true then ((spec_l1In.f (l0_3.length:Int) 1 8).bind fun t126=>(if t126 = true then (spec_syGood.j3 k1 ((l0_4.length:Int) != (l0_3.length:Int)) a0_0 a0_1 l0_2 l0_3 l0_4) else (spec_syGood.j3 k1 true a0_0 a0_1 l0_2 l0_3 l0_4))) else (spec_syGood.j3 k1 true a0_0 a0_1 l0_2 l0_3 l0_4))) = some r:=by rw [if_pos rfl] at H;exact H
       clear H;have H:=H1;clear H1;replace H:=Option.bind_eq_some_iff.mp H;obtain ⟨t125,A470,H⟩:=H;(try dsimp only at H)
       have A47:=Aside0.mk A470;clear A470;by_cases c48:t125 = true
       ·subst c48;have H1:((spec_l1In.f (l0_3.length:Int) 1 8).bind fun t126=>(if t126 = true then (spec_syGood.j3 k1 ((l0_4.length:Int) != (l0_3.length:Int)) a0_0 a0_1 l0_2 l0_3 l0_4) else (spec_syGood.j3 k1 true a0_0 a0_1 l0_2 l0_3 l0_4))) = some r:=by rw [if_pos rfl] at H;exact H
        clear H;have H:=H1;clear H1;replace H:=Option.bind_eq_some_iff.mp H;obtain ⟨t126,A490,H⟩:=H;(try dsimp only at H)
        have A49:=Aside0.mk A490;clear A490;by_cases c50:t126 = true
        ·subst c50;have H1:(spec_syGood.j3 k1 ((l0_4.length:Int) != (l0_3.length:Int)) a0_0 a0_1 l0_2 l0_3 l0_4) = some r:=by rw [if_pos rfl] at H;exact H
         clear H;have H:=H1;clear H1;have H':=Aside0.mk H;clear H;obtain ⟨hcz51_0,hcz51_1,hcz51_2,hcz51_3,hcz51_4,hfz51_0,hfz51_1,hfz51_2,hfz51_3,hfz51_4⟩:=bt5 BK113;go_wp2_with (first | ((with_reducible refine gate_callee (f:=89) rfl ?_);refine gL_ (some 39) Try.func89 #[.int .i64 a0_0,.int .i64 1,.int .i64 4] (h:=?_);(with_reducible refine (spec_l1In.calls a0_0 1 4 true _ A43.out).mono ?_);rintro e w' ⟨rfl,⟨nd,rfl⟩⟩;refine ⟨_,rfl,?_⟩) | (go_at_call 89;(with_reducible refine (spec_l1In.calls a0_1 1 4 true _ A45.out).mono ?_);rintro e w' ⟨rfl,⟨nd,rfl⟩⟩) | (go_at_call 89;(with_reducible refine (spec_l1In.calls (l0_2.length:Int) 1 6 true _ A47.out).mono ?_);rintro e w' ⟨rfl,⟨nd,rfl⟩⟩) | (go_at_call 89;(with_reducible refine (spec_l1In.calls (l0_3.length:Int) 1 8 true _ A49.out).mono ?_);rintro e w' ⟨rfl,⟨nd,rfl⟩⟩))
         go_meet
         case rel=>exact ⟨_,(((l0_4.length:Int) != (l0_3.length:Int))),(by first | rfl | (simp;done) | (simp [*];done)),H',⟨by have:=HK1.out;first | omega | exact Nat.le_refl _⟩,⟨km_ BK113⟩,⟨bm HB⟩⟩
        ·replace c50:=Bool.eq_false_iff.mpr c50;subst c50;have H1:(spec_syGood.j3 k1 true a0_0 a0_1 l0_2 l0_3 l0_4) = some r:=by rw [if_neg (show ¬ (false = true) by decide)] at H;exact H
         clear H;have H:=H1;clear H1;have H':=Aside0.mk H;clear H;obtain ⟨hcz52_0,hcz52_1,hcz52_2,hcz52_3,hcz52_4,hfz52_0,hfz52_1,hfz52_2,hfz52_3,hfz52_4⟩:=bt5 BK113;go_wp2_with (first | ((with_reducible refine gate_callee (f:=89) rfl ?_);refine gL_ (some 39) Try.func89 #[.int .i64 a0_0,.int .i64 1,.int .i64 4] (h:=?_);(with_reducible refine (spec_l1In.calls a0_0 1 4 true _ A43.out).mono ?_);rintro e w' ⟨rfl,⟨nd,rfl⟩⟩;refine ⟨_,rfl,?_⟩) | (go_at_call 89;(with_reducible refine (spec_l1In.calls a0_1 1 4 true _ A45.out).mono ?_);rintro e w' ⟨rfl,⟨nd,rfl⟩⟩) | (go_at_call 89;(with_reducible refine (spec_l1In.calls (l0_2.length:Int) 1 6 true _ A47.out).mono ?_);rintro e w' ⟨rfl,⟨nd,rfl⟩⟩) | (go_at_call 89;(with_reducible refine (spec_l1In.calls (l0_3.length:Int) 1 8 false _ A49.out).mono ?_);rintro e w' ⟨rfl,⟨nd,rfl⟩⟩))
         go_meet
         case rel=>exact ⟨_,(true),(by first | rfl | (simp;done) | (simp [*];done)),H',⟨by have:=HK1.out;first | omega | exact Nat.le_refl _⟩,⟨km_ BK113⟩,⟨bm HB⟩⟩
       ·replace c48:=Bool.eq_false_iff.mpr c48;subst c48;have H1:(spec_syGood.j3 k1 true a0_0 a0_1 l0_2 l0_3 l0_4) = some r:=by rw [if_neg (show ¬ (false = true) by decide)] at H;exact H
        clear H;have H:=H1;clear H1;have H':=Aside0.mk H;clear H;obtain ⟨hcz53_0,hcz53_1,hcz53_2,hcz53_3,hcz53_4,hfz53_0,hfz53_1,hfz53_2,hfz53_3,hfz53_4⟩:=bt5 BK113;go_wp2_with (first | ((with_reducible refine gate_callee (f:=89) rfl ?_);refine gL_ (some 39) Try.func89 #[.int .i64 a0_0,.int .i64 1,.int .i64 4] (h:=?_);(with_reducible refine (spec_l1In.calls a0_0 1 4 true _ A43.out).mono ?_);rintro e w' ⟨rfl,⟨nd,rfl⟩⟩;refine ⟨_,rfl,?_⟩) | (go_at_call 89;(with_reducible refine (spec_l1In.calls a0_1 1 4 true _ A45.out).mono ?_);rintro e w' ⟨rfl,⟨nd,rfl⟩⟩) | (go_at_call 89;(with_reducible refine (spec_l1In.calls (l0_2.length:Int) 1 6 false _ A47.out).mono ?_);rintro e w' ⟨rfl,⟨nd,rfl⟩⟩))
        go_meet
        case rel=>exact ⟨_,(true),(by first | rfl | (simp;done) | (simp [*];done)),H',⟨by have:=HK1.out;first | omega | exact Nat.le_refl _⟩,⟨km_ BK113⟩,⟨bm HB⟩⟩
      ·replace c46:=Bool.eq_false_iff.mpr c46;subst c46;have H1:(spec_syGood.j3 k1 true a0_0 a0_1 l0_2 l0_3 l0_4) = some r:=by rw [if_neg (show ¬ (false = true) by decide)] at H;exact H
       clear H;have H:=H1;clear H1;have H':=Aside0.mk H;clear H;obtain ⟨hcz54_0,hcz54_1,hcz54_2,hcz54_3,hcz54_4,hfz54_0,hfz54_1,hfz54_2,hfz54_3,hfz54_4⟩:=bt5 BK113;go_wp2_with (first | ((with_reducible refine gate_callee (f:=89) rfl ?_);refine gL_ (some 39) Try.func89 #[.int .i64 a0_0,.int .i64 1,.int .i64 4] (h:=?_);(with_reducible refine (spec_l1In.calls a0_0 1 4 true _ A43.out).mono ?_);rintro e w' ⟨rfl,⟨nd,rfl⟩⟩;refine ⟨_,rfl,?_⟩) | (go_at_call 89;(with_reducible refine (spec_l1In.calls a0_1 1 4 false _ A45.out).mono ?_);rintro e w' ⟨rfl,⟨nd,rfl⟩⟩))
       go_meet
       case rel=>exact ⟨_,(true),(by first | rfl | (simp;done) | (simp [*];done)),H',⟨by have:=HK1.out;first | omega | exact Nat.le_refl _⟩,⟨km_ BK113⟩,⟨bm HB⟩⟩
     ·replace c44:=Bool.eq_false_iff.mpr c44;subst c44;have H1:(spec_syGood.j3 k1 true a0_0 a0_1 l0_2 l0_3 l0_4) = some r:=by rw [if_neg (show ¬ (false = true) by decide)] at H;exact H
      clear H;have H:=H1;clear H1;have H':=Aside0.mk H;clear H;obtain ⟨hcz55_0,hcz55_1,hcz55_2,hcz55_3,hcz55_4,hfz55_0,hfz55_1,hfz55_2,hfz55_3,hfz55_4⟩:=bt5 BK113;go_wp2_with (first | ((with_reducible refine gate_callee (f:=89) rfl ?_);refine gL_ (some 39) Try.func89 #[.int .i64 a0_0,.int .i64 1,.int .i64 4] (h:=?_);(with_reducible refine (spec_l1In.calls a0_0 1 4 false _ A43.out).mono ?_);rintro e w' ⟨rfl,⟨nd,rfl⟩⟩;refine ⟨_,rfl,?_⟩))
      go_meet
      case rel=>exact ⟨_,(true),(by first | rfl | (simp;done) | (simp [*];done)),H',⟨by have:=HK1.out;first | omega | exact Nat.le_refl _⟩,⟨km_ BK113⟩,⟨bm HB⟩⟩
    case rest =>
     clear HC42;(try clear p2);(try clear c4);(try clear c4b0);(try clear c6);(try clear hcz3_0 hcz3_1 hcz3_2 hcz3_3 hcz3_4 hfz3_0 hfz3_1 hfz3_2 hfz3_3 hfz3_4);(try clear p2);obtain ⟨kq,x69_41,rfl,HA,HJ41,BK113,HB⟩:=hcut;cases kq with
     | zero=>exact absurd HA.out (by simp [spec_syGood.j3])
     | succ kj41 =>
      have H:=HA.out;clear HA;simp only [spec_syGood.j3] at H;by_cases c56:x69_41 = true
      ·subst c56;have H1:(some false) = some r:=by rw [if_pos rfl] at H;exact H
       clear H;have H:=H1;clear H1;obtain rfl:=Option.some.inj H;go_wp2;go_ret;exact ⟨by first | rfl | (simp [e0_,e1_] <;> rfl) | (simp [*,e0_,e1_] <;> rfl),bm HB⟩
      ·replace c56:=Bool.eq_false_iff.mpr c56;subst c56;have H1:((spec_l1All.f kj41 l0_3 0 (wrap64 (a0_1 - 1))).bind fun t127=>(if t127 = true then ((spec_l1All.f kj41 l0_4 0 (wrap64 (a0_1 + 1))).bind fun t128=>(if t128 = true then ((spec_syTried.f kj41 a0_0 a0_1 l0_2 l0_3 l0_4).bind fun t129=>(some (decide (t129 ≤ 7000)))) else (some false))) else (some false))) = some r:=by rw [if_neg (show ¬ (false = true) by decide)] at H;exact H
       clear H;have H:=H1;clear H1;replace H:=Option.bind_eq_some_iff.mp H;obtain ⟨t127,A570,H⟩:=H;(try dsimp only at H)
       have A57:=Aside0.mk A570;clear A570;by_cases c58:t127 = true
       ·subst c58;have H1:((spec_l1All.f kj41 l0_4 0 (wrap64 (a0_1 + 1))).bind fun t128=>(if t128 = true then ((spec_syTried.f kj41 a0_0 a0_1 l0_2 l0_3 l0_4).bind fun t129=>(some (decide (t129 ≤ 7000)))) else (some false))) = some r:=by rw [if_pos rfl] at H;exact H
        clear H;have H:=H1;clear H1;replace H:=Option.bind_eq_some_iff.mp H;obtain ⟨t128,A590,H⟩:=H;(try dsimp only at H)
        have A59:=Aside0.mk A590;clear A590;by_cases c60:t128 = true
        ·subst c60;have H1:((spec_syTried.f kj41 a0_0 a0_1 l0_2 l0_3 l0_4).bind fun t129=>(some (decide (t129 ≤ 7000)))) = some r:=by rw [if_pos rfl] at H;exact H
         clear H;have H:=H1;clear H1;replace H:=Option.bind_eq_some_iff.mp H;obtain ⟨t129,A610,H⟩:=H;(try dsimp only at H)
         have A61:=Aside0.mk A610;clear A610;obtain rfl:=Option.some.inj H;obtain ⟨hcz62_0,hcz62_1,hcz62_2,hcz62_3,hcz62_4,hfz62_0,hfz62_1,hfz62_2,hfz62_3,hfz62_4⟩:=bt5 BK113;go_wp2_with (first | ((with_reducible refine gate_callee (f:=102) rfl ?_);refine gL_ (some 75) Try.func102 #[.slice A0_3 l0_3.length c0_3,.int .i64 0,.int .i64 (wrap64 (a0_1 - 1))] (h:=?_);(with_reducible refine (spec_l1All.calls kj41 _ _ l0_3 0 (wrap64 (a0_1 - 1)) true _ (Kd.C_mv (Kd.C_below HR0_3.out HB.out)) HC0_3.out A57.out).mono ?_);rintro e w' ⟨rfl,⟨nd,rfl⟩⟩;refine ⟨_,rfl,?_⟩) | (go_at_call 102;(with_reducible refine (spec_l1All.calls kj41 _ _ l0_4 0 (wrap64 (a0_1 + 1)) true _ (Kd.C_below HR0_4.out (bm HB)) HC0_4.out A59.out).mono ?_);rintro e w' ⟨rfl,⟨nd,rfl⟩⟩) | (go_at_call 103;(with_reducible refine (spec_syTried.calls kj41 a0_0 a0_1 _ _ l0_2 _ _ l0_3 _ _ l0_4 t129 _ (Kd.C_below HR0_2.out (bm HB)) HC0_2.out (Kd.C_below HR0_3.out (bm HB)) HC0_3.out (Kd.C_below HR0_4.out (bm HB)) HC0_4.out A61.out).mono ?_);rintro e w63 ⟨rfl,hb⟩;refine ev2 (kb BK113 hb) (bs HB hb) ?_;clear BK113 HB;intro BK113 HB;(try clear hb)))
         go_ret;exact ⟨by first | rfl | (simp [e0_,e1_] <;> rfl) | (simp [*,e0_,e1_] <;> rfl),bm HB⟩
        ·replace c60:=Bool.eq_false_iff.mpr c60;subst c60;have H1:(some false) = some r:=by rw [if_neg (show ¬ (false = true) by decide)] at H;exact H
         clear H;have H:=H1;clear H1;obtain rfl:=Option.some.inj H;obtain ⟨hcz64_0,hcz64_1,hcz64_2,hcz64_3,hcz64_4,hfz64_0,hfz64_1,hfz64_2,hfz64_3,hfz64_4⟩:=bt5 BK113;go_wp2_with (first | ((with_reducible refine gate_callee (f:=102) rfl ?_);refine gL_ (some 75) Try.func102 #[.slice A0_3 l0_3.length c0_3,.int .i64 0,.int .i64 (wrap64 (a0_1 - 1))] (h:=?_);(with_reducible refine (spec_l1All.calls kj41 _ _ l0_3 0 (wrap64 (a0_1 - 1)) true _ (Kd.C_mv (Kd.C_below HR0_3.out HB.out)) HC0_3.out A57.out).mono ?_);rintro e w' ⟨rfl,⟨nd,rfl⟩⟩;refine ⟨_,rfl,?_⟩) | (go_at_call 102;(with_reducible refine (spec_l1All.calls kj41 _ _ l0_4 0 (wrap64 (a0_1 + 1)) false _ (Kd.C_below HR0_4.out (bm HB)) HC0_4.out A59.out).mono ?_);rintro e w' ⟨rfl,⟨nd,rfl⟩⟩))
         go_ret;exact ⟨by first | rfl | (simp [e0_,e1_] <;> rfl) | (simp [*,e0_,e1_] <;> rfl),bm HB⟩
       ·replace c58:=Bool.eq_false_iff.mpr c58;subst c58;have H1:(some false) = some r:=by rw [if_neg (show ¬ (false = true) by decide)] at H;exact H
        clear H;have H:=H1;clear H1;obtain rfl:=Option.some.inj H;obtain ⟨hcz65_0,hcz65_1,hcz65_2,hcz65_3,hcz65_4,hfz65_0,hfz65_1,hfz65_2,hfz65_3,hfz65_4⟩:=bt5 BK113;go_wp2_with (first | ((with_reducible refine gate_callee (f:=102) rfl ?_);refine gL_ (some 75) Try.func102 #[.slice A0_3 l0_3.length c0_3,.int .i64 0,.int .i64 (wrap64 (a0_1 - 1))] (h:=?_);(with_reducible refine (spec_l1All.calls kj41 _ _ l0_3 0 (wrap64 (a0_1 - 1)) false _ (Kd.C_mv (Kd.C_below HR0_3.out HB.out)) HC0_3.out A57.out).mono ?_);rintro e w' ⟨rfl,⟨nd,rfl⟩⟩;refine ⟨_,rfl,?_⟩))
        go_ret;exact ⟨by first | rfl | (simp [e0_,e1_] <;> rfl) | (simp [*,e0_,e1_] <;> rfl),bm HB⟩

/-! ### spec_boParts: function 96 -/
def spec_boParts.l0:Nat→List Int→List (S88)→Int→Int→Option (List Int)
 | 0,_,_,_,_=>none
 | k + 1,x3,x8,x9,x10=>if x10 < x9 then (if 0 ≤ x10 then (if x10 < (x8.length:Int) then (if 0 ≤ ((rd_T88 x8 x10).f0) then (if ((rd_T88 x8 x10).f0) < (x3.length:Int) then (spec_boParts.l0 k (x3.set (((rd_T88 x8 x10).f0):Int).toNat (wrap64 ((rd x3 ((rd_T88 x8 x10).f0)) + 1))) x8 x9 (wrap64 (x10 + 1))) else (none)) else (none)) else (none)) else (none)) else (some x3)
def spec_boParts.f (k:Nat) (a0_0:Int) (a0_1:Int) (l0_2:List (S88)):Option (List Int):=if 8 ≤ 35184372088832 then (spec_boParts.l0 k (List.replicate 8 0) l0_2 (l0_2.length:Int) 0) else (none)
theorem spec_boParts.calls (k:Nat) (a0_0:Int) (a0_1:Int) (A0_2:Option Addr) (c0_2:Nat) (l0_2:List (S88)) (r:List Int) (w:World) (hr0_2:Kd.C k88 w A0_2 l0_2.length l0_2) (hc0_2:l0_2.length ≤ c0_2) (h:spec_boParts.f k a0_0 a0_1 l0_2 = some r) :
  Calls Try.prog 96 #[.agg #[.int .i64 a0_0,.int .i64 a0_1,.slice A0_2 l0_2.length c0_2]] w fun e w'=>∃ v0_:Value,e = .returned (v0_)∧Kd.R (Kd.int .i64) 3 w' w.heap.size (fun _=>True) v0_ r∧Below w.heap.size w w':=by
 have HR0_2:=Aside0.mk hr0_2;have HC0_2:=Aside0.mk hc0_2;clear hr0_2 hc0_2;have HB:=Aside0.mk (Below.refl w.heap.size w);have H:(if 8 ≤ 35184372088832 then (spec_boParts.l0 k (List.replicate 8 0) l0_2 (l0_2.length:Int) 0) else (none)) = some r:=h;clear h;replace H:=np_ H;obtain ⟨c2,H⟩:=H;have c2b0:=eq_true c2;have c2b1:decide (8 ≤ 35184372088832) = true:=decide_eq_true c2;clear c2;obtain ⟨y131,hy131⟩:∃ y_:List Int,y_ = (List.replicate 8 0):=⟨_,rfl⟩
 replace H:(spec_boParts.l0 k y131 l0_2 (l0_2.length:Int) 0) = some r:=by first | (rw [hy131];with_reducible exact H) | (have H2_:=(Option.bind_some _ _).symm.trans H;rw [hy131];with_reducible exact H2_) | (have H2_:=(Option.bind_some _ _).symm.trans H;with_reducible exact H2_) | with_reducible exact H | (rw [hy131];exact H) | exact H
 have Ny131:=Aside0.mk hy131;clear hy131;have H':=Aside0.mk H;clear H;go_enter Try.func96,Try.ntmps96;go_wp2_with (first | ((with_reducible refine gate_dst (N:=1) rfl ?_);refine box_event ?hg (N:=1) ?hd (cs:=#[.int .i64 a0_0,.int .i64 a0_1,.slice A0_2 l0_2.length c0_2]) (t:=50) ?hr ?_;(case hd=>rfl);(case hg=>rfl);(case hr=>first | (go_simp;done) | (go_simp;rfl));intro gb130 hg w3 hbox hb;refine ev4 (bs HB hb) (hbox) (gle hg HB) (gle hg HB) ?_;clear HB;intro HB BK130 GW130 GE130;clear hb hbox hg) | ((with_reducible refine gate_dst (N:=6) rfl ?_);refine Kd.R_make (Kd.int .i64) _ 3 rfl (N:=6) rfl 23 _ _ rfl 8 rfl rfl Try.underlying23 (.int .i64 0) 8 info3 rfl (by decide) (by omega) 0 (ok:=fun _=>True) (okp:=fun _=>True) rfl (fun _ hk=>hk) trivial (by omega) (by omega) (Below.refl _ _) (Nat.le_refl _) ?_;intro v132 w4 ho5 hb hg_ hnew_;clear hg_ hnew_;(first | rw [← Ny131.out] at ho5 | (simp only [Int.reduceToNat] at ho5;rw [← Ny131.out] at ho5));refine ev3 (Kd.R_lower ho5 (below_size (bm HB))) (kb BK130 hb) (bs HB hb) ?_;clear BK130 HB;intro HO133 BK130 HB;clear hb ho5;obtain ⟨hcz6_0,hcz6_1,hcz6_2,hfz6_0,hfz6_1,hfz6_2⟩:=bt3 BK130))
 go_loopg [10] k (fun kq v10 w'=>∃ (x3_1:List Int) (x10_1:Int),v10 = .int .i64 x10_1∧Aside0 (spec_boParts.l0 kq x3_1 l0_2 (l0_2.length:Int) x10_1 = some r)∧Aside0 (kq ≤ k)∧Aside0 (Kd.R (Kd.int .i64) 3 w' w.heap.size (fun _=>True) v132 x3_1)∧Aside0 (w'.heap[gb130]? = some (.cells #[.int .i64 a0_0,.int .i64 a0_1,(.slice A0_2 l0_2.length c0_2)] 50 (0,0)))∧Aside0 (Below w.heap.size w w'))
 case atStart=>exact ⟨(y131),(0),(by first | rfl | (simp;done) | (simp [*];done)),H',⟨Nat.le_refl _⟩,⟨Kd.R_mv HO133.out⟩,⟨km_ BK130⟩,⟨bm HB⟩⟩
 case round =>
  clear H';(try clear c2);(try clear c2b0);(try clear c2b1);(try clear p2);(try clear hcz6_0 hcz6_1 hcz6_2 hfz6_0 hfz6_1 hfz6_2);obtain ⟨x3_1,x10_1,rfl,HA,HK1,HO_3,BK130,HB⟩:=hrel;cases gk with
  | zero=>exact absurd HA.out (by simp [spec_boParts.l0])
  | succ k1 =>
   have H:=HA.out;clear HA;simp only [spec_boParts.l0] at H;by_cases c7:x10_1 < (l0_2.length:Int)
   ·rw [if_pos c7] at H;have c7b0:decide (x10_1 < (l0_2.length:Int)) = true:=decide_eq_true c7;clear c7;replace H:=np_ H;obtain ⟨c8,H⟩:=H;have c8b0:decide (0 ≤ x10_1) = true:=decide_eq_true c8;clear c8;replace H:=np_ H;obtain ⟨c9,H⟩:=H;have c9b0:decide (x10_1 < (l0_2.length:Int)) = true:=decide_eq_true c9;clear c9;replace H:=np_ H;obtain ⟨c10,H⟩:=H;have c10b0:decide (0 ≤ ((rd_T88 l0_2 x10_1).f0)) = true:=decide_eq_true c10;clear c10;replace H:=np_ H;obtain ⟨c11,H⟩:=H;have c11b0:decide (((rd_T88 l0_2 x10_1).f0) < (x3_1.length:Int)) = true:=decide_eq_true c11;clear c11;obtain ⟨y137,hy137⟩:∃ y_:List Int,y_ = (x3_1.set (((rd_T88 l0_2 x10_1).f0):Int).toNat (wrap64 ((rd x3_1 ((rd_T88 l0_2 x10_1).f0)) + 1))):=⟨_,rfl⟩
    replace H:(spec_boParts.l0 k1 y137 l0_2 (l0_2.length:Int) (wrap64 (x10_1 + 1))) = some r:=by first | (rw [hy137];with_reducible exact H) | (have H2_:=(Option.bind_some _ _).symm.trans H;rw [hy137];with_reducible exact H2_) | (have H2_:=(Option.bind_some _ _).symm.trans H;with_reducible exact H2_) | with_reducible exact H | (rw [hy137];exact H) | exact H
    have Ny137:=Aside0.mk hy137;clear hy137;have H':=Aside0.mk H;clear H;have p134:0 ≤ (x10_1:Int):=of_decide_eq_true (by first | (with_reducible assumption) | assumption);have q134:x10_1 < (l0_2.length:Int):=of_decide_eq_true (by first | (with_reducible assumption) | assumption);obtain ⟨ad134,e134,hx134_0,hx134_1⟩:=at_T88 HR0_2.out x10_1 p134 q134;cases e134;replace hx134_0:=(HB.out.cell (World.block_lt_of_cell? w _ hx134_0)).trans hx134_0;replace hx134_1:=(HB.out.cell (World.block_lt_of_cell? w _ hx134_1)).trans hx134_1;replace p134:=eq_true p134;replace q134:=eq_true q134;go_wp2_with (first | ((with_reducible refine gate_dst (N:=5) rfl ?_);refine box_event ?hg (N:=5) ?hd (cs:=#[.int .i64 0,.int .i64 0]) (t:=88) ?hr ?_;(case hd=>rfl);(case hg=>rfl);(case hr=>first | (go_simp;done) | (go_simp;rfl));intro gb135 hg w13 hbox hb;refine ev8 (Kd.R_below (Kd.R_mv HO_3.out) hb) (kb BK130 hb) (bs HB hb) (hbox) (gle hg HB) (gle hg HB) (gnf hg BK130) (gne hg BK130) ?_;clear HO_3 BK130 HB;intro HO_3 BK130 HB BK135 GW135 GE135 NB130_135 NB135_130;clear hb hbox hg;have hnb14:=NB135_130.out;have hnc14:=NB130_135.out;obtain ⟨hcz15_0,hcz15_1,hfz15_0,hfz15_1⟩:=bt2 BK135) | ((with_reducible refine gate_store (t:=88) (p:=5) rfl ?_);refine store_event (t:=88) (p:=5) (v:=?vo_w16) (w1:=((w13.setCell ⟨gb135,0,none⟩ (.int .i64 ((rd_T88 l0_2 x10_1).f0))).setCell ⟨gb135,1,none⟩ (.int .i64 ((rd_T88 l0_2 x10_1).f1)))) ?hg ?ho ?hn ?hr ?_;(case ho=>rfl);(case hg=>rfl);(case hn=>rfl);(case hr=>first | (go_simp;done) | (go_simp;rfl));intro w16 hw;have n0_:Aside0 (Kd.R (Kd.int .i64) 3 w16 w.heap.size (fun _=>True) v132 x3_1):=⟨(by rw [hw];exact (Kd.R_mv (Kd.R_mono (ok':=fun k_=>True) (Kd.R_far (p:=⟨gb135,1,none⟩) (Kd.R_far (p:=⟨gb135,0,none⟩) (Kd.R_types HO_3.out BK135.out (by decide)) (fun _ hk=>hk.2) (.int .i64 ((rd_T88 l0_2 x10_1).f0))) (fun _ hk=>hk.2) (.int .i64 ((rd_T88 l0_2 x10_1).f1))) (fun _ hk=>trivial))))⟩;have n1_:Aside0 (w16.heap[gb130]? = some (.cells #[.int .i64 a0_0,.int .i64 a0_1,.slice (some ad134) l0_2.length c0_2] 50 (0,0))):=⟨(by rw [hw];exact (fp BK130 rfl))⟩;have n2_:Aside0 (w16.heap[gb135]? = some (.cells #[.int .i64 ((rd_T88 l0_2 x10_1).f0),.int .i64 ((rd_T88 l0_2 x10_1).f1)] 88 (0,0))):=⟨(by rw [hw];exact (fp BK135 rfl))⟩;have n3_:Aside0 (Below w.heap.size w w16):=⟨(by rw [hw];exact (bm HB))⟩;clear hw;clear HO_3;clear BK130;clear BK135;clear HB;have HO_3:=n0_;have BK130:=n1_;have BK135:=n2_;have HB:=n3_;clear n0_ n1_ n2_ n3_;obtain ⟨hcz17_0,hcz17_1,hfz17_0,hfz17_1⟩:=bt2 BK135;obtain ⟨Ao18,co18,eo18⟩:=Kd.R_slice HO_3.out;subst eo18;have p136:0 ≤ (((rd_T88 l0_2 x10_1).f0):Int):=of_decide_eq_true (by first | (with_reducible assumption) | assumption);have q136:((rd_T88 l0_2 x10_1).f0) < (x3_1.length:Int):=of_decide_eq_true (by first | (with_reducible assumption) | assumption);obtain ⟨ad136,e136,hx136_0⟩:=Kd.at_int (Kd.R_reads' HO_3.out).2.2 ((rd_T88 l0_2 x10_1).f0) p136 q136;cases e136;replace p136:=eq_true p136;replace q136:=eq_true q136;have p12:0 ≤ (((rd_T88 l0_2 x10_1).f0):Int):=of_decide_eq_true (by first | (with_reducible assumption) | assumption);have q12:(((rd_T88 l0_2 x10_1).f0):Int) < ((x3_1.length:Int):Int):=of_decide_eq_true (by first | (with_reducible assumption) | assumption);obtain ⟨go12,co12,eo12,gb12,gl12,cl12,HG12⟩:=Kd.R_form HO_3.out (by omega);(first | cases eo12 | (injection eo12 with ea_ en_ ec_;(first | subst ea_ | (injection ea_ with ea_;subst ea_));subst ec_;clear en_));have GB12:=Aside0.mk gb12;have GG12:=Aside0.mk HG12;clear gb12 gl12 HG12;(first | simp only [add_plain] at hx136_0 | skip);obtain ⟨hx12_0,hf12_0⟩:=Kd.R_celln 0 HO_3.out (((rd_T88 l0_2 x10_1).f0):Int) p12 q12;replace p12:=eq_true p12;replace q12:=eq_true q12;obtain ⟨hy19_,hz19_⟩:=Kd.R_celln 0 HO_3.out (((rd_T88 l0_2 x10_1).f0):Int) (of_decide_eq_true (by first | (with_reducible assumption) | assumption)) (of_decide_eq_true (by first | (with_reducible assumption) | assumption));have HP19:=Kd.R_putg HO_3.out (((rd_T88 l0_2 x10_1).f0):Int) (wrap64 ((rd x3_1 ((rd_T88 l0_2 x10_1).f0)) + 1))) | ((with_reducible refine gate_store (t:=3) (p:=20) rfl ?_);refine store_event (t:=3) (p:=20) (v:=?vo_w20) (w1:=(w16.setCell ⟨go12,(((rd_T88 l0_2 x10_1).f0):Int).toNat,none⟩ (.int .i64 (wrap64 ((rd x3_1 ((rd_T88 l0_2 x10_1).f0)) + 1))))) ?hg ?ho ?hn ?hr ?_;(case ho=>rfl);(case hg=>rfl);(case hn=>rfl);(case hr=>first | (go_simp;done) | (go_simp;rfl));intro w20 hw;have hg:w16.grownBy w20 (some go12):=(by rw [hw];exact HP19.2);have hp_:Kd.R (Kd.int .i64) 3 w20 w.heap.size (fun _=>True) (.slice (some ⟨go12,0,none⟩) x3_1.length co18) y137:=(by rw [hw,Ny137.out];exact HP19.1);clear HP19;refine ev4 (hp_) (blk_grown (km_ BK130) hg (Kd.R_ne HO_3.out BK130.out (by decide))) (blk_grown (km_ BK135) hg (Kd.R_ne HO_3.out BK135.out (by decide))) ((by rw [hw];exact below_set (HB.out) GB12.out:Below w.heap.size w w20)) ?_;clear HO_3 BK130 BK135 HB;intro HO_3 BK130 BK135 HB;clear hg hw hp_))
    go_roundg k1
    case measure=>have:=HK1.out;omega
    case rel=>exact ⟨(y137),(wrap64 (x10_1 + 1)),(by first | rfl | (simp;done) | (simp [*];done)),H',⟨by have:=HK1.out;omega⟩,⟨Kd.R_mv HO_3.out⟩,⟨km_ BK130⟩,⟨bm HB⟩⟩
   ·rw [if_neg c7] at H;have c7b0:decide (x10_1 < (l0_2.length:Int)) = false:=decide_eq_false c7;clear c7;obtain rfl:=Option.some.inj H;go_wp2;go_ret;exact ⟨_,by first | rfl | (simp [e0_,e1_] <;> rfl) | (simp [*,e0_,e1_] <;> rfl),Kd.R_mv HO_3.out,bm HB⟩

/-! ### spec_sySize: function 60 -/
def spec_sySize.f (k:Nat) (a0_0:Int) (a0_1:Int) (l0_2:List (S88)):Option (Int):=(spec_boParts.f k a0_0 a0_1 l0_2).bind fun t139=>(if 0 < (t139.length:Int) then (some (wrap64 ((l0_2.length:Int) - (rd t139 0)))) else (none))
theorem spec_sySize.calls (k:Nat) (a0_0:Int) (a0_1:Int) (A0_2:Option Addr) (c0_2:Nat) (l0_2:List (S88)) (r:Int) (w:World) (hr0_2:Kd.C k88 w A0_2 l0_2.length l0_2) (hc0_2:l0_2.length ≤ c0_2) (h:spec_sySize.f k a0_0 a0_1 l0_2 = some r) :
    Calls Try.prog 60 #[.agg #[.int .i64 a0_0,.int .i64 a0_1,.slice A0_2 l0_2.length c0_2]] w fun e w'=>e = .returned (.int .i64 r)∧Below w.heap.size w w':=by
 have S:=St.init (w:=w) (dc k88_heap at88 hr0_2 hc0_2 dn)
 clear hr0_2 hc0_2
 have F:=S.fc
 have H:=h;clear h;unfold spec_sySize.f at H
 replace H:=Option.bind_eq_some_iff.mp H;obtain ⟨t139,A2,H⟩:=H;(try dsimp only at H)
 replace H:=np_ H;obtain ⟨c3,H⟩:=H;(try have m_t139:0 < t139.length:=by omega)
 obtain rfl:=Option.some.inj H
 go_enter Try.func60,Try.ntmps60
 go_wp2_with (first | ((with_reducible refine gd 1 rfl (L ?_));refine bo 1 (.agg #[_,_,_]) S ?_;clear S F;intro gb138 W S;have F:=S.fc))
 refine rq S [(0,0),(1,1),(0,2),(1,3),(2,4),(0,5),(2,6),(0,7),(0,8)] [] (h:=?_);clear S F;intro W S;have S0:=S;have F:=S.fc
 repeat (first | (refine q0 (h:=?_)) | (refine q1 S0 (h:=?_)) | (refine q0n (h:=?_)) | (refine q1n S0 (h:=?_)) | (refine q2 S0 (h:=?_)))
 refine lk2 (by rfl) (by exact (Eq.refl true)) ?_;refine cl (some 7) Try.func96 (spec_boParts.calls _ _ _ _ _ _ _ _ S.c S.n A2) (hargs:=by (simp only [ma_,mb_,mc_,F] <;> rfl)) (h:=?_);rintro e W ⟨v140,rfl,ho0,hb⟩;refine ⟨_,rfl,?_⟩;replace S:=S.got (atI .i64) hb ho0;obtain ⟨At139,ct139,rfl,S⟩:=S;clear F hb ho0;have F:=S.fc;(try have z_:=rd0_ S m_t139)
 clear S0;have S0:=S.tl;refine ⟨S0,?_⟩
 repeat (first | (refine q0 (h:=?_)) | (refine q1 S0 (h:=?_)) | (refine q0n (h:=?_)) | (refine q1n S0 (h:=?_)) | (refine q2 S0 (h:=?_)))
 refine oz ?_
 try clear S0
 try go_wp2
 go_ret
 exact ⟨(by first | rfl | (simp [e0_,e1_] <;> rfl) | (simp [*,e0_,e1_] <;> rfl)),S.below⟩

/-! ### spec_syBoard: function 84 -/
def spec_syBoard.l0:Nat→Int→Int→Int→Int→List (S88)→List Int→List Int→Int→Int→List (S88)→Option (Int × Int × (List (S88)))
  | 0,_,_,_,_,_,_,_,_,_,_=>none
  | k + 1,x1,x6,x144000,x144001,x144002,x144003,x144004,x149000,x149001,x149002=>if x6 ≥ 0 then (if (wrap64 ((x144002.length:Int) + 1)) = 0 then (none) else (if (Int.tmod x1 (wrap64 ((x144002.length:Int) + 1))) > 0 then (if 0 ≤ (wrap64 ((Int.tmod x1 (wrap64 ((x144002.length:Int) + 1))) - 1)) then (if (wrap64 ((Int.tmod x1 (wrap64 ((x144002.length:Int) + 1))) - 1)) < (x144002.length:Int) then (if 0 ≤ x6 then (if x6 < (x149002.length:Int) then (spec_syBoard.l0 k (wrap64 (Int.tdiv x1 (wrap64 ((x144002.length:Int) + 1)))) (wrap64 (x6 - 1)) x144000 x144001 x144002 x144003 x144004 x149000 x149001 (x149002.set (x6:Int).toNat (⟨(rd_T88 x144002 (wrap64 ((Int.tmod x1 (wrap64 ((x144002.length:Int) + 1))) - 1))).f0,(rd_T88 x144002 (wrap64 ((Int.tmod x1 (wrap64 ((x144002.length:Int) + 1))) - 1))).f1⟩:S88))) else (none)) else (none)) else (none)) else (none)) else (spec_syBoard.l0 k (wrap64 (Int.tdiv x1 (wrap64 ((x144002.length:Int) + 1)))) (wrap64 (x6 - 1)) x144000 x144001 x144002 x144003 x144004 x149000 x149001 x149002))) else (some (x149000,x149001,x149002))
def spec_syBoard.f (k:Nat) (a0_0:Int) (a0_1:Int) (l0_2:List (S88)) (l0_3:List Int) (l0_4:List Int) (a1:Int):Option (Int × Int × (List (S88))):=if 0 ≤ (wrap64 (a0_0 * a0_1)) then (if (wrap64 (a0_0 * a0_1):Int).toNat ≤ 17592186044416 then ((some (List.replicate (wrap64 (a0_0 * a0_1):Int).toNat z88:List (S88))).bind fun y145=>(spec_syBoard.l0 k a1 (wrap64 ((y145.length:Int) - 1)) a0_0 a0_1 l0_2 l0_3 l0_4 a0_0 a0_1 y145)) else (none)) else (none)
theorem spec_syBoard.calls (k:Nat) (a0_0:Int) (a0_1:Int) (A0_2:Option Addr) (c0_2:Nat) (l0_2:List (S88)) (A0_3:Option Addr) (c0_3:Nat) (l0_3:List Int) (A0_4:Option Addr) (c0_4:Nat) (l0_4:List Int) (a1:Int) (r1:Int) (r2:Int) (r3:List (S88)) (w:World) (hr0_2:Kd.C k88 w A0_2 l0_2.length l0_2) (hc0_2:l0_2.length ≤ c0_2) (hr0_3:Kd.C (Kd.int .i64) w A0_3 l0_3.length l0_3) (hc0_3:l0_3.length ≤ c0_3) (hr0_4:Kd.C (Kd.int .i64) w A0_4 l0_4.length l0_4) (hc0_4:l0_4.length ≤ c0_4) (h:spec_syBoard.f k a0_0 a0_1 l0_2 l0_3 l0_4 a1 = some (r1,r2,r3)) :
    Calls Try.prog 84 #[.agg #[.int .i64 a0_0,.int .i64 a0_1,.slice A0_2 l0_2.length c0_2,.slice A0_3 l0_3.length c0_3,.slice A0_4 l0_4.length c0_4],.int .i64 a1] w fun e w'=>∃ v2_:Value,e = .returned (.agg #[.int .i64 r1,.int .i64 r2,v2_])∧Kd.R k88 88 w' w.heap.size (fun _=>True) v2_ r3∧Below w.heap.size w w':=by
 have S:=St.init (w:=w) (dc k88_heap at88 hr0_2 hc0_2 (dc (Kd.heap_int .i64) (atI .i64) hr0_3 hc0_3 (dc (Kd.heap_int .i64) (atI .i64) hr0_4 hc0_4 dn)))
 clear hr0_2 hc0_2 hr0_3 hc0_3 hr0_4 hc0_4
 have F:=S.fc
 have H:=h;clear h;unfold spec_syBoard.f at H
 obtain ⟨ji3,hji3⟩:∃ j_:Int,(wrap64 (a0_0 * a0_1)) = j_:=⟨_,rfl⟩;simp only [hji3] at H
 have hji3w:(IntKind.i64.wrap (a0_0 * a0_1)) = ji3:=(i64_w _).trans hji3
 replace H:=np_ H;obtain ⟨c4,H⟩:=H
 replace H:=np_ H;obtain ⟨c5,H⟩:=H
 (first | (with_reducible replace H:=ob_ H;obtain ⟨y145,hy145,H⟩:=H;(try dsimp only at H)) | (obtain ⟨y145,hy145⟩:∃ y_:List (S88),y_ = (List.replicate (ji3:Int).toNat z88):=⟨_,rfl⟩;(try rw [← hy145] at H);(try simp only [Option.bind_some] at H)));have Ny145:=Aside0.mk hy145;clear hy145
 go_enter Try.func84,Try.ntmps84
 go_wp2_with (first | ((with_reducible refine gd 2 rfl (L ?_));refine bo 2 (.agg #[_,_,_,_,_]) S ?_;clear S F;intro gb143 W S;have F:=S.fc) | ((with_reducible refine gd 4 rfl (L ?_));refine al 4 S zi50 ?_;clear S F;intro gb144 W S;have F:=S.fc) | ((with_reducible refine gs (t:=50) rfl (L ?_));(first | refine sb (.agg #[_,_,_]) S sz50 ?_ | refine ro (.agg #[_,_,_]) S sz50 ?_ (ho:=rfl) (hx:=rfl) (hy:=rfl));clear S F;intro W S;(try simp only [gd88] at S);(try rw [← Ny145.out] at S);have F:=S.fc) | ((with_reducible refine gs (t:=88) rfl (L ?_));(first | refine sb (.agg #[_,_]) S sz88 ?_ | refine ro (.agg #[_,_]) S sz88 ?_ (ho:=rfl) (hx:=rfl) (hy:=rfl));clear S F;intro W S;(try simp only [gd88] at S);(try rw [← Ny145.out] at S);have F:=S.fc))
 refine rgF S (fun _ S=>S) (fkc 11 5 zi50 fk0) [(0,0),(0,2),(0,4),(0,6),(1,1),(1,3),(1,5),(1,7),(0,8),(2,9),(0,10)] [(3,12)] [12] (id:=1) (h:=?_);clear S F;intro W S;have S0:=S;have F:=S.fc
 repeat (first | (refine f0 (h:=?_)) | (refine f1 S0 (h:=?_)) | (refine f0n (h:=?_)) | (refine f1n S0 (h:=?_)))
 refine fe2 S (by rfl) ?_;intro x5_ X W S;simp only [List.cons_append,List.nil_append,putF,Act.put,za_,zb_,zc_] at S ⊢;clear F;have F:=S.fc;refine ⟨rfl,?_⟩;refine mka 17 at88 S Try.underlying29 info88 ?_;clear S F;intro Ay145 cy145 W S;(try simp only [Int.reduceToNat] at S);(try rw [← Ny145.out] at S ⊢);have F:=S.fc
 clear S0;have S0:=(S.nx X).tl;refine ⟨S0,?_⟩
 repeat (first | (refine f0 (h:=?_)) | (refine f1 S0 (h:=?_)) | (refine f0n (h:=?_)) | (refine f1n S0 (h:=?_)))
 refine fz S ?_;intro gb148 W S;simp only [bxs,fbox,ptr,List.map_cons,List.map_nil,List.cons_append,List.nil_append,putF,Act.put,za_,zb_,zc_] at S ⊢;clear F S0;have S0:=S.tl.tl;have F:=S.fc
 refine lk3 (by rfl) (by exact (Eq.refl true)) ?_;(first | refine sb (.agg #[_,_,_]) S sz50 ?_ | refine ro (.agg #[_,_,_]) S sz50 ?_ (ho:=rfl) (hx:=rfl) (hy:=rfl) | refine sb (.agg #[_,_]) S sz88 ?_ | refine ro (.agg #[_,_]) S sz88 ?_ (ho:=rfl) (hx:=rfl) (hy:=rfl));clear S F;intro W S;(try simp only [gd88] at S);(try rw [← Ny145.out] at S);have F:=S.fc
 refine oz ?_
 try clear S0
 go_wp2_with (first | ((with_reducible refine gs (t:=50) rfl (L ?_));(first | refine sb (.agg #[_,_,_]) S sz50 ?_ | refine ro (.agg #[_,_,_]) S sz50 ?_ (ho:=rfl) (hx:=rfl) (hy:=rfl));clear S F;intro W S;(try simp only [gd88] at S);(try rw [← Ny145.out] at S);have F:=S.fc) | ((with_reducible refine gs (t:=88) rfl (L ?_));(first | refine sb (.agg #[_,_]) S sz88 ?_ | refine ro (.agg #[_,_]) S sz88 ?_ (ho:=rfl) (hx:=rfl) (hy:=rfl));clear S F;intro W S;(try simp only [gd88] at S);(try rw [← Ny145.out] at S);have F:=S.fc))
 go_loopg [1,6] k (fun kq v1 v6 w'=>∃ (x1_1:Int) (x6_1:Int) (x149002_1:List (S88)) (Ax149002_1:Option Addr) (cx149002_1:Nat),v1 = .int .i64 x1_1∧v6 = .int .i64 x6_1∧spec_syBoard.l0 kq x1_1 x6_1 a0_0 a0_1 l0_2 l0_3 l0_4 a0_0 a0_1 x149002_1 = some (r1,r2,r3)∧kq ≤ k∧St w w (fun _=>False) [bor at88 A0_2 c0_2 l0_2,bor (atI .i64) A0_3 c0_3 l0_3,bor (atI .i64) A0_4 c0_4 l0_4] w'  [box gb148 50 [.int .i64 a0_0,.int .i64 a0_1,.slice Ax149002_1 x149002_1.length cx149002_1],row at88 88 Ax149002_1 x149002_1.length cx149002_1 x149002_1,box gb144 50 [.int .i64 0,.int .i64 0,.slice none 0 0],box gb143 31 [.int .i64 a0_0,.int .i64 a0_1,.slice A0_2 l0_2.length c0_2,.slice A0_3 l0_3.length c0_3,.slice A0_4 l0_4.length c0_4]])
 case atStart=>exact ⟨a1,(wrap64 ((y145.length:Int) - 1)),y145,_,_,(by first | rfl | (simp;done) | (simp [*];done) | (rw [w6_ (by omega) (by omega)])),(by first | rfl | (simp;done) | (simp [*];done) | (rw [w6_ (by omega) (by omega)])),H,Nat.le_refl _,S⟩
 case round =>
  clear H S F
  obtain ⟨x1_1,x6_1,x149002_1,Ax149002_1,cx149002_1,rfl,rfl,HA,HK1,S⟩:=hrel
  have F:=S.fc
  cases gk with
  | zero=>exact absurd HA (by simp [spec_syBoard.l0])
  | succ k1 =>
   have H:=HA;clear HA;simp only [spec_syBoard.l0,F] at H
   replace H:=sp_ H;rcases H with ⟨c21,H⟩ | ⟨c21,H⟩
   · skip
     replace H:=nn_ H;obtain ⟨c22,H⟩:=H
     replace c22:=cne c22
     replace H:=sp_ H;rcases H with ⟨c23,H⟩ | ⟨c23,H⟩
     · skip
       obtain ⟨ji24,hji24⟩:∃ j_:Int,(wrap64 ((Int.tmod x1_1 (wrap64 ((l0_2.length:Int) + 1))) - 1)) = j_:=⟨_,rfl⟩;simp only [hji24] at H
       have hji24w:(IntKind.i64.wrap ((Int.tmod x1_1 (wrap64 ((l0_2.length:Int) + 1))) - 1)) = ji24:=(i64_w _).trans hji24
       replace H:=np_ H;obtain ⟨c25,H⟩:=H
       replace H:=np_ H;obtain ⟨c26,H⟩:=H
       replace H:=np_ H;obtain ⟨c27,H⟩:=H
       replace H:=np_ H;obtain ⟨c28,H⟩:=H
       (first | (with_reducible replace H:=ob_ H;obtain ⟨y150,hy150,H⟩:=H;(try dsimp only at H)) | (obtain ⟨y150,hy150⟩:∃ y_:List (S88),y_ = (x149002_1.set (x6_1:Int).toNat (⟨(rd_T88 l0_2 (ji24)).f0,(rd_T88 l0_2 (ji24)).f1⟩:S88)):=⟨_,rfl⟩;(try rw [← hy150] at H);(try simp only [Option.bind_some] at H)));have Ny150:=Aside0.mk hy150;clear hy150
       go_wp2_with (first | ((with_reducible refine gs (t:=50) rfl (L ?_));(first | refine sb (.agg #[_,_,_]) S sz50 ?_ | refine ro (.agg #[_,_,_]) S sz50 ?_ (ho:=rfl) (hx:=rfl) (hy:=rfl));clear S F;intro W S;(try simp only [gd88] at S);(try rw [← Ny145.out] at S);(try rw [← Ny150.out] at S);have F:=S.fc) | ((with_reducible refine gs (t:=88) rfl (L ?_));(first | refine sb (.agg #[_,_]) S sz88 ?_ | refine ro (.agg #[_,_]) S sz88 ?_ (ho:=rfl) (hx:=rfl) (hy:=rfl));clear S F;intro W S;(try simp only [gd88] at S);(try rw [← Ny145.out] at S);(try rw [← Ny150.out] at S);have F:=S.fc))
       refine rq S [(0,0),(0,2),(0,3),(0,5),(0,6),(1,1),(1,4),(0,7),(1,8),(0,9),(3,10)] [10] (h:=?_);clear S F;intro W S;have S0:=S;have F:=S.fc
       repeat (first | (refine q0 (h:=?_)) | (refine q1 S0 (h:=?_)) | (refine q0n (h:=?_)) | (refine q1n S0 (h:=?_)))
       refine lk3 (by rfl) (by exact (Eq.refl true)) ?_;(first | refine sb (.agg #[_,_,_]) S sz50 ?_ | refine ro (.agg #[_,_,_]) S sz50 ?_ (ho:=rfl) (hx:=rfl) (hy:=rfl) | refine sb (.agg #[_,_]) S sz88 ?_ | refine ro (.agg #[_,_]) S sz88 ?_ (ho:=rfl) (hx:=rfl) (hy:=rfl));clear S F;intro W S;(try simp only [gd88] at S);(try rw [← Ny145.out] at S);(try rw [← Ny150.out] at S);have F:=S.fc
       refine oz ?_
       try clear S0
       go_wp2_with (first | ((with_reducible refine gs (t:=50) rfl (L ?_));(first | refine sb (.agg #[_,_,_]) S sz50 ?_ | refine ro (.agg #[_,_,_]) S sz50 ?_ (ho:=rfl) (hx:=rfl) (hy:=rfl));clear S F;intro W S;(try simp only [gd88] at S);(try rw [← Ny145.out] at S);(try rw [← Ny150.out] at S);have F:=S.fc) | ((with_reducible refine gs (t:=88) rfl (L ?_));(first | refine sb (.agg #[_,_]) S sz88 ?_ | refine ro (.agg #[_,_]) S sz88 ?_ (ho:=rfl) (hx:=rfl) (hy:=rfl));clear S F;intro W S;(try simp only [gd88] at S);(try rw [← Ny145.out] at S);(try rw [← Ny150.out] at S);have F:=S.fc))
       go_roundg k1
       case measure=>omega
       case rel=>(try rw [← (show y150.length = x149002_1.length by first | simp only [F] | (have F_:=F;simp only [Ny150.out,List.length_set] at F_;simp only [F_]))] at S);exact ⟨(wrap64 (Int.tdiv x1_1 (wrap64 ((l0_2.length:Int) + 1)))),(wrap64 (x6_1 - 1)),y150,_,_,(by first | rfl | (simp;done) | (simp [*];done) | (rw [w6_ (by omega) (by omega)])),(by first | rfl | (simp;done) | (simp [*];done) | (rw [w6_ (by omega) (by omega)])),H,(by first | omega | exact Nat.le_refl _),S⟩
     · skip
       go_wp2_with (first | ((with_reducible refine gs (t:=50) rfl (L ?_));(first | refine sb (.agg #[_,_,_]) S sz50 ?_ | refine ro (.agg #[_,_,_]) S sz50 ?_ (ho:=rfl) (hx:=rfl) (hy:=rfl));clear S F;intro W S;(try simp only [gd88] at S);(try rw [← Ny145.out] at S);have F:=S.fc) | ((with_reducible refine gs (t:=88) rfl (L ?_));(first | refine sb (.agg #[_,_]) S sz88 ?_ | refine ro (.agg #[_,_]) S sz88 ?_ (ho:=rfl) (hx:=rfl) (hy:=rfl));clear S F;intro W S;(try simp only [gd88] at S);(try rw [← Ny145.out] at S);have F:=S.fc))
       go_roundg k1
       case measure=>omega
       case rel=>exact ⟨(wrap64 (Int.tdiv x1_1 (wrap64 ((l0_2.length:Int) + 1)))),(wrap64 (x6_1 - 1)),x149002_1,_,_,(by first | rfl | (simp;done) | (simp [*];done) | (rw [w6_ (by omega) (by omega)])),(by first | rfl | (simp;done) | (simp [*];done) | (rw [w6_ (by omega) (by omega)])),H,(by first | omega | exact Nat.le_refl _),S⟩
   · skip
     simp only [Option.some.injEq,Prod.mk.injEq] at H
     obtain ⟨rfl,rfl,rfl⟩:=H
     go_wp2_with (first | ((with_reducible refine gs (t:=50) rfl (L ?_));(first | refine sb (.agg #[_,_,_]) S sz50 ?_ | refine ro (.agg #[_,_,_]) S sz50 ?_ (ho:=rfl) (hx:=rfl) (hy:=rfl));clear S F;intro W S;(try simp only [gd88] at S);(try rw [← Ny145.out] at S);have F:=S.fc) | ((with_reducible refine gs (t:=88) rfl (L ?_));(first | refine sb (.agg #[_,_]) S sz88 ?_ | refine ro (.agg #[_,_]) S sz88 ?_ (ho:=rfl) (hx:=rfl) (hy:=rfl));clear S F;intro W S;(try simp only [gd88] at S);(try rw [← Ny145.out] at S);have F:=S.fc))
     refine bodyPost_ret (results_cell_row rfl _ _ gb144 50 #[.int .i64 a0_0,.int .i64 a0_1,.slice Ax149002_1 x149002_1.length cx149002_1] (0,0) _ rfl S.hb Try.underlying50 rfl (by kernel_rfl)) rfl ?_
     exact ⟨_,(by first | rfl | (simp [e0_,e1_] <;> rfl) | (simp [*,e0_,e1_] <;> rfl)),(by first | exact S.r | exact Kd.R_nil _ _ _ _ _),S.below⟩

/-! ### spec_boOwn: function 111 -/
def spec_boOwn.f (a0_0:Int) (a0_1:Int) (l0_2:List (S88)):Option (Int × Int × (List (S88))):=(some (([]:List (S88)):List (S88))).bind fun y153=>(if y153.length + l0_2.length < 8796093022208 then (some (a0_0,a0_1,(y153 ++ l0_2))) else (none))
theorem spec_boOwn.calls (a0_0:Int) (a0_1:Int) (A0_2:Option Addr) (c0_2:Nat) (l0_2:List (S88)) (r1:Int) (r2:Int) (r3:List (S88)) (w:World) (hr0_2:Kd.C k88 w A0_2 l0_2.length l0_2) (hc0_2:l0_2.length ≤ c0_2) (h:spec_boOwn.f a0_0 a0_1 l0_2 = some (r1,r2,r3)) :
    Calls Try.prog 111 #[.agg #[.int .i64 a0_0,.int .i64 a0_1,.slice A0_2 l0_2.length c0_2]] w fun e w'=>∃ v2_:Value,e = .returned (.agg #[.int .i64 r1,.int .i64 r2,v2_])∧Kd.R k88 88 w' w.heap.size (fun _=>True) v2_ r3∧Below w.heap.size w w':=by
 have S:=St.init (w:=w) (dc k88_heap at88 hr0_2 hc0_2 dn)
 clear hr0_2 hc0_2
 have F:=S.fc
 have H:=h;clear h;unfold spec_boOwn.f at H
 (first | (with_reducible replace H:=ob_ H;obtain ⟨y153,hy153,H⟩:=H;(try dsimp only at H)) | (obtain ⟨y153,hy153⟩:∃ y_:List (S88),y_ = (([]:List (S88))):=⟨_,rfl⟩;(try rw [← hy153] at H);(try simp only [Option.bind_some] at H)));have Ny153:=Aside0.mk hy153;clear hy153
 replace H:=np_ H;obtain ⟨c2,H⟩:=H
 (first | (with_reducible replace H:=ob_ H;obtain ⟨y156,hy156,H⟩:=H;(try dsimp only at H)) | (obtain ⟨y156,hy156⟩:∃ y_:List (S88),y_ = (y153 ++ l0_2):=⟨_,rfl⟩;(try rw [← hy156] at H);(try simp only [Option.bind_some] at H)));have Ny156:=Aside0.mk hy156;clear hy156
 simp only [Option.some.injEq,Prod.mk.injEq] at H
 obtain ⟨rfl,rfl,rfl⟩:=H
 go_enter Try.func111,Try.ntmps111
 go_wp2_with (first | ((with_reducible refine gd 1 rfl (L ?_));refine bo 1 (.agg #[_,_,_]) S ?_;clear S F;intro gb151 W S;have F:=S.fc) | ((with_reducible refine gd 2 rfl (L ?_));refine al 2 S zi50 ?_;clear S F;intro gb152 W S;have F:=S.fc) | ((with_reducible refine gs (t:=50) rfl (L ?_));(first | refine sb (.agg #[_,_,_]) S sz50 ?_ | refine ro (.agg #[_,_,_]) S sz50 ?_ (ho:=rfl) (hx:=rfl) (hy:=rfl));clear S F;intro W S;(try rw [← Ny156.out] at S);have F:=S.fc))
 refine rgP S (fun _ S=>S.tl) [(0,0),(0,2),(0,5),(1,1),(1,3),(1,6),(2,4),(2,7),(0,8),(2,9)] [] (by kernel_rfl) (by kernel_rfl) (fun _ d _ _ _ h=>by cases d <;> exact h) ?_;clear S F;intro W S;have S0:=S.tl;have F:=S.fc
 repeat (first | (refine q0 (h:=?_)) | (refine q1 S0 (h:=?_)) | (refine q0n (h:=?_)) | (refine q1n S0 (h:=?_)))
 refine lk2 (by rfl) (by exact (Eq.refl true)) ?_;refine lia 7 at88 88 S ([]:List (S88)) (fun _ _=>(Reps.none _ _)) (by first | (go_simp;done) | (go_simp;rfl)) ?_;clear S F;intro Ay153 cy153 W S;(try rw [← Ny153.out] at S ⊢);(try rw [← Ny156.out] at S ⊢);have F:=S.fc
 clear S0;have S0:=S.tl.tl;refine ⟨S0,?_⟩
 refine lk2 (by rfl) (by exact (Eq.refl true)) ?_;refine apr (A:=Ay153) (ys:=l0_2) 10 S Try.underlying29 info88 S.c ?_ (ho:=rfl) (hs:=rfl) (hx:=rfl);clear S F;intro Ay156 cy156 W S;(try rw [← Ny156.out] at S ⊢);have F:=S.fc
 clear S0;have S0:=S.tl.tl;refine ⟨S0,?_⟩
 repeat (first | (refine q0 (h:=?_)) | (refine q1 S0 (h:=?_)) | (refine q0n (h:=?_)) | (refine q1n S0 (h:=?_)))
 refine lk2 (by rfl) (by exact (Eq.refl true)) ?_;(first | refine sb (.agg #[_,_,_]) S sz50 ?_ | refine ro (.agg #[_,_,_]) S sz50 ?_ (ho:=rfl) (hx:=rfl) (hy:=rfl));clear S F;intro W S;(try rw [← Ny156.out] at S);have F:=S.fc
 clear S0;have S0:=S.tl.tl;refine ⟨S0,?_⟩
 refine oz ?_
 try clear S0
 go_wp2_with (first | ((with_reducible refine gs (t:=50) rfl (L ?_));(first | refine sb (.agg #[_,_,_]) S sz50 ?_ | refine ro (.agg #[_,_,_]) S sz50 ?_ (ho:=rfl) (hx:=rfl) (hy:=rfl));clear S F;intro W S;(try rw [← Ny156.out] at S);have F:=S.fc))
 refine bodyPost_ret (results_cell_row rfl _ _ gb152 50 #[.int .i64 a0_0,.int .i64 a0_1,.slice Ay156 y156.length cy156] (0,0) _ rfl S.hb Try.underlying50 rfl (by kernel_rfl)) rfl ?_
 exact ⟨_,(by first | rfl | (simp [e0_,e1_] <;> rfl) | (simp [*,e0_,e1_] <;> rfl)),(by first | exact S.r | exact Kd.R_nil _ _ _ _ _),S.below⟩

/-! ### spec_boAt: function 142 -/
def spec_boAt.f (a0_0:Int) (a0_1:Int) (l0_2:List (S88)) (a1:Int) (a2:Int):Option (Int × Int):=if 0 ≤ (wrap64 ((wrap64 (a1 * a0_1)) + a2)) then (if (wrap64 ((wrap64 (a1 * a0_1)) + a2)) < (l0_2.length:Int) then (some ((rd_T88 l0_2 (wrap64 ((wrap64 (a1 * a0_1)) + a2))).f0,(rd_T88 l0_2 (wrap64 ((wrap64 (a1 * a0_1)) + a2))).f1)) else (none)) else (none)
theorem spec_boAt.calls (a0_0:Int) (a0_1:Int) (A0_2:Option Addr) (c0_2:Nat) (l0_2:List (S88)) (a1:Int) (a2:Int) (r1:Int) (r2:Int) (w:World) (hr0_2:Kd.C k88 w A0_2 l0_2.length l0_2) (hc0_2:l0_2.length ≤ c0_2) (h:spec_boAt.f a0_0 a0_1 l0_2 a1 a2 = some (r1,r2)) :
    Calls Try.prog 142 #[.agg #[.int .i64 a0_0,.int .i64 a0_1,.slice A0_2 l0_2.length c0_2],.int .i64 a1,.int .i64 a2] w fun e w'=>e = .returned (.agg #[.int .i64 r1,.int .i64 r2])∧Below w.heap.size w w':=by
 have S:=St.init (w:=w) (dc k88_heap at88 hr0_2 hc0_2 dn)
 clear hr0_2 hc0_2
 have F:=S.fc
 have H:=h;clear h;unfold spec_boAt.f at H
 obtain ⟨ji4,hji4⟩:∃ j_:Int,(wrap64 ((wrap64 (a1 * a0_1)) + a2)) = j_:=⟨_,rfl⟩;simp only [hji4] at H
 have hji4w:(IntKind.i64.wrap ((wrap64 (a1 * a0_1)) + a2)) = ji4:=(i64_w _).trans hji4
 replace H:=np_ H;obtain ⟨c5,H⟩:=H
 replace H:=np_ H;obtain ⟨c6,H⟩:=H
 simp only [Option.some.injEq,Prod.mk.injEq] at H
 obtain ⟨rfl,rfl⟩:=H
 go_enter Try.func142,Try.ntmps142
 go_wp2_with (first | ((with_reducible refine gd 3 rfl (L ?_));refine bo 3 (.agg #[_,_,_]) S ?_;clear S F;intro gb159 W S;have F:=S.fc) | ((with_reducible refine gd 6 rfl (L ?_));refine al 6 S zi88 ?_;clear S F;intro gb160 W S;have F:=S.fc) | ((with_reducible refine gs (t:=88) rfl (L ?_));(first | refine sb (.agg #[_,_]) S sz88 ?_ | refine ro (.agg #[_,_]) S sz88 ?_ (ho:=rfl) (hx:=rfl) (hy:=rfl));(clear S F;intro W S;have F:=S.fc)))
 refine bodyPost_ret (results_cell_row rfl _ _ gb160 88 #[.int .i64 ((rd_T88 l0_2 (ji4)).f0),.int .i64 ((rd_T88 l0_2 (ji4)).f1)] (0,0) _ rfl S.hb Try.underlying88 rfl (by kernel_rfl)) rfl ?_
 exact ⟨(by first | rfl | (simp [e0_,e1_] <;> rfl) | (simp [*,e0_,e1_] <;> rfl)),S.below⟩

/-! ### spec_paGoes: function 143 -/
def spec_paGoes.j0:Nat→Int→Int→Bool→Int→Int→Option (Int)
 | 0,_,_,_,_,_=>none
 | k + 1,x1,x6,x11,x163000,x163001=>if x11 = true then (some (wrap64 ((wrap64 (2 * x163001)) - 1))) else (if x6 = 4 then (some (wrap64 (-x1))) else (some 0))
def spec_paGoes.f (k:Nat) (a0_0:Int) (a0_1:Int) (a1:Int):Option (Int):=if a0_0 = 1 then (some (-1)) else (if a0_0 = 2 then (some 1) else (if a0_0 = 3 then (spec_paGoes.j0 k a1 a0_0 (a0_0 == 3) a0_0 a0_1) else (spec_paGoes.j0 k a1 a0_0 (a0_0 == 6) a0_0 a0_1)))
theorem spec_paGoes.calls (k:Nat) (a0_0:Int) (a0_1:Int) (a1:Int) (r:Int) (w:World) (h:spec_paGoes.f k a0_0 a0_1 a1 = some r) :
  Calls Try.prog 143 #[.agg #[.int .i64 a0_0,.int .i64 a0_1],.int .i64 a1] w fun e w'=>e = .returned (.int .i64 r)∧Below w.heap.size w w':=by
 have HB:=Aside0.mk (Below.refl w.heap.size w);have H:(if a0_0 = 1 then (some (-1)) else (if a0_0 = 2 then (some 1) else (if a0_0 = 3 then (spec_paGoes.j0 k a1 a0_0 (a0_0 == 3) a0_0 a0_1) else (spec_paGoes.j0 k a1 a0_0 (a0_0 == 6) a0_0 a0_1)))) = some r:=h;clear h;by_cases c3:a0_0 = 1
 ·rw [if_pos c3] at H;have c3b0:(a0_0 == 1) = true:=beq_iff_eq.mpr c3;have c3b1:(a0_0 != 1) = false:=bne_eq_false_iff_eq.mpr c3;clear c3;obtain rfl:=Option.some.inj H;go_enter Try.func143,Try.ntmps143;go_wp2_with (first | ((with_reducible refine gate_dst (N:=2) rfl ?_);refine box_event ?hg (N:=2) ?hd (cs:=#[.int .i64 a0_0,.int .i64 a0_1]) (t:=88) ?hr ?_;(case hd=>rfl);(case hg=>rfl);(case hr=>first | (go_simp;done) | (go_simp;rfl));intro gb162 hg w4 hbox hb;refine ev4 (bs HB hb) (hbox) (gle hg HB) (gle hg HB) ?_;clear HB;intro HB BK162 GW162 GE162;clear hb hbox hg;obtain ⟨hcz5_0,hcz5_1,hfz5_0,hfz5_1⟩:=bt2 BK162))
  go_ret;exact ⟨by first | rfl | (simp [e0_,e1_] <;> rfl) | (simp [*,e0_,e1_] <;> rfl),bm HB⟩
 ·rw [if_neg c3] at H;have c3b0:(a0_0 == 1) = false:=beq_eq_false_iff_ne.mpr c3;have c3b1:(a0_0 != 1) = true:=bne_iff_ne.mpr c3;by_cases c6:a0_0 = 2
  ·rw [if_pos c6] at H;have c6b0:(a0_0 == 2) = true:=beq_iff_eq.mpr c6;have c6b1:(a0_0 != 2) = false:=bne_eq_false_iff_eq.mpr c6;clear c6;obtain rfl:=Option.some.inj H;go_enter Try.func143,Try.ntmps143;go_wp2_with (first | ((with_reducible refine gate_dst (N:=2) rfl ?_);refine box_event ?hg (N:=2) ?hd (cs:=#[.int .i64 a0_0,.int .i64 a0_1]) (t:=88) ?hr ?_;(case hd=>rfl);(case hg=>rfl);(case hr=>first | (go_simp;done) | (go_simp;rfl));intro gb162 hg w7 hbox hb;refine ev4 (bs HB hb) (hbox) (gle hg HB) (gle hg HB) ?_;clear HB;intro HB BK162 GW162 GE162;clear hb hbox hg;obtain ⟨hcz8_0,hcz8_1,hfz8_0,hfz8_1⟩:=bt2 BK162))
   go_ret;exact ⟨by first | rfl | (simp [e0_,e1_] <;> rfl) | (simp [*,e0_,e1_] <;> rfl),bm HB⟩
  ·rw [if_neg c6] at H;have c6b0:(a0_0 == 2) = false:=beq_eq_false_iff_ne.mpr c6;have c6b1:(a0_0 != 2) = true:=bne_iff_ne.mpr c6;have HC9:=Aside0.mk H;clear H;go_enter Try.func143,Try.ntmps143;go_upto_if 11 with (first | ((with_reducible refine gate_dst (N:=2) rfl ?_);refine box_event ?hg (N:=2) ?hd (cs:=#[.int .i64 a0_0,.int .i64 a0_1]) (t:=88) ?hr ?_;(case hd=>rfl);(case hg=>rfl);(case hr=>first | (go_simp;done) | (go_simp;rfl));intro gb162 hg w10 hbox hb;refine ev4 (bs HB hb) (hbox) (gle hg HB) (gle hg HB) ?_;clear HB;intro HB BK162 GW162 GE162;clear hb hbox hg;obtain ⟨hcz11_0,hcz11_1,hfz11_0,hfz11_1⟩:=bt2 BK162))
   (try simp only [Act.put,za_,zb_,zc_])
   go_cut [11] (fun v11 wc=>∃ (kq:Nat) (x11_8:Bool),v11 = .bool x11_8∧Aside0 (spec_paGoes.j0 kq a1 a0_0 x11_8 a0_0 a0_1 = some r)∧Aside0 (kq ≤ k)∧Aside0 (wc.heap[gb162]? = some (.cells #[.int .i64 a0_0,.int .i64 a0_1] 88 (0,0)))∧Aside0 (Below w.heap.size w wc))
   case first =>
    have H:=HC9.out;clear HC9;by_cases c12:a0_0 = 3
    ·rw [if_pos c12] at H;have c12b0:(a0_0 == 3) = true:=beq_iff_eq.mpr c12;have c12b1:(a0_0 != 3) = false:=bne_eq_false_iff_eq.mpr c12;clear c12;(first | rw [c12b0] | (simp only [i64_w,i32_w];rw [c12b0]) | skip)
     have H':=Aside0.mk H;clear H;go_wp2;go_meet
     case rel=>exact ⟨_,((a0_0 == 3)),(by first | rfl | (simp;done) | (simp [*];done)),H',⟨by first | omega | exact Nat.le_refl _⟩,⟨km_ BK162⟩,⟨bm HB⟩⟩
    ·rw [if_neg c12] at H;have c12b0:(a0_0 == 3) = false:=beq_eq_false_iff_ne.mpr c12;have c12b1:(a0_0 != 3) = true:=bne_iff_ne.mpr c12;(first | rw [c12b0] | (simp only [i64_w,i32_w];rw [c12b0]) | skip)
     have H':=Aside0.mk H;clear H;go_wp2;go_meet
     case rel=>exact ⟨_,((a0_0 == 6)),(by first | rfl | (simp;done) | (simp [*];done)),H',⟨by first | omega | exact Nat.le_refl _⟩,⟨km_ BK162⟩,⟨bm HB⟩⟩
   case rest =>
    clear HC9;(try clear c1);(try clear c3);(try clear c3b0);(try clear c3b1);(try clear c6);(try clear c6b0);(try clear c6b1);(try clear hcz11_0 hcz11_1 hfz11_0 hfz11_1);obtain ⟨kq,x11_8,rfl,HA,HJ8,BK162,HB⟩:=hcut;cases kq with
    | zero=>exact absurd HA.out (by simp [spec_paGoes.j0])
    | succ kj8 =>
     have H:=HA.out;clear HA;simp only [spec_paGoes.j0] at H;by_cases c13:x11_8 = true
     ·subst c13;have H1:(some (wrap64 ((wrap64 (2 * a0_1)) - 1))) = some r:=by rw [if_pos rfl] at H;exact H
      clear H;have H:=H1;clear H1;obtain rfl:=Option.some.inj H;obtain ⟨hcz14_0,hcz14_1,hfz14_0,hfz14_1⟩:=bt2 BK162;go_wp2;go_ret;exact ⟨by first | rfl | (simp [e0_,e1_] <;> rfl) | (simp [*,e0_,e1_] <;> rfl),bm HB⟩
     ·replace c13:=Bool.eq_false_iff.mpr c13;subst c13;have H1:(if a0_0 = 4 then (some (wrap64 (-a1))) else (some 0)) = some r:=by rw [if_neg (show ¬ (false = true) by decide)] at H;exact H
      clear H;have H:=H1;clear H1;by_cases c15:a0_0 = 4
      ·rw [if_pos c15] at H;have c15b0:(a0_0 == 4) = true:=beq_iff_eq.mpr c15;have c15b1:(a0_0 != 4) = false:=bne_eq_false_iff_eq.mpr c15;clear c15;obtain rfl:=Option.some.inj H;go_wp2;go_ret;exact ⟨by first | rfl | (simp [e0_,e1_] <;> rfl) | (simp [*,e0_,e1_] <;> rfl),bm HB⟩
      ·rw [if_neg c15] at H;have c15b0:(a0_0 == 4) = false:=beq_eq_false_iff_ne.mpr c15;have c15b1:(a0_0 != 4) = true:=bne_iff_ne.mpr c15;obtain rfl:=Option.some.inj H;go_wp2;go_ret;exact ⟨by first | rfl | (simp [e0_,e1_] <;> rfl) | (simp [*,e0_,e1_] <;> rfl),bm HB⟩

/-! ### spec_paTurn: function 147 -/
def spec_paTurn.f (a0_0:Int) (a0_1:Int):Option (Int × Int):=some (a0_0,wrap64 (1 - a0_1))
theorem spec_paTurn.calls (a0_0:Int) (a0_1:Int) (r1:Int) (r2:Int) (w:World) (h:spec_paTurn.f a0_0 a0_1 = some (r1,r2)) :
    Calls Try.prog 147 #[.agg #[.int .i64 a0_0,.int .i64 a0_1]] w fun e w'=>e = .returned (.agg #[.int .i64 r1,.int .i64 r2])∧Below w.heap.size w w':=by
 have S:=St.init (w:=w) dn
 have F:=S.fc
 have H:=h;clear h;unfold spec_paTurn.f at H
 simp only [Option.some.injEq,Prod.mk.injEq] at H
 obtain ⟨rfl,rfl⟩:=H
 go_enter Try.func147,Try.ntmps147
 go_wp2_with (first | ((with_reducible refine gd 1 rfl (L ?_));refine bo 1 (.agg #[_,_]) S ?_;clear S F;intro gb163 W S;have F:=S.fc) | ((with_reducible refine gd 2 rfl (L ?_));refine al 2 S zi88 ?_;clear S F;intro gb164 W S;have F:=S.fc) | ((with_reducible refine gs (t:=88) rfl (L ?_));(first | refine sb (.agg #[_,_]) S sz88 ?_ | refine ro (.agg #[_,_]) S sz88 ?_ (ho:=rfl) (hx:=rfl) (hy:=rfl));(clear S F;intro W S;have F:=S.fc)))
 refine bodyPost_ret (results_cell_row rfl _ _ gb164 88 #[.int .i64 a0_0,.int .i64 (wrap64 (1 - a0_1))] (0,0) _ rfl S.hb Try.underlying88 rfl (by kernel_rfl)) rfl ?_
 exact ⟨(by first | rfl | (simp [e0_,e1_] <;> rfl) | (simp [*,e0_,e1_] <;> rfl)),S.below⟩

/-! ### spec_flPass: function 144 -/
def spec_flPass.l0:Nat→List Int→Int→Int→Int→Int→Int→List (S88)→Option ((List (S88)))
  | 0,_,_,_,_,_,_,_=>none
  | k + 1,x1,x2,x28,x29,x166000,x166001,x166002=>if x29 < x28 then (if 0 ≤ x29 then (if x29 < (x166002.length:Int) then (if ((rd_T88 x166002 x29).f0) = 6 then (if x29 < (x1.length:Int) then (if 0 ≤ x2 then (if x2 < (x1.length:Int) then (if (rd x1 x29) = (rd x1 x2) then ((spec_paTurn.f ((rd_T88 x166002 x29).f0) ((rd_T88 x166002 x29).f1)).bind fun bt175=>(spec_flPass.l0 k x1 x2 x28 (wrap64 (x29 + 1)) x166000 x166001 (x166002.set (x29:Int).toNat (⟨bt175.1,bt175.2⟩:S88)))) else (spec_flPass.l0 k x1 x2 x28 (wrap64 (x29 + 1)) x166000 x166001 x166002)) else (none)) else (none)) else (none)) else (spec_flPass.l0 k x1 x2 x28 (wrap64 (x29 + 1)) x166000 x166001 x166002)) else (none)) else (none)) else (some x166002)
def spec_flPass.f (k:Nat) (a0_0:Int) (a0_1:Int) (l0_2:List (S88)) (l1:List Int) (a2:Int):Option ((List (S88))):=if 0 ≤ a2 then (if a2 < (l0_2.length:Int) then (if ((rd_T88 l0_2 a2).f0) = 3 then ((spec_paTurn.f ((rd_T88 l0_2 a2).f0) ((rd_T88 l0_2 a2).f1)).bind fun bt168=>(some (l0_2.set (a2:Int).toNat (⟨bt168.1,bt168.2⟩:S88)))) else (if ((rd_T88 l0_2 a2).f0) = 6 then (spec_flPass.l0 k l1 a2 (l0_2.length:Int) 0 a0_0 a0_1 l0_2) else (some l0_2))) else (none)) else (none)
theorem spec_flPass.calls (k:Nat) (a0_0:Int) (a0_1:Int) (P0_2_:Nat→Prop) (u9000_:Value) (l0_2:List (S88)) (A1:Option Addr) (c1:Nat) (l1:List Int) (a2:Int) (r:List (S88)) (w0 w:World) (hB:Below w0.heap.size w0 w) (ho0_2:Kd.R k88 88 w w0.heap.size P0_2_ u9000_ l0_2) (hr1:∀ W_,Kept w W_ (fun k_=>P0_2_ k_)→Kd.C (Kd.int .i64) W_ A1 l1.length l1) (hc1:l1.length ≤ c1) (h:spec_flPass.f k a0_0 a0_1 l0_2 l1 a2 = some r) :
    Calls Try.prog 144 #[.agg #[.int .i64 a0_0,.int .i64 a0_1,u9000_],.slice A1 l1.length c1,.int .i64 a2] w fun e w'=>e = .returned (.tuple #[])∧Kd.R k88 88 w' w0.heap.size (fun k_=>(P0_2_ k_∨w.heap.size ≤ k_)) u9000_ r∧Below w0.heap.size w0 w'∧Kept w w' (fun k_=>P0_2_ k_):=by
 obtain ⟨Al0_2,cl0_2,rfl⟩:=Kd.R_slice ho0_2
 have S:=St.own1 at88 hB ho0_2 (dk (atI .i64) hr1 hc1 dn)
 clear hB ho0_2 hr1 hc1
 have F:=S.fc
 have H:=h;clear h;unfold spec_flPass.f at H
 replace H:=np_ H;obtain ⟨c4,H⟩:=H
 replace H:=np_ H;obtain ⟨c5,H⟩:=H
 replace H:=sp_ H;rcases H with ⟨c6,H⟩ | ⟨c6,H⟩
 · skip
   replace c6:=ceq c6
   replace H:=Option.bind_eq_some_iff.mp H;obtain ⟨⟨t168,t169⟩,A7,H⟩:=H;(try dsimp only at H)
   (first | (with_reducible replace H:=ob_ H;obtain ⟨y170,hy170,H⟩:=H;(try dsimp only at H)) | (obtain ⟨y170,hy170⟩:∃ y_:List (S88),y_ = (l0_2.set (a2:Int).toNat (⟨t168,t169⟩:S88)):=⟨_,rfl⟩;(try rw [← hy170] at H);(try simp only [Option.bind_some] at H)));have Ny170:=Aside0.mk hy170;clear hy170
   obtain rfl:=Option.some.inj H
   go_enter Try.func144,Try.ntmps144
   go_wp2_with (first | ((with_reducible refine gd 3 rfl (L ?_));refine bo 3 (.agg #[_,_,_]) S ?_;clear S F;intro gb165 W S;have F:=S.fc) | ((with_reducible refine gd 6 rfl (L ?_));refine al 6 S zi88 ?_;clear S F;intro gb167 W S;have F:=S.fc) | ((with_reducible refine gs (t:=88) rfl (L ?_));(first | refine sb (.agg #[_,_]) S sz88 ?_ | refine ro (.agg #[_,_]) S sz88 ?_ (ho:=rfl) (hx:=rfl) (hy:=rfl));clear S F;intro W S;(try simp only [gd88] at S);(try rw [← Ny170.out] at S);have F:=S.fc))
   refine rq S [(0,0),(0,2),(1,1),(1,3),(2,4),(0,5),(3,6)] [6] (h:=?_);clear S F;intro W S;have S0:=S;have F:=S.fc
   repeat (first | (refine q0 (h:=?_)) | (refine q1 S0 (h:=?_)) | (refine q0n (h:=?_)) | (refine q1n S0 (h:=?_)))
   refine lk2 (by rfl) (by exact (Eq.refl true)) ?_;refine cl (some 22) Try.func147 (spec_paTurn.calls _ _ _ _ _ A7) (hargs:=by (simp only [ma_,mb_,mc_,F] <;> rfl)) (h:=?_);rintro e W ⟨rfl,hb⟩;refine ⟨_,rfl,?_⟩;replace S:=S.go hb;clear F hb;have F:=S.fc
   clear S0;have S0:=S;refine ⟨S0,?_⟩
   repeat (first | (refine q0 (h:=?_)) | (refine q1 S0 (h:=?_)) | (refine q0n (h:=?_)) | (refine q1n S0 (h:=?_)))
   refine lk3 (by rfl) (by exact (Eq.refl true)) ?_;(first | refine sb (.agg #[_,_]) S sz88 ?_ | refine ro (.agg #[_,_]) S sz88 ?_ (ho:=rfl) (hx:=rfl) (hy:=rfl));clear S F;intro W S;(try simp only [gd88] at S);(try rw [← Ny170.out] at S);have F:=S.fc
   refine oz ?_
   try clear S0
   go_wp2_with (first | ((with_reducible refine gs (t:=88) rfl (L ?_));(first | refine sb (.agg #[_,_]) S sz88 ?_ | refine ro (.agg #[_,_]) S sz88 ?_ (ho:=rfl) (hx:=rfl) (hy:=rfl));clear S F;intro W S;(try simp only [gd88] at S);(try rw [← Ny170.out] at S);have F:=S.fc))
   first | go_end0 | ((try simp only [Exit.inBlock,Exit.then]);refine bodyPost_ret (results_none rfl _ _ _) rfl ?_)
   exact ⟨(by first | rfl | (simp [e0_,e1_] <;> rfl) | (simp [*,e0_,e1_] <;> rfl)),(by first | exact S.rp | exact Kd.R_nil _ _ _ _ _),S.below,S.kept⟩
 · skip
   replace c6:=cne c6
   replace H:=sp_ H;rcases H with ⟨c19,H⟩ | ⟨c19,H⟩
   · skip
     replace c19:=ceq c19
     go_enter Try.func144,Try.ntmps144
     go_wp2_with (first | ((with_reducible refine gd 3 rfl (L ?_));refine bo 3 (.agg #[_,_,_]) S ?_;clear S F;intro gb165 W S;have F:=S.fc) | ((with_reducible refine gd 6 rfl (L ?_));refine al 6 S zi88 ?_;clear S F;intro gb167 W S;have F:=S.fc) | ((with_reducible refine gs (t:=88) rfl (L ?_));(first | refine sb (.agg #[_,_]) S sz88 ?_ | refine ro (.agg #[_,_]) S sz88 ?_ (ho:=rfl) (hx:=rfl) (hy:=rfl));clear S F;intro W S;(try simp only [gd88] at S);have F:=S.fc))
     go_loopg [29] k (fun kq v29 w'=>∃ (x29_1:Int) (x166002_1:List (S88)) (x168000_1:Int) (x168001_1:Int),v29 = .int .i64 x29_1∧spec_flPass.l0 kq l1 a2 (l0_2.length:Int) x29_1 a0_0 a0_1 x166002_1 = some r∧kq ≤ k∧St w0 w P0_2_ [bor (atI .i64) A1 c1 l1] w'  [box gb167 88 [.int .i64 x168000_1,.int .i64 x168001_1],box gb165 50 [.int .i64 a0_0,.int .i64 a0_1,.slice Al0_2 l0_2.length cl0_2],row at88 88 Al0_2 l0_2.length cl0_2 x166002_1])
     case atStart=>exact ⟨0,l0_2,((rd_T88 l0_2 a2).f0),((rd_T88 l0_2 a2).f1),(by first | rfl | (simp;done) | (simp [*];done) | (rw [w6_ (by omega) (by omega)])),H,Nat.le_refl _,S⟩
     case round =>
      clear H S F
      obtain ⟨x29_1,x166002_1,x168000_1,x168001_1,rfl,HA,HK1,S⟩:=hrel
      have F:=S.fc
      cases gk with
      | zero=>exact absurd HA (by simp [spec_flPass.l0])
      | succ k1 =>
       have H:=HA;clear HA;simp only [spec_flPass.l0,F] at H
       replace H:=sp_ H;rcases H with ⟨c27,H⟩ | ⟨c27,H⟩
       · skip
         replace H:=np_ H;obtain ⟨c28,H⟩:=H
         replace H:=np_ H;obtain ⟨c29,H⟩:=H
         replace H:=sp_ H;rcases H with ⟨c30,H⟩ | ⟨c30,H⟩
         · skip
           replace c30:=ceq c30
           replace H:=np_ H;obtain ⟨c31,H⟩:=H
           replace H:=np_ H;obtain ⟨c32,H⟩:=H
           replace H:=np_ H;obtain ⟨c33,H⟩:=H
           replace H:=sp_ H;rcases H with ⟨c34,H⟩ | ⟨c34,H⟩
           · skip
             replace c34:=ceq c34
             replace H:=Option.bind_eq_some_iff.mp H;obtain ⟨⟨t175,t176⟩,A35,H⟩:=H;(try dsimp only at H)
             (first | (with_reducible replace H:=ob_ H;obtain ⟨y177,hy177,H⟩:=H;(try dsimp only at H)) | (obtain ⟨y177,hy177⟩:∃ y_:List (S88),y_ = (x166002_1.set (x29_1:Int).toNat (⟨t175,t176⟩:S88)):=⟨_,rfl⟩;(try rw [← hy177] at H);(try simp only [Option.bind_some] at H)));have Ny177:=Aside0.mk hy177;clear hy177
             go_wp2_with (first | ((with_reducible refine gd 8 rfl (L ?_));refine al 8 S zi88 ?_;clear S F;intro gb172 W S;have F:=S.fc) | ((with_reducible refine gs (t:=88) rfl (L ?_));(first | refine sb (.agg #[_,_]) S sz88 ?_ | refine ro (.agg #[_,_]) S sz88 ?_ (ho:=rfl) (hx:=rfl) (hy:=rfl));clear S F;intro W S;(try simp only [gd88] at S);(try rw [← Ny177.out] at S);have F:=S.fc))
             refine rq S [(0,0),(1,1),(0,2),(0,3),(0,4),(0,5),(0,6),(0,8),(0,9),(0,10),(1,7),(1,11),(0,12),(0,13)] [] (h:=?_);clear S F;intro W S;have S0:=S;have F:=S.fc
             repeat (first | (refine q0 (h:=?_)) | (refine q1 S0 (h:=?_)) | (refine q0n (h:=?_)) | (refine q1n S0 (h:=?_)))
             refine oz ?_
             try clear S0
             go_wp2_with (first | ((with_reducible refine gs (t:=88) rfl (L ?_));(first | refine sb (.agg #[_,_]) S sz88 ?_ | refine ro (.agg #[_,_]) S sz88 ?_ (ho:=rfl) (hx:=rfl) (hy:=rfl));clear S F;intro W S;(try simp only [gd88] at S);(try rw [← Ny177.out] at S);have F:=S.fc))
             refine rq S [(0,0),(0,2),(1,1),(1,3),(2,4),(0,5),(3,6)] [6] (h:=?_);clear S F;intro W S;have S0:=S;have F:=S.fc
             repeat (first | (refine q0 (h:=?_)) | (refine q1 S0 (h:=?_)) | (refine q0n (h:=?_)) | (refine q1n S0 (h:=?_)))
             refine lk2 (by rfl) (by exact (Eq.refl true)) ?_;refine cl (some 52) Try.func147 (spec_paTurn.calls _ _ _ _ _ A35) (hargs:=by (simp only [ma_,mb_,mc_,F] <;> rfl)) (h:=?_);rintro e W ⟨rfl,hb⟩;refine ⟨_,rfl,?_⟩;replace S:=S.go hb;clear F hb;have F:=S.fc
             clear S0;have S0:=S;refine ⟨S0,?_⟩
             repeat (first | (refine q0 (h:=?_)) | (refine q1 S0 (h:=?_)) | (refine q0n (h:=?_)) | (refine q1n S0 (h:=?_)))
             refine lk3 (by rfl) (by exact (Eq.refl true)) ?_;(first | refine sb (.agg #[_,_]) S sz88 ?_ | refine ro (.agg #[_,_]) S sz88 ?_ (ho:=rfl) (hx:=rfl) (hy:=rfl));clear S F;intro W S;(try simp only [gd88] at S);(try rw [← Ny177.out] at S);have F:=S.fc
             refine oz ?_
             try clear S0
             go_wp2_with (first | ((with_reducible refine gs (t:=88) rfl (L ?_));(first | refine sb (.agg #[_,_]) S sz88 ?_ | refine ro (.agg #[_,_]) S sz88 ?_ (ho:=rfl) (hx:=rfl) (hy:=rfl));clear S F;intro W S;(try simp only [gd88] at S);(try rw [← Ny177.out] at S);have F:=S.fc))
             go_roundg k1
             case measure=>omega
             case rel=>exact ⟨(wrap64 (x29_1 + 1)),y177,x168000_1,x168001_1,(by first | rfl | (simp;done) | (simp [*];done) | (rw [w6_ (by omega) (by omega)])),H,(by first | omega | exact Nat.le_refl _),S.tl⟩
           · skip
             replace c34:=cne c34
             go_wp2_with (first | ((with_reducible refine gd 8 rfl (L ?_));refine al 8 S zi88 ?_;clear S F;intro gb172 W S;have F:=S.fc) | ((with_reducible refine gs (t:=88) rfl (L ?_));(first | refine sb (.agg #[_,_]) S sz88 ?_ | refine ro (.agg #[_,_]) S sz88 ?_ (ho:=rfl) (hx:=rfl) (hy:=rfl));clear S F;intro W S;(try simp only [gd88] at S);have F:=S.fc))
             refine rq S [(0,0),(1,1),(0,2),(0,3),(0,4),(0,5),(0,6),(0,8),(0,9),(0,10),(1,7),(1,11),(0,12),(0,13)] [] (h:=?_);clear S F;intro W S;have S0:=S;have F:=S.fc
             repeat (first | (refine q0 (h:=?_)) | (refine q1 S0 (h:=?_)) | (refine q0n (h:=?_)) | (refine q1n S0 (h:=?_)))
             refine oz ?_
             try clear S0
             go_wp2_with (first | ((with_reducible refine gs (t:=88) rfl (L ?_));(first | refine sb (.agg #[_,_]) S sz88 ?_ | refine ro (.agg #[_,_]) S sz88 ?_ (ho:=rfl) (hx:=rfl) (hy:=rfl));clear S F;intro W S;(try simp only [gd88] at S);have F:=S.fc))
             go_roundg k1
             case measure=>omega
             case rel=>exact ⟨(wrap64 (x29_1 + 1)),x166002_1,x168000_1,x168001_1,(by first | rfl | (simp;done) | (simp [*];done) | (rw [w6_ (by omega) (by omega)])),H,(by first | omega | exact Nat.le_refl _),S.tl⟩
         · skip
           replace c30:=cne c30
           go_wp2_with (first | ((with_reducible refine gd 8 rfl (L ?_));refine al 8 S zi88 ?_;clear S F;intro gb172 W S;have F:=S.fc) | ((with_reducible refine gs (t:=88) rfl (L ?_));(first | refine sb (.agg #[_,_]) S sz88 ?_ | refine ro (.agg #[_,_]) S sz88 ?_ (ho:=rfl) (hx:=rfl) (hy:=rfl));clear S F;intro W S;(try simp only [gd88] at S);have F:=S.fc))
           refine rq S [(0,0),(1,1),(0,2),(0,3),(0,4),(0,5),(0,6),(0,7),(0,8),(0,9),(0,10),(0,11),(0,12),(0,13)] [] (h:=?_);clear S F;intro W S;have S0:=S;have F:=S.fc
           repeat (first | (refine q0 (h:=?_)) | (refine q1 S0 (h:=?_)) | (refine q0n (h:=?_)) | (refine q1n S0 (h:=?_)))
           refine oz ?_
           try clear S0
           go_wp2_with (first | ((with_reducible refine gs (t:=88) rfl (L ?_));(first | refine sb (.agg #[_,_]) S sz88 ?_ | refine ro (.agg #[_,_]) S sz88 ?_ (ho:=rfl) (hx:=rfl) (hy:=rfl));clear S F;intro W S;(try simp only [gd88] at S);have F:=S.fc))
           go_roundg k1
           case measure=>omega
           case rel=>exact ⟨(wrap64 (x29_1 + 1)),x166002_1,x168000_1,x168001_1,(by first | rfl | (simp;done) | (simp [*];done) | (rw [w6_ (by omega) (by omega)])),H,(by first | omega | exact Nat.le_refl _),S.tl⟩
       · skip
         obtain rfl:=Option.some.inj H
         go_wp2_with (first | ((with_reducible refine gs (t:=88) rfl (L ?_));(first | refine sb (.agg #[_,_]) S sz88 ?_ | refine ro (.agg #[_,_]) S sz88 ?_ (ho:=rfl) (hx:=rfl) (hy:=rfl));clear S F;intro W S;(try simp only [gd88] at S);have F:=S.fc))
         first | go_end0 | ((try simp only [Exit.inBlock,Exit.then]);refine bodyPost_ret (results_none rfl _ _ _) rfl ?_)
         exact ⟨(by first | rfl | (simp [e0_,e1_] <;> rfl) | (simp [*,e0_,e1_] <;> rfl)),(by first | exact S.rp | exact Kd.R_nil _ _ _ _ _),S.below,S.kept⟩
   · skip
     replace c19:=cne c19
     obtain rfl:=Option.some.inj H
     go_enter Try.func144,Try.ntmps144
     go_wp2_with (first | ((with_reducible refine gd 3 rfl (L ?_));refine bo 3 (.agg #[_,_,_]) S ?_;clear S F;intro gb165 W S;have F:=S.fc) | ((with_reducible refine gd 6 rfl (L ?_));refine al 6 S zi88 ?_;clear S F;intro gb167 W S;have F:=S.fc) | ((with_reducible refine gs (t:=88) rfl (L ?_));(first | refine sb (.agg #[_,_]) S sz88 ?_ | refine ro (.agg #[_,_]) S sz88 ?_ (ho:=rfl) (hx:=rfl) (hy:=rfl));clear S F;intro W S;(try simp only [gd88] at S);have F:=S.fc))
     first | go_end0 | ((try simp only [Exit.inBlock,Exit.then]);refine bodyPost_ret (results_none rfl _ _ _) rfl ?_)
     exact ⟨(by first | rfl | (simp [e0_,e1_] <;> rfl) | (simp [*,e0_,e1_] <;> rfl)),(by first | exact S.rp | exact Kd.R_nil _ _ _ _ _),S.below,S.kept⟩

/-! ### spec_flGo: function 135 -/
def spec_flGo.l0:Nat→List Int→Int→List (List Int)→Int→Int→Int→Int→List (S88)→Int→Int→List (S88)→Option (Int × Int × Int × Int × Int × (List (S88)) × (List (List Int)))
  | 0,_,_,_,_,_,_,_,_,_,_,_=>none
  | k + 1,x1,x2,x10,x11,x12,x179000,x179001,x179002,x187000,x187001,x187002=>if x12 < x179000 then (if x10.length < 5864062014805 then ((some (x10 ++ [(([x12,x2]:List Int))]:List (List Int))).bind fun y190=>((spec_boAt.f x187000 x187001 x187002 x12 x2).bind fun bt193=>(if bt193.1 = 5 then (some (2,x12,x2,x187000,x187001,x187002,y190)) else ((spec_paGoes.f k bt193.1 bt193.2 x11).bind fun t196=>((spec_flPass.f k x187000 x187001 x187002 x1 (wrap64 ((wrap64 (x12 * x179001)) + x2))).bind fun t197=>((spec_l1In.f (wrap64 (x2 + t196)) 0 (wrap64 (x179001 - 1))).bind fun t198=>(if t198 = true then (spec_flGo.l0 k x1 (wrap64 (x2 + t196)) y190 (wrap64 (-t196)) (wrap64 (x12 + 1)) x179000 x179001 x179002 x187000 x187001 t197) else (some (3,x12,wrap64 (x2 + t196),x187000,x187001,t197,y190))))))))) else (none)) else (some (1,x179000,x2,x187000,x187001,x187002,x10))
def spec_flGo.f (k:Nat) (a0_0:Int) (a0_1:Int) (l0_2:List (S88)) (l1:List Int) (a2:Int):Option (Int × Int × Int × Int × Int × (List (S88)) × (List (List Int))):=(spec_boOwn.f a0_0 a0_1 l0_2).bind fun bt181=>(spec_flGo.l0 k l1 a2 ([]:List (List Int)) 0 0 a0_0 a0_1 l0_2 bt181.1 bt181.2.1 bt181.2.2)
theorem spec_flGo.calls (k:Nat) (a0_0:Int) (a0_1:Int) (A0_2:Option Addr) (c0_2:Nat) (l0_2:List (S88)) (A1:Option Addr) (c1:Nat) (l1:List Int) (a2:Int) (r1:Int) (r2:Int) (r3:Int) (r4:Int) (r5:Int) (r6:List (S88)) (r7:List (List Int)) (w:World) (hr0_2:Kd.C k88 w A0_2 l0_2.length l0_2) (hc0_2:l0_2.length ≤ c0_2) (hr1:Kd.C (Kd.int .i64) w A1 l1.length l1) (hc1:l1.length ≤ c1) (h:spec_flGo.f k a0_0 a0_1 l0_2 l1 a2 = some (r1,r2,r3,r4,r5,r6,r7)) :
    Calls Try.prog 135 #[.agg #[.int .i64 a0_0,.int .i64 a0_1,.slice A0_2 l0_2.length c0_2],.slice A1 l1.length c1,.int .i64 a2] w fun e w'=>∃ v5_ v6_:Value,e = .returned (.tuple #[.agg #[.int .i64 r1,.int .i64 r2,.int .i64 r3],.agg #[.int .i64 r4,.int .i64 r5,v5_],v6_])∧Kd.R k88 88 w' w.heap.size (fun _=>True) v5_ r6∧Kd.R (Kd.slice 3 (Kd.int .i64)) 23 w' w.heap.size (fun _=>True) v6_ r7∧Below w.heap.size w w':=by
 have S:=St.init (w:=w) (dc k88_heap at88 hr0_2 hc0_2 (dc (Kd.heap_int .i64) (atI .i64) hr1 hc1 dn))
 clear hr0_2 hc0_2 hr1 hc1
 have F:=S.fc
 have H:=h;clear h;unfold spec_flGo.f at H
 replace H:=Option.bind_eq_some_iff.mp H;obtain ⟨⟨t181,t182,t183⟩,A4,H⟩:=H;(try dsimp only at H)
 go_enter Try.func135,Try.ntmps135
 go_wp2_with (first | ((with_reducible refine gd 3 rfl (L ?_));refine bo 3 (.agg #[_,_,_]) S ?_;clear S F;intro gb178 W S;have F:=S.fc) | ((with_reducible refine gd 6 rfl (L ?_));refine al 6 S zi127 ?_;clear S F;intro gb179 W S;have F:=S.fc) | ((with_reducible refine gd 7 rfl (L ?_));refine al 7 S zi50 ?_;clear S F;intro gb180 W S;have F:=S.fc) | ((with_reducible refine gate_callee (f:=111) rfl (L ?_));refine cl (some 16) Try.func111 (spec_boOwn.calls _ _ _ _ _ _ _ _ _ S.c S.n A4) (hargs:=by (simp only [ma_,mb_,mc_,F] <;> rfl)) (h:=?_);rintro e W ⟨v184,rfl,ho0,hb⟩;refine ⟨_,rfl,?_⟩;replace S:=S.got at88 hb ho0;obtain ⟨At183,ct183,rfl,S⟩:=S;clear F hb ho0;have F:=S.fc) | ((with_reducible refine gd 9 rfl (L ?_));refine al 9 S zi50 ?_;clear S F;intro gb186 W S;have F:=S.fc) | ((with_reducible refine gs (t:=50) rfl (L ?_));(first | refine sb (.agg #[_,_,_]) S sz50 ?_ | refine ro (.agg #[_,_,_]) S sz50 ?_ (ho:=rfl) (hx:=rfl) (hy:=rfl));(clear S F;intro W S;have F:=S.fc)) | ((with_reducible refine gs (t:=88) rfl (L ?_));(first | refine sb (.agg #[_,_]) S sz88 ?_ | refine ro (.agg #[_,_]) S sz88 ?_ (ho:=rfl) (hx:=rfl) (hy:=rfl));(clear S F;intro W S;have F:=S.fc)) | ((with_reducible refine gs (t:=127) rfl (L ?_));(first | refine sb (.agg #[_,_,_]) S sz127 ?_ | refine ro (.agg #[_,_,_]) S sz127 ?_ (ho:=rfl) (hx:=rfl) (hy:=rfl));(clear S F;intro W S;have F:=S.fc)))
 go_loopg [2,10,11,12] k (fun kq v2 v10 v11 v12 w'=>∃ (x2_1:Int) (x10_1:List (List Int)) (x11_1:Int) (x12_1:Int) (x180000_1:Int) (x180001_1:Int) (x180002_1:Int) (x181000_1:Int) (x181001_1:Int) (x187002_1:List (S88)) (Ax10_1:Option Addr) (cx10_1:Nat) (Ax187002_1:Option Addr) (cx187002_1:Nat),v2 = .int .i64 x2_1∧v11 = .int .i64 x11_1∧v12 = .int .i64 x12_1∧v10 = .slice Ax10_1 x10_1.length cx10_1∧spec_flGo.l0 kq l1 x2_1 x10_1 x11_1 x12_1 a0_0 a0_1 l0_2 t181 t182 x187002_1 = some (r1,r2,r3,r4,r5,r6,r7)∧kq ≤ k∧St w w (fun _=>False) [bor at88 A0_2 c0_2 l0_2,bor (atI .i64) A1 c1 l1] w'  [row (atU (d:=Kd.slice 3 (Kd.int .i64))) 23 Ax10_1 x10_1.length cx10_1 x10_1,box gb186 50 [.int .i64 t181,.int .i64 t182,.slice Ax187002_1 x187002_1.length cx187002_1],row at88 88 Ax187002_1 x187002_1.length cx187002_1 x187002_1,box gb180 50 [.int .i64 x181000_1,.int .i64 x181001_1,.slice none 0 0],box gb179 127 [.int .i64 x180000_1,.int .i64 x180001_1,.int .i64 x180002_1],box gb178 50 [.int .i64 a0_0,.int .i64 a0_1,.slice A0_2 l0_2.length c0_2]])
 case atStart=>exact ⟨a2,_,0,0,0,0,0,0,0,t183,_,_,_,_,(by first | rfl | (simp;done) | (simp [*];done) | (rw [w6_ (by omega) (by omega)])),(by first | rfl | (simp;done) | (simp [*];done) | (rw [w6_ (by omega) (by omega)])),(by first | rfl | (simp;done) | (simp [*];done) | (rw [w6_ (by omega) (by omega)])),rfl,H,Nat.le_refl _,S.nl (e:=23) (atU (d:=Kd.slice 3 (Kd.int .i64)))⟩
 case round =>
  clear H S F
  obtain ⟨x2_1,x10_1,x11_1,x12_1,x180000_1,x180001_1,x180002_1,x181000_1,x181001_1,x187002_1,Ax10_1,cx10_1,Ax187002_1,cx187002_1,rfl,rfl,rfl,rfl,HA,HK1,S⟩:=hrel
  have F:=S.fc
  cases gk with
  | zero=>exact absurd HA (by simp [spec_flGo.l0])
  | succ k1 =>
   have H:=HA;clear HA;simp only [spec_flGo.l0,F] at H
   replace H:=sp_ H;rcases H with ⟨c18,H⟩ | ⟨c18,H⟩
   · skip
     (first | (with_reducible replace H:=ob_ H;obtain ⟨y187,hy187,H⟩:=H;(try dsimp only at H)) | (obtain ⟨y187,hy187⟩:∃ y_:List Int,y_ = (([x12_1,x2_1]:List Int)):=⟨_,rfl⟩;(try rw [← hy187] at H);(try simp only [Option.bind_some] at H)));have Ny187:=Aside0.mk hy187;clear hy187
     replace H:=np_ H;obtain ⟨c19,H⟩:=H
     (first | (with_reducible replace H:=ob_ H;obtain ⟨y190,hy190,H⟩:=H;(try dsimp only at H)) | (obtain ⟨y190,hy190⟩:∃ y_:List (List Int),y_ = (x10_1 ++ [y187]):=⟨_,rfl⟩;(try rw [← hy190] at H);(try simp only [Option.bind_some] at H)));have Ny190:=Aside0.mk hy190;clear hy190
     replace H:=Option.bind_eq_some_iff.mp H;obtain ⟨⟨t193,t194⟩,A20,H⟩:=H;(try dsimp only at H)
     replace H:=sp_ H;rcases H with ⟨c21,H⟩ | ⟨c21,H⟩
     · skip
       replace c21:=ceq c21
       simp only [Option.some.injEq,Prod.mk.injEq] at H
       obtain ⟨rfl,rfl,rfl,rfl,rfl,rfl,rfl⟩:=H
       go_wp2_with (first | ((with_reducible refine gd 26 rfl (L ?_));refine lia 26 (atI .i64) 3 S ([x12_1,x2_1]:List Int) (fun _ _=>(Reps.one (show Kd.M (Kd.int .i64) _ _ _ x12_1 [.int .i64 x12_1] from rfl) (Reps.one (show Kd.M (Kd.int .i64) _ _ _ x2_1 [.int .i64 x2_1] from rfl) (Reps.none _ _)))) (by first | (go_simp;done) | (go_simp;rfl)) ?_;clear S F;intro Ay187 cy187 W S;(try rw [← Ny187.out] at S ⊢);(try rw [← Ny190.out] at S ⊢);have F:=S.fc) | ((with_reducible refine gd 28 rfl (L ?_));refine apm (A:=Ax10_1) (A2:=Ay187) 28 S Try.underlying42 info23 ?_ (ho:=rfl) (hs:=rfl) (hx:=rfl);clear S F;intro Ay190 cy190 W S;(try rw [← Ny187.out] at S ⊢);(try rw [← Ny190.out] at S ⊢);have F:=S.fc) | ((with_reducible refine gate_callee (f:=142) rfl (L ?_));refine cl (some 32) Try.func142 (spec_boAt.calls _ _ _ _ _ _ _ _ _ _ S.c S.n A20) (hargs:=by (simp only [ma_,mb_,mc_,F] <;> rfl)) (h:=?_);rintro e W ⟨rfl,hb⟩;refine ⟨_,rfl,?_⟩;replace S:=S.go hb;clear F hb;have F:=S.fc) | ((with_reducible refine gd 13 rfl (L ?_));refine al 13 S zi88 ?_;clear S F;intro gb195 W S;have F:=S.fc) | ((with_reducible refine gs (t:=50) rfl (L ?_));(first | refine sb (.agg #[_,_,_]) S sz50 ?_ | refine ro (.agg #[_,_,_]) S sz50 ?_ (ho:=rfl) (hx:=rfl) (hy:=rfl));clear S F;intro W S;(try rw [← Ny187.out] at S);(try rw [← Ny190.out] at S);have F:=S.fc) | ((with_reducible refine gs (t:=88) rfl (L ?_));(first | refine sb (.agg #[_,_]) S sz88 ?_ | refine ro (.agg #[_,_]) S sz88 ?_ (ho:=rfl) (hx:=rfl) (hy:=rfl));clear S F;intro W S;(try rw [← Ny187.out] at S);(try rw [← Ny190.out] at S);have F:=S.fc) | ((with_reducible refine gs (t:=127) rfl (L ?_));(first | refine sb (.agg #[_,_,_]) S sz127 ?_ | refine ro (.agg #[_,_,_]) S sz127 ?_ (ho:=rfl) (hx:=rfl) (hy:=rfl));clear S F;intro W S;(try rw [← Ny187.out] at S);(try rw [← Ny190.out] at S);have F:=S.fc))
       refine rgP S (fun _ S=>(S.ms [1,1,1,1,1,0,0])) [(0,0),(0,1),(0,2),(0,4),(1,3),(2,5),(2,6),(0,7)] [] (by kernel_rfl) (by kernel_rfl) (fun _ d _ _ _ h=>by cases d <;> exact h) ?_;clear S F;intro W S;have S0:=(S.ms [1,1,1,1,1,0,0]);have F:=S.fc
       repeat (first | (refine q0 (h:=?_)) | (refine q1 S0 (h:=?_)) | (refine q0n (h:=?_)) | (refine q1n S0 (h:=?_)))
       refine lk2 (by rfl) (by exact (Eq.refl true)) ?_;(first | refine sb (.agg #[_,_,_]) S sz50 ?_ | refine ro (.agg #[_,_,_]) S sz50 ?_ (ho:=rfl) (hx:=rfl) (hy:=rfl) | refine sb (.agg #[_,_]) S sz88 ?_ | refine ro (.agg #[_,_]) S sz88 ?_ (ho:=rfl) (hx:=rfl) (hy:=rfl) | refine sb (.agg #[_,_,_]) S sz127 ?_ | refine ro (.agg #[_,_,_]) S sz127 ?_ (ho:=rfl) (hx:=rfl) (hy:=rfl));clear S F;intro W S;(try rw [← Ny187.out] at S);(try rw [← Ny190.out] at S);have F:=S.fc
       clear S0;have S0:=(S.ms [1,1,1,1,1,0,0]);refine ⟨S0,?_⟩
       refine lk2 (by rfl) (by exact (Eq.refl true)) ?_;(first | refine sb (.agg #[_,_,_]) S sz50 ?_ | refine ro (.agg #[_,_,_]) S sz50 ?_ (ho:=rfl) (hx:=rfl) (hy:=rfl) | refine sb (.agg #[_,_]) S sz88 ?_ | refine ro (.agg #[_,_]) S sz88 ?_ (ho:=rfl) (hx:=rfl) (hy:=rfl) | refine sb (.agg #[_,_,_]) S sz127 ?_ | refine ro (.agg #[_,_,_]) S sz127 ?_ (ho:=rfl) (hx:=rfl) (hy:=rfl));clear S F;intro W S;(try rw [← Ny187.out] at S);(try rw [← Ny190.out] at S);have F:=S.fc
       clear S0;have S0:=(S.ms [1,1,1,1,1,0,0]);refine ⟨S0,?_⟩
       repeat (first | (refine q0 (h:=?_)) | (refine q1 S0 (h:=?_)) | (refine q0n (h:=?_)) | (refine q1n S0 (h:=?_)))
       refine oz ?_
       try clear S0
       go_wp2_with (first | ((with_reducible refine gs (t:=50) rfl (L ?_));(first | refine sb (.agg #[_,_,_]) S sz50 ?_ | refine ro (.agg #[_,_,_]) S sz50 ?_ (ho:=rfl) (hx:=rfl) (hy:=rfl));clear S F;intro W S;(try rw [← Ny187.out] at S);(try rw [← Ny190.out] at S);have F:=S.fc) | ((with_reducible refine gs (t:=88) rfl (L ?_));(first | refine sb (.agg #[_,_]) S sz88 ?_ | refine ro (.agg #[_,_]) S sz88 ?_ (ho:=rfl) (hx:=rfl) (hy:=rfl));clear S F;intro W S;(try rw [← Ny187.out] at S);(try rw [← Ny190.out] at S);have F:=S.fc) | ((with_reducible refine gs (t:=127) rfl (L ?_));(first | refine sb (.agg #[_,_,_]) S sz127 ?_ | refine ro (.agg #[_,_,_]) S sz127 ?_ (ho:=rfl) (hx:=rfl) (hy:=rfl));clear S F;intro W S;(try rw [← Ny187.out] at S);(try rw [← Ny190.out] at S);have F:=S.fc))
       refine bodyPost_ret (results_list (rs:=[.cell 6 127,.cell 7 50,.tmp 8]) rfl (by simp) (.cell gb179 127 #[.int .i64 2,.int .i64 x12_1,.int .i64 x2_1] (0,0) _ rfl S.hb Try.underlying127 rfl (by kernel_rfl) (.cell gb180 50 #[.int .i64 t181,.int .i64 t182,.slice Ax187002_1 x187002_1.length cx187002_1] (0,0) _ rfl S.hb Try.underlying50 rfl (by kernel_rfl) (.tmp .nil)))) rfl ?_
       exact ⟨_,_,(by first | rfl | (simp [e0_,e1_] <;> rfl) | (simp [*,e0_,e1_] <;> rfl)),(by first | exact S.r | exact Kd.R_nil _ _ _ _ _),(by first | exact S.r | exact Kd.R_nil _ _ _ _ _),S.below⟩
     · skip
       replace c21:=cne c21
       replace H:=Option.bind_eq_some_iff.mp H;obtain ⟨t196,A49,H⟩:=H;(try dsimp only at H)
       replace H:=Option.bind_eq_some_iff.mp H;obtain ⟨t197,A50,H⟩:=H;(try dsimp only at H)
       replace H:=Option.bind_eq_some_iff.mp H;obtain ⟨t198,A51,H⟩:=H;(try dsimp only at H)
       replace H:=sp_ H;rcases H with ⟨c52,H⟩ | ⟨c52,H⟩
       · skip
         subst c52
         go_wp2_with (first | ((with_reducible refine gd 26 rfl (L ?_));refine lia 26 (atI .i64) 3 S ([x12_1,x2_1]:List Int) (fun _ _=>(Reps.one (show Kd.M (Kd.int .i64) _ _ _ x12_1 [.int .i64 x12_1] from rfl) (Reps.one (show Kd.M (Kd.int .i64) _ _ _ x2_1 [.int .i64 x2_1] from rfl) (Reps.none _ _)))) (by first | (go_simp;done) | (go_simp;rfl)) ?_;clear S F;intro Ay187 cy187 W S;(try rw [← Ny187.out] at S ⊢);(try rw [← Ny190.out] at S ⊢);have F:=S.fc) | ((with_reducible refine gd 28 rfl (L ?_));refine apm (A:=Ax10_1) (A2:=Ay187) 28 S Try.underlying42 info23 ?_ (ho:=rfl) (hs:=rfl) (hx:=rfl);clear S F;intro Ay190 cy190 W S;(try rw [← Ny187.out] at S ⊢);(try rw [← Ny190.out] at S ⊢);have F:=S.fc) | ((with_reducible refine gate_callee (f:=142) rfl (L ?_));refine cl (some 32) Try.func142 (spec_boAt.calls _ _ _ _ _ _ _ _ _ _ S.c S.n A20) (hargs:=by (simp only [ma_,mb_,mc_,F] <;> rfl)) (h:=?_);rintro e W ⟨rfl,hb⟩;refine ⟨_,rfl,?_⟩;replace S:=S.go hb;clear F hb;have F:=S.fc) | ((with_reducible refine gd 13 rfl (L ?_));refine al 13 S zi88 ?_;clear S F;intro gb195 W S;have F:=S.fc) | ((with_reducible refine gate_callee (f:=143) rfl (L ?_));refine cl (some 43) Try.func143 (spec_paGoes.calls _ _ _ _ _ _ A49) (hargs:=by (simp only [ma_,mb_,mc_,F] <;> rfl)) (h:=?_);rintro e W ⟨rfl,hb⟩;refine ⟨_,rfl,?_⟩;replace S:=S.go hb;clear F hb;have F:=S.fc) | ((with_reducible refine gate_callee (f:=144) rfl (L ?_));obtain ⟨ok_,k_⟩:=S.lend (A:=Ax187002_1);refine cl (some 52) Try.func144 (spec_flPass.calls _ _ _ ok_ _ _ _ _ _ _ _ _ _ k_.below k_.own k_.c k_.n A50) (hargs:=by (simp only [ma_,mb_,mc_,F] <;> rfl)) (h:=?_);rintro e W ⟨rfl,hy,hb,hk⟩;refine ⟨_,rfl,?_⟩;clear S F;have S:=k_.back _ _ hy hb hk;clear k_ hy hb hk ok_;have F:=S.fc) | ((with_reducible refine gate_callee (f:=89) rfl (L ?_));refine cl (some 62) Try.func89 (spec_l1In.calls _ _ _ _ _ A51) (hargs:=by (simp only [ma_,mb_,mc_,F] <;> rfl)) (h:=?_);rintro e W ⟨rfl,hb⟩;refine ⟨_,rfl,?_⟩;replace S:=S.gw hb;clear F hb;have F:=S.fc) | ((with_reducible refine gs (t:=50) rfl (L ?_));(first | refine sb (.agg #[_,_,_]) S sz50 ?_ | refine ro (.agg #[_,_,_]) S sz50 ?_ (ho:=rfl) (hx:=rfl) (hy:=rfl));clear S F;intro W S;(try rw [← Ny187.out] at S);(try rw [← Ny190.out] at S);have F:=S.fc) | ((with_reducible refine gs (t:=88) rfl (L ?_));(first | refine sb (.agg #[_,_]) S sz88 ?_ | refine ro (.agg #[_,_]) S sz88 ?_ (ho:=rfl) (hx:=rfl) (hy:=rfl));clear S F;intro W S;(try rw [← Ny187.out] at S);(try rw [← Ny190.out] at S);have F:=S.fc) | ((with_reducible refine gs (t:=127) rfl (L ?_));(first | refine sb (.agg #[_,_,_]) S sz127 ?_ | refine ro (.agg #[_,_,_]) S sz127 ?_ (ho:=rfl) (hx:=rfl) (hy:=rfl));clear S F;intro W S;(try rw [← Ny187.out] at S);(try rw [← Ny190.out] at S);have F:=S.fc))
         go_roundg k1
         case measure=>omega
         case rel=>(try rw [← (show t197.length = x187002_1.length by simp only [F])] at S);exact ⟨(wrap64 (x2_1 + t196)),y190,(wrap64 (-t196)),(wrap64 (x12_1 + 1)),x180000_1,x180001_1,x180002_1,x181000_1,x181001_1,t197,_,_,_,_,(by first | rfl | (simp;done) | (simp [*];done) | (rw [w6_ (by omega) (by omega)])),(by first | rfl | (simp;done) | (simp [*];done) | (rw [w6_ (by omega) (by omega)])),(by first | rfl | (simp;done) | (simp [*];done) | (rw [w6_ (by omega) (by omega)])),rfl,H,(by first | omega | exact Nat.le_refl _),S.tl.tl⟩
       · skip
         replace c52:=cbf c52;subst c52
         simp only [Option.some.injEq,Prod.mk.injEq] at H
         obtain ⟨rfl,rfl,rfl,rfl,rfl,rfl,rfl⟩:=H
         go_wp2_with (first | ((with_reducible refine gd 26 rfl (L ?_));refine lia 26 (atI .i64) 3 S ([x12_1,x2_1]:List Int) (fun _ _=>(Reps.one (show Kd.M (Kd.int .i64) _ _ _ x12_1 [.int .i64 x12_1] from rfl) (Reps.one (show Kd.M (Kd.int .i64) _ _ _ x2_1 [.int .i64 x2_1] from rfl) (Reps.none _ _)))) (by first | (go_simp;done) | (go_simp;rfl)) ?_;clear S F;intro Ay187 cy187 W S;(try rw [← Ny187.out] at S ⊢);(try rw [← Ny190.out] at S ⊢);have F:=S.fc) | ((with_reducible refine gd 28 rfl (L ?_));refine apm (A:=Ax10_1) (A2:=Ay187) 28 S Try.underlying42 info23 ?_ (ho:=rfl) (hs:=rfl) (hx:=rfl);clear S F;intro Ay190 cy190 W S;(try rw [← Ny187.out] at S ⊢);(try rw [← Ny190.out] at S ⊢);have F:=S.fc) | ((with_reducible refine gate_callee (f:=142) rfl (L ?_));refine cl (some 32) Try.func142 (spec_boAt.calls _ _ _ _ _ _ _ _ _ _ S.c S.n A20) (hargs:=by (simp only [ma_,mb_,mc_,F] <;> rfl)) (h:=?_);rintro e W ⟨rfl,hb⟩;refine ⟨_,rfl,?_⟩;replace S:=S.go hb;clear F hb;have F:=S.fc) | ((with_reducible refine gd 13 rfl (L ?_));refine al 13 S zi88 ?_;clear S F;intro gb195 W S;have F:=S.fc) | ((with_reducible refine gate_callee (f:=143) rfl (L ?_));refine cl (some 43) Try.func143 (spec_paGoes.calls _ _ _ _ _ _ A49) (hargs:=by (simp only [ma_,mb_,mc_,F] <;> rfl)) (h:=?_);rintro e W ⟨rfl,hb⟩;refine ⟨_,rfl,?_⟩;replace S:=S.go hb;clear F hb;have F:=S.fc) | ((with_reducible refine gate_callee (f:=144) rfl (L ?_));obtain ⟨ok_,k_⟩:=S.lend (A:=Ax187002_1);refine cl (some 52) Try.func144 (spec_flPass.calls _ _ _ ok_ _ _ _ _ _ _ _ _ _ k_.below k_.own k_.c k_.n A50) (hargs:=by (simp only [ma_,mb_,mc_,F] <;> rfl)) (h:=?_);rintro e W ⟨rfl,hy,hb,hk⟩;refine ⟨_,rfl,?_⟩;clear S F;have S:=k_.back _ _ hy hb hk;clear k_ hy hb hk ok_;have F:=S.fc) | ((with_reducible refine gate_callee (f:=89) rfl (L ?_));refine cl (some 62) Try.func89 (spec_l1In.calls _ _ _ _ _ A51) (hargs:=by (simp only [ma_,mb_,mc_,F] <;> rfl)) (h:=?_);rintro e W ⟨rfl,hb⟩;refine ⟨_,rfl,?_⟩;replace S:=S.gw hb;clear F hb;have F:=S.fc) | ((with_reducible refine gs (t:=50) rfl (L ?_));(first | refine sb (.agg #[_,_,_]) S sz50 ?_ | refine ro (.agg #[_,_,_]) S sz50 ?_ (ho:=rfl) (hx:=rfl) (hy:=rfl));clear S F;intro W S;(try rw [← Ny187.out] at S);(try rw [← Ny190.out] at S);have F:=S.fc) | ((with_reducible refine gs (t:=88) rfl (L ?_));(first | refine sb (.agg #[_,_]) S sz88 ?_ | refine ro (.agg #[_,_]) S sz88 ?_ (ho:=rfl) (hx:=rfl) (hy:=rfl));clear S F;intro W S;(try rw [← Ny187.out] at S);(try rw [← Ny190.out] at S);have F:=S.fc) | ((with_reducible refine gs (t:=127) rfl (L ?_));(first | refine sb (.agg #[_,_,_]) S sz127 ?_ | refine ro (.agg #[_,_,_]) S sz127 ?_ (ho:=rfl) (hx:=rfl) (hy:=rfl));clear S F;intro W S;(try rw [← Ny187.out] at S);(try rw [← Ny190.out] at S);have F:=S.fc))
         refine rgP S (fun _ S=>(S.ms [1,1,1,1,1,0,0])) [(0,0),(0,1),(0,2),(0,4),(1,3),(2,5),(2,6),(0,7)] [] (by kernel_rfl) (by kernel_rfl) (fun _ d _ _ _ h=>by cases d <;> exact h) ?_;clear S F;intro W S;have S0:=(S.ms [1,1,1,1,1,0,0]);have F:=S.fc
         repeat (first | (refine q0 (h:=?_)) | (refine q1 S0 (h:=?_)) | (refine q0n (h:=?_)) | (refine q1n S0 (h:=?_)))
         refine lk2 (by rfl) (by exact (Eq.refl true)) ?_;(first | refine sb (.agg #[_,_,_]) S sz50 ?_ | refine ro (.agg #[_,_,_]) S sz50 ?_ (ho:=rfl) (hx:=rfl) (hy:=rfl) | refine sb (.agg #[_,_]) S sz88 ?_ | refine ro (.agg #[_,_]) S sz88 ?_ (ho:=rfl) (hx:=rfl) (hy:=rfl) | refine sb (.agg #[_,_,_]) S sz127 ?_ | refine ro (.agg #[_,_,_]) S sz127 ?_ (ho:=rfl) (hx:=rfl) (hy:=rfl));clear S F;intro W S;(try rw [← Ny187.out] at S);(try rw [← Ny190.out] at S);have F:=S.fc
         clear S0;have S0:=(S.ms [1,1,1,1,1,0,0]);refine ⟨S0,?_⟩
         refine lk2 (by rfl) (by exact (Eq.refl true)) ?_;(first | refine sb (.agg #[_,_,_]) S sz50 ?_ | refine ro (.agg #[_,_,_]) S sz50 ?_ (ho:=rfl) (hx:=rfl) (hy:=rfl) | refine sb (.agg #[_,_]) S sz88 ?_ | refine ro (.agg #[_,_]) S sz88 ?_ (ho:=rfl) (hx:=rfl) (hy:=rfl) | refine sb (.agg #[_,_,_]) S sz127 ?_ | refine ro (.agg #[_,_,_]) S sz127 ?_ (ho:=rfl) (hx:=rfl) (hy:=rfl));clear S F;intro W S;(try rw [← Ny187.out] at S);(try rw [← Ny190.out] at S);have F:=S.fc
         clear S0;have S0:=(S.ms [1,1,1,1,1,0,0]);refine ⟨S0,?_⟩
         repeat (first | (refine q0 (h:=?_)) | (refine q1 S0 (h:=?_)) | (refine q0n (h:=?_)) | (refine q1n S0 (h:=?_)))
         refine oz ?_
         try clear S0
         go_wp2_with (first | ((with_reducible refine gs (t:=50) rfl (L ?_));(first | refine sb (.agg #[_,_,_]) S sz50 ?_ | refine ro (.agg #[_,_,_]) S sz50 ?_ (ho:=rfl) (hx:=rfl) (hy:=rfl));clear S F;intro W S;(try rw [← Ny187.out] at S);(try rw [← Ny190.out] at S);have F:=S.fc) | ((with_reducible refine gs (t:=88) rfl (L ?_));(first | refine sb (.agg #[_,_]) S sz88 ?_ | refine ro (.agg #[_,_]) S sz88 ?_ (ho:=rfl) (hx:=rfl) (hy:=rfl));clear S F;intro W S;(try rw [← Ny187.out] at S);(try rw [← Ny190.out] at S);have F:=S.fc) | ((with_reducible refine gs (t:=127) rfl (L ?_));(first | refine sb (.agg #[_,_,_]) S sz127 ?_ | refine ro (.agg #[_,_,_]) S sz127 ?_ (ho:=rfl) (hx:=rfl) (hy:=rfl));clear S F;intro W S;(try rw [← Ny187.out] at S);(try rw [← Ny190.out] at S);have F:=S.fc))
         refine bodyPost_ret (results_list (rs:=[.cell 6 127,.cell 7 50,.tmp 8]) rfl (by simp) (.cell gb179 127 #[.int .i64 3,.int .i64 x12_1,.int .i64 (wrap64 (x2_1 + t196))] (0,0) _ rfl S.hb Try.underlying127 rfl (by kernel_rfl) (.cell gb180 50 #[.int .i64 t181,.int .i64 t182,.slice Ax187002_1 x187002_1.length cx187002_1] (0,0) _ rfl S.hb Try.underlying50 rfl (by kernel_rfl) (.tmp .nil)))) rfl ?_
         exact ⟨_,_,(by first | rfl | (simp [e0_,e1_] <;> rfl) | (simp [*,e0_,e1_] <;> rfl)),(by first | exact S.r | exact Kd.R_nil _ _ _ _ _),(by first | exact S.r | exact Kd.R_nil _ _ _ _ _),S.below⟩
   · skip
     simp only [Option.some.injEq,Prod.mk.injEq] at H
     obtain ⟨rfl,rfl,rfl,rfl,rfl,rfl,rfl⟩:=H
     go_wp2_with (first | ((with_reducible refine gs (t:=50) rfl (L ?_));(first | refine sb (.agg #[_,_,_]) S sz50 ?_ | refine ro (.agg #[_,_,_]) S sz50 ?_ (ho:=rfl) (hx:=rfl) (hy:=rfl));(clear S F;intro W S;have F:=S.fc)) | ((with_reducible refine gs (t:=88) rfl (L ?_));(first | refine sb (.agg #[_,_]) S sz88 ?_ | refine ro (.agg #[_,_]) S sz88 ?_ (ho:=rfl) (hx:=rfl) (hy:=rfl));(clear S F;intro W S;have F:=S.fc)) | ((with_reducible refine gs (t:=127) rfl (L ?_));(first | refine sb (.agg #[_,_,_]) S sz127 ?_ | refine ro (.agg #[_,_,_]) S sz127 ?_ (ho:=rfl) (hx:=rfl) (hy:=rfl));(clear S F;intro W S;have F:=S.fc)))
     refine rgP S (fun _ S=>(S.pm [0,1,2,5])) [(0,0),(0,2),(0,5),(1,1),(0,3),(1,4),(2,6),(2,7),(0,8)] [] (by kernel_rfl) (by kernel_rfl) (fun _ d _ _ _ h=>by cases d <;> exact h) ?_;clear S F;intro W S;have S0:=(S.pm [0,1,2,5]);have F:=S.fc
     repeat (first | (refine q0 (h:=?_)) | (refine q1 S0 (h:=?_)) | (refine q0n (h:=?_)) | (refine q1n S0 (h:=?_)))
     refine lk2 (by rfl) (by exact (Eq.refl true)) ?_;(first | refine sb (.agg #[_,_,_]) S sz50 ?_ | refine ro (.agg #[_,_,_]) S sz50 ?_ (ho:=rfl) (hx:=rfl) (hy:=rfl) | refine sb (.agg #[_,_]) S sz88 ?_ | refine ro (.agg #[_,_]) S sz88 ?_ (ho:=rfl) (hx:=rfl) (hy:=rfl) | refine sb (.agg #[_,_,_]) S sz127 ?_ | refine ro (.agg #[_,_,_]) S sz127 ?_ (ho:=rfl) (hx:=rfl) (hy:=rfl));(clear S F;intro W S;have F:=S.fc)
     clear S0;have S0:=(S.pm [0,1,2,5]);refine ⟨S0,?_⟩
     refine lk2 (by rfl) (by exact (Eq.refl true)) ?_;(first | refine sb (.agg #[_,_,_]) S sz50 ?_ | refine ro (.agg #[_,_,_]) S sz50 ?_ (ho:=rfl) (hx:=rfl) (hy:=rfl) | refine sb (.agg #[_,_]) S sz88 ?_ | refine ro (.agg #[_,_]) S sz88 ?_ (ho:=rfl) (hx:=rfl) (hy:=rfl) | refine sb (.agg #[_,_,_]) S sz127 ?_ | refine ro (.agg #[_,_,_]) S sz127 ?_ (ho:=rfl) (hx:=rfl) (hy:=rfl));(clear S F;intro W S;have F:=S.fc)
     clear S0;have S0:=(S.pm [0,1,2,5]);refine ⟨S0,?_⟩
     repeat (first | (refine q0 (h:=?_)) | (refine q1 S0 (h:=?_)) | (refine q0n (h:=?_)) | (refine q1n S0 (h:=?_)))
     refine oz ?_
     try clear S0
     go_wp2_with (first | ((with_reducible refine gs (t:=50) rfl (L ?_));(first | refine sb (.agg #[_,_,_]) S sz50 ?_ | refine ro (.agg #[_,_,_]) S sz50 ?_ (ho:=rfl) (hx:=rfl) (hy:=rfl));(clear S F;intro W S;have F:=S.fc)) | ((with_reducible refine gs (t:=88) rfl (L ?_));(first | refine sb (.agg #[_,_]) S sz88 ?_ | refine ro (.agg #[_,_]) S sz88 ?_ (ho:=rfl) (hx:=rfl) (hy:=rfl));(clear S F;intro W S;have F:=S.fc)) | ((with_reducible refine gs (t:=127) rfl (L ?_));(first | refine sb (.agg #[_,_,_]) S sz127 ?_ | refine ro (.agg #[_,_,_]) S sz127 ?_ (ho:=rfl) (hx:=rfl) (hy:=rfl));(clear S F;intro W S;have F:=S.fc)))
     refine bodyPost_ret (results_list (rs:=[.cell 6 127,.cell 7 50,.tmp 8]) rfl (by simp) (.cell gb179 127 #[.int .i64 1,.int .i64 a0_0,.int .i64 x2_1] (0,0) _ rfl S.hb Try.underlying127 rfl (by kernel_rfl) (.cell gb180 50 #[.int .i64 t181,.int .i64 t182,.slice Ax187002_1 x187002_1.length cx187002_1] (0,0) _ rfl S.hb Try.underlying50 rfl (by kernel_rfl) (.tmp .nil)))) rfl ?_
     exact ⟨_,_,(by first | rfl | (simp [e0_,e1_] <;> rfl) | (simp [*,e0_,e1_] <;> rfl)),(by first | exact S.r | exact Kd.R_nil _ _ _ _ _),(by first | exact S.r | exact Kd.R_nil _ _ _ _ _),S.below⟩

/-! ### spec_ggGear: function 145 -/
def spec_ggGear.f (a0_0:Int) (a0_1:Int):Option (Bool):=if a0_0 = 6 then (some true) else (some (a0_0 == 7))
theorem spec_ggGear.calls (a0_0:Int) (a0_1:Int) (r:Bool) (w:World) (h:spec_ggGear.f a0_0 a0_1 = some r) :
    Calls Try.prog 145 #[.agg #[.int .i64 a0_0,.int .i64 a0_1]] w fun e w'=>e = .returned (.bool r)∧Below w.heap.size w w':=by
 have S:=St.init (w:=w) dn
 have F:=S.fc
 have H:=h;clear h;unfold spec_ggGear.f at H
 replace H:=sp_ H;rcases H with ⟨c2,H⟩ | ⟨c2,H⟩
 · skip
   replace c2:=ceq c2
   obtain rfl:=Option.some.inj H
   go_enter Try.func145,Try.ntmps145
   go_wp2_with (first | ((with_reducible refine gd 1 rfl (L ?_));refine bo 1 (.agg #[_,_]) S ?_;clear S F;intro gb199 W S;have F:=S.fc))
   go_ret
   exact ⟨(by first | rfl | (simp [e0_,e1_] <;> rfl) | (simp [*,e0_,e1_] <;> rfl)),S.below⟩
 · skip
   replace c2:=cne c2
   obtain rfl:=Option.some.inj H
   go_enter Try.func145,Try.ntmps145
   go_wp2_with (first | ((with_reducible refine gd 1 rfl (L ?_));refine bo 1 (.agg #[_,_]) S ?_;clear S F;intro gb199 W S;have F:=S.fc))
   go_ret
   exact ⟨(by first | rfl | (simp [e0_,e1_] <;> rfl) | (simp [*,e0_,e1_] <;> rfl)),S.below⟩

/-! ### spec_ggNear: function 146 -/
mutual
def spec_ggNear.j0:Nat→Int→Int→Int→List Int→Int→Int→List (S88)→Option (List Int)
  | 0,_,_,_,_,_,_,_=>none
  | k + 1,x1,x5,x6,x7,x201000,x201001,x201002=>if x6 > 0 then (if x7.length < 17592186044416 then (spec_ggNear.j1 k x1 x5 x6 (x7 ++ [wrap64 (x1 - 1)]) x201000 x201001 x201002) else (none)) else (spec_ggNear.j1 k x1 x5 x6 x7 x201000 x201001 x201002)
def spec_ggNear.j1:Nat→Int→Int→Int→List Int→Int→Int→List (S88)→Option (List Int)
  | 0,_,_,_,_,_,_,_=>none
  | k + 1,x1,x5,x6,x7,x201000,x201001,x201002=>if (wrap64 (x6 + 1)) < x201001 then (if x7.length < 17592186044416 then ((some (x7 ++ [wrap64 (x1 + 1)]:List Int)).bind fun y207=>(if (wrap64 (x5 + 1)) < x201000 then (if y207.length < 17592186044416 then (some (y207 ++ [wrap64 (x1 + x201001)])) else (none)) else (some y207))) else (none)) else (if (wrap64 (x5 + 1)) < x201000 then (if x7.length < 17592186044416 then (some (x7 ++ [wrap64 (x1 + x201001)])) else (none)) else (some x7))
end
def spec_ggNear.f (k:Nat) (a0_0:Int) (a0_1:Int) (l0_2:List (S88)) (a1:Int):Option (List Int):=if a0_1 = 0 then (none) else (if (wrap64 (Int.tdiv a1 a0_1)) > 0 then (if ([]:List Int).length < 17592186044416 then (spec_ggNear.j0 k a1 (wrap64 (Int.tdiv a1 a0_1)) (Int.tmod a1 a0_1) (([]:List Int) ++ [wrap64 (a1 - a0_1)]) a0_0 a0_1 l0_2) else (none)) else (spec_ggNear.j0 k a1 (wrap64 (Int.tdiv a1 a0_1)) (Int.tmod a1 a0_1) ([]:List Int) a0_0 a0_1 l0_2))
theorem spec_ggNear.calls (k:Nat) (a0_0:Int) (a0_1:Int) (A0_2:Option Addr) (c0_2:Nat) (l0_2:List (S88)) (a1:Int) (r:List Int) (w:World) (hr0_2:Kd.C k88 w A0_2 l0_2.length l0_2) (hc0_2:l0_2.length ≤ c0_2) (h:spec_ggNear.f k a0_0 a0_1 l0_2 a1 = some r) :
    Calls Try.prog 146 #[.agg #[.int .i64 a0_0,.int .i64 a0_1,.slice A0_2 l0_2.length c0_2],.int .i64 a1] w fun e w'=>∃ v0_:Value,e = .returned (v0_)∧Kd.R (Kd.int .i64) 3 w' w.heap.size (fun _=>True) v0_ r∧Below w.heap.size w w':=by
 have S:=St.init (w:=w) (dc k88_heap at88 hr0_2 hc0_2 dn)
 clear hr0_2 hc0_2
 have F:=S.fc
 have H:=h;clear h;unfold spec_ggNear.f at H
 replace H:=nn_ H;obtain ⟨c3,H⟩:=H
 replace c3:=cne c3
 go_enter Try.func146,Try.ntmps146
 go_upto_if 17 with (first | ((with_reducible refine gd 2 rfl (L ?_));refine bo 2 (.agg #[_,_,_]) S ?_;clear S F;intro gb200 W S;have F:=S.fc))
 go_upto_if 17 with (first | ((with_reducible refine gd 2 rfl (L ?_));refine bo 2 (.agg #[_,_,_]) S ?_;clear S F;intro gb200 W S;have F:=S.fc) | ((with_reducible refine gd 2 rfl (L ?_));refine bo 2 (.agg #[_,_,_]) S ?_;clear S F;intro gb200 W S;have F:=S.fc) | ((refine rq (id:=1) S [(0,0),(0,1),(0,4),(0,5),(1,2),(0,3),(0,8),(1,6),(0,7),(0,9)] [] (h:=?_);clear S F;intro W S;have S0:=S;have F:=S.fc)) | (refine q0 (h:=?_)) | (refine q1 S0 (h:=?_)) | (refine q0n (h:=?_)) | (refine q1n S0 (h:=?_)) | refine oz ?_)
 go_cut [7] (fun v7 wc=>∃ (kq:Nat) (x7_3:List Int) (Ax7_3:Option Addr) (cx7_3:Nat),v7 = .slice Ax7_3 x7_3.length cx7_3∧spec_ggNear.j0 kq a1 (wrap64 (Int.tdiv a1 a0_1)) (Int.tmod a1 a0_1) x7_3 a0_0 a0_1 l0_2 = some r∧kq ≤ k∧St w w (fun _=>False) [bor at88 A0_2 c0_2 l0_2] wc  [row (atI .i64) 3 Ax7_3 x7_3.length cx7_3 x7_3,box gb200 50 [.int .i64 a0_0,.int .i64 a0_1,.slice A0_2 l0_2.length c0_2]])
 case first =>
  replace H:=sp_ H;rcases H with ⟨c7,H⟩ | ⟨c7,H⟩
  · skip
    replace H:=np_ H;obtain ⟨c8,H⟩:=H
    (first | (with_reducible replace H:=ob_ H;obtain ⟨y201,hy201,H⟩:=H;(try dsimp only at H)) | (obtain ⟨y201,hy201⟩:∃ y_:List Int,y_ = (([]:List Int) ++ [wrap64 (a1 - a0_1)]):=⟨_,rfl⟩;(try rw [← hy201] at H);(try simp only [Option.bind_some] at H)));have Ny201:=Aside0.mk hy201;clear hy201
    go_wp2_with (first | ((with_reducible refine gd 24 rfl (L ?_));replace S:=S.nl (e:=3) (atI .i64);refine apa (A:=none) 24 S Try.underlying23 info3 ?_ (ho:=rfl) (hs:=rfl) (hx:=rfl);clear S F;intro Ay201 cy201 W S;(try rw [← Ny201.out] at S ⊢);have F:=S.fc))
    go_wp2_with (first | ((with_reducible refine gd 24 rfl (L ?_));replace S:=S.nl (e:=3) (atI .i64);refine apa (A:=none) 24 S Try.underlying23 info3 ?_ (ho:=rfl) (hs:=rfl) (hx:=rfl);clear S F;intro Ay201 cy201 W S;(try rw [← Ny201.out] at S ⊢);have F:=S.fc) | ((with_reducible refine gd 24 rfl (L ?_));replace S:=S.nl (e:=3) (atI .i64);refine apa (A:=none) 24 S Try.underlying23 info3 ?_ (ho:=rfl) (hs:=rfl) (hx:=rfl);clear S F;intro Ay201 cy201 W S;(try rw [← Ny201.out] at S ⊢);have F:=S.fc) | ((refine rq (id:=1) S [(0,0),(0,1),(0,4),(0,5),(1,2),(0,3),(0,8),(1,6),(0,7),(0,9)] [] (h:=?_);clear S F;intro W S;have S0:=S;have F:=S.fc)) | (refine q0 (h:=?_)) | (refine q1 S0 (h:=?_)) | (refine q0n (h:=?_)) | (refine q1n S0 (h:=?_)) | refine oz ?_)
    go_meet
    case rel=>exact ⟨_,y201,_,_,rfl,H,(by first | omega | exact Nat.le_refl _),S⟩
  · skip
    go_wp2
    go_wp2_with (first | ((refine rq (id:=1) S [(0,0),(0,1),(0,4),(0,5),(1,2),(0,3),(0,8),(1,6),(0,7),(0,9)] [] (h:=?_);clear S F;intro W S;have S0:=S;have F:=S.fc)) | (refine q0 (h:=?_)) | (refine q1 S0 (h:=?_)) | (refine q0n (h:=?_)) | (refine q1n S0 (h:=?_)) | refine oz ?_)
    go_meet
    case rel=>exact ⟨_,_,_,_,rfl,H,(by first | omega | exact Nat.le_refl _),S.nl (e:=3) (atI .i64)⟩
 case rest =>
  clear H S F
  obtain ⟨kq,x7_3,Ax7_3,cx7_3,rfl,HA,HJ3,S⟩:=hcut
  have F:=S.fc
  cases kq with
  | zero=>exact absurd HA (by simp [spec_ggNear.j0])
  | succ kj3 =>
   have H:=HA;clear HA;simp only [spec_ggNear.j0,F] at H
   go_upto_if 26 with (fail)
   go_upto_if 26 with (first | ((refine rq (id:=1) S [(0,0),(0,1),(0,4),(0,5),(1,2),(0,3),(0,8),(1,6),(0,7),(0,9)] [] (h:=?_);clear S F;intro W S;have S0:=S;have F:=S.fc)) | (refine q0 (h:=?_)) | (refine q1 S0 (h:=?_)) | (refine q0n (h:=?_)) | (refine q1n S0 (h:=?_)) | refine oz ?_)
   go_cut [7] (fun v7 wc=>∃ (kq:Nat) (x7_10:List Int) (Ax7_10:Option Addr) (cx7_10:Nat),v7 = .slice Ax7_10 x7_10.length cx7_10∧spec_ggNear.j1 kq a1 (wrap64 (Int.tdiv a1 a0_1)) (Int.tmod a1 a0_1) x7_10 a0_0 a0_1 l0_2 = some r∧kq ≤ kj3∧St w w (fun _=>False) [bor at88 A0_2 c0_2 l0_2] wc  [row (atI .i64) 3 Ax7_10 x7_10.length cx7_10 x7_10,box gb200 50 [.int .i64 a0_0,.int .i64 a0_1,.slice A0_2 l0_2.length c0_2]])
   case first =>
    replace H:=sp_ H;rcases H with ⟨c12,H⟩ | ⟨c12,H⟩
    · skip
      replace H:=np_ H;obtain ⟨c13,H⟩:=H
      (first | (with_reducible replace H:=ob_ H;obtain ⟨y204,hy204,H⟩:=H;(try dsimp only at H)) | (obtain ⟨y204,hy204⟩:∃ y_:List Int,y_ = (x7_3 ++ [wrap64 (a1 - 1)]):=⟨_,rfl⟩;(try rw [← hy204] at H);(try simp only [Option.bind_some] at H)));have Ny204:=Aside0.mk hy204;clear hy204
      go_wp2_with (first | ((with_reducible refine gd 31 rfl (L ?_));refine apa (A:=Ax7_3) 31 S Try.underlying23 info3 ?_ (ho:=rfl) (hs:=rfl) (hx:=rfl);clear S F;intro Ay204 cy204 W S;(try rw [← Ny204.out] at S ⊢);have F:=S.fc))
      go_wp2_with (first | ((with_reducible refine gd 31 rfl (L ?_));refine apa (A:=Ax7_3) 31 S Try.underlying23 info3 ?_ (ho:=rfl) (hs:=rfl) (hx:=rfl);clear S F;intro Ay204 cy204 W S;(try rw [← Ny204.out] at S ⊢);have F:=S.fc) | ((with_reducible refine gd 31 rfl (L ?_));refine apa (A:=Ax7_3) 31 S Try.underlying23 info3 ?_ (ho:=rfl) (hs:=rfl) (hx:=rfl);clear S F;intro Ay204 cy204 W S;(try rw [← Ny204.out] at S ⊢);have F:=S.fc) | ((refine rq (id:=1) S [(0,0),(0,1),(0,4),(0,5),(1,2),(0,3),(0,8),(1,6),(0,7),(0,9)] [] (h:=?_);clear S F;intro W S;have S0:=S;have F:=S.fc)) | (refine q0 (h:=?_)) | (refine q1 S0 (h:=?_)) | (refine q0n (h:=?_)) | (refine q1n S0 (h:=?_)) | refine oz ?_)
      go_meet
      case rel=>exact ⟨_,y204,_,_,rfl,H,(by first | omega | exact Nat.le_refl _),S⟩
    · skip
      go_wp2
      go_wp2_with (first | ((refine rq (id:=1) S [(0,0),(0,1),(0,4),(0,5),(1,2),(0,3),(0,8),(1,6),(0,7),(0,9)] [] (h:=?_);clear S F;intro W S;have S0:=S;have F:=S.fc)) | (refine q0 (h:=?_)) | (refine q1 S0 (h:=?_)) | (refine q0n (h:=?_)) | (refine q1n S0 (h:=?_)) | refine oz ?_)
      go_meet
      case rel=>exact ⟨_,x7_3,_,_,rfl,H,(by first | omega | exact Nat.le_refl _),S⟩
   case rest =>
    clear H S F
    obtain ⟨kq,x7_10,Ax7_10,cx7_10,rfl,HA,HJ10,S⟩:=hcut
    have F:=S.fc
    cases kq with
    | zero=>exact absurd HA (by simp [spec_ggNear.j1])
    | succ kj10 =>
     have H:=HA;clear HA;simp only [spec_ggNear.j1,F] at H
     replace H:=sp_ H;rcases H with ⟨c15,H⟩ | ⟨c15,H⟩
     · skip
       replace H:=np_ H;obtain ⟨c16,H⟩:=H
       (first | (with_reducible replace H:=ob_ H;obtain ⟨y207,hy207,H⟩:=H;(try dsimp only at H)) | (obtain ⟨y207,hy207⟩:∃ y_:List Int,y_ = (x7_10 ++ [wrap64 (a1 + 1)]):=⟨_,rfl⟩;(try rw [← hy207] at H);(try simp only [Option.bind_some] at H)));have Ny207:=Aside0.mk hy207;clear hy207
       replace H:=sp_ H;rcases H with ⟨c17,H⟩ | ⟨c17,H⟩
       · skip
         replace H:=np_ H;obtain ⟨c18,H⟩:=H
         (first | (with_reducible replace H:=ob_ H;obtain ⟨y210,hy210,H⟩:=H;(try dsimp only at H)) | (obtain ⟨y210,hy210⟩:∃ y_:List Int,y_ = (y207 ++ [wrap64 (a1 + a0_1)]):=⟨_,rfl⟩;(try rw [← hy210] at H);(try simp only [Option.bind_some] at H)));have Ny210:=Aside0.mk hy210;clear hy210
         obtain rfl:=Option.some.inj H
         go_wp2_with (first | ((with_reducible refine gd 41 rfl (L ?_));refine apa (A:=Ax7_10) 41 S Try.underlying23 info3 ?_ (ho:=rfl) (hs:=rfl) (hx:=rfl);clear S F;intro Ay207 cy207 W S;(try rw [← Ny207.out] at S ⊢);(try rw [← Ny210.out] at S ⊢);have F:=S.fc) | ((with_reducible refine gd 53 rfl (L ?_));refine apa (A:=Ay207) 53 S Try.underlying23 info3 ?_ (ho:=rfl) (hs:=rfl) (hx:=rfl);clear S F;intro Ay210 cy210 W S;(try rw [← Ny207.out] at S ⊢);(try rw [← Ny210.out] at S ⊢);have F:=S.fc))
         go_wp2_with (first | ((with_reducible refine gd 41 rfl (L ?_));refine apa (A:=Ax7_10) 41 S Try.underlying23 info3 ?_ (ho:=rfl) (hs:=rfl) (hx:=rfl);clear S F;intro Ay207 cy207 W S;(try rw [← Ny207.out] at S ⊢);(try rw [← Ny210.out] at S ⊢);have F:=S.fc) | ((with_reducible refine gd 53 rfl (L ?_));refine apa (A:=Ay207) 53 S Try.underlying23 info3 ?_ (ho:=rfl) (hs:=rfl) (hx:=rfl);clear S F;intro Ay210 cy210 W S;(try rw [← Ny207.out] at S ⊢);(try rw [← Ny210.out] at S ⊢);have F:=S.fc) | ((with_reducible refine gd 41 rfl (L ?_));refine apa (A:=Ax7_10) 41 S Try.underlying23 info3 ?_ (ho:=rfl) (hs:=rfl) (hx:=rfl);clear S F;intro Ay207 cy207 W S;(try rw [← Ny207.out] at S ⊢);(try rw [← Ny210.out] at S ⊢);have F:=S.fc) | ((with_reducible refine gd 53 rfl (L ?_));refine apa (A:=Ay207) 53 S Try.underlying23 info3 ?_ (ho:=rfl) (hs:=rfl) (hx:=rfl);clear S F;intro Ay210 cy210 W S;(try rw [← Ny207.out] at S ⊢);(try rw [← Ny210.out] at S ⊢);have F:=S.fc) | ((refine rq (id:=1) S [(0,0),(0,1),(0,4),(0,5),(1,2),(0,3),(0,8),(1,6),(0,7),(0,9)] [] (h:=?_);clear S F;intro W S;have S0:=S;have F:=S.fc)) | (refine q0 (h:=?_)) | (refine q1 S0 (h:=?_)) | (refine q0n (h:=?_)) | (refine q1n S0 (h:=?_)) | refine oz ?_)
         go_ret
         exact ⟨_,(by first | rfl | (simp [e0_,e1_] <;> rfl) | (simp [*,e0_,e1_] <;> rfl)),(by first | exact S.r | exact Kd.R_nil _ _ _ _ _),S.below⟩
       · skip
         obtain rfl:=Option.some.inj H
         go_wp2_with (first | ((with_reducible refine gd 41 rfl (L ?_));refine apa (A:=Ax7_10) 41 S Try.underlying23 info3 ?_ (ho:=rfl) (hs:=rfl) (hx:=rfl);clear S F;intro Ay207 cy207 W S;(try rw [← Ny207.out] at S ⊢);have F:=S.fc))
         go_wp2_with (first | ((with_reducible refine gd 41 rfl (L ?_));refine apa (A:=Ax7_10) 41 S Try.underlying23 info3 ?_ (ho:=rfl) (hs:=rfl) (hx:=rfl);clear S F;intro Ay207 cy207 W S;(try rw [← Ny207.out] at S ⊢);have F:=S.fc) | ((with_reducible refine gd 41 rfl (L ?_));refine apa (A:=Ax7_10) 41 S Try.underlying23 info3 ?_ (ho:=rfl) (hs:=rfl) (hx:=rfl);clear S F;intro Ay207 cy207 W S;(try rw [← Ny207.out] at S ⊢);have F:=S.fc) | ((refine rq (id:=1) S [(0,0),(0,1),(0,4),(0,5),(1,2),(0,3),(0,8),(1,6),(0,7),(0,9)] [] (h:=?_);clear S F;intro W S;have S0:=S;have F:=S.fc)) | (refine q0 (h:=?_)) | (refine q1 S0 (h:=?_)) | (refine q0n (h:=?_)) | (refine q1n S0 (h:=?_)) | refine oz ?_)
         go_ret
         exact ⟨_,(by first | rfl | (simp [e0_,e1_] <;> rfl) | (simp [*,e0_,e1_] <;> rfl)),(by first | exact S.r | exact Kd.R_nil _ _ _ _ _),S.below⟩
     · skip
       replace H:=sp_ H;rcases H with ⟨c26,H⟩ | ⟨c26,H⟩
       · skip
         replace H:=np_ H;obtain ⟨c27,H⟩:=H
         (first | (with_reducible replace H:=ob_ H;obtain ⟨y213,hy213,H⟩:=H;(try dsimp only at H)) | (obtain ⟨y213,hy213⟩:∃ y_:List Int,y_ = (x7_10 ++ [wrap64 (a1 + a0_1)]):=⟨_,rfl⟩;(try rw [← hy213] at H);(try simp only [Option.bind_some] at H)));have Ny213:=Aside0.mk hy213;clear hy213
         obtain rfl:=Option.some.inj H
         go_wp2_with (first | ((with_reducible refine gd 53 rfl (L ?_));refine apa (A:=Ax7_10) 53 S Try.underlying23 info3 ?_ (ho:=rfl) (hs:=rfl) (hx:=rfl);clear S F;intro Ay213 cy213 W S;(try rw [← Ny213.out] at S ⊢);have F:=S.fc))
         go_wp2_with (first | ((with_reducible refine gd 53 rfl (L ?_));refine apa (A:=Ax7_10) 53 S Try.underlying23 info3 ?_ (ho:=rfl) (hs:=rfl) (hx:=rfl);clear S F;intro Ay213 cy213 W S;(try rw [← Ny213.out] at S ⊢);have F:=S.fc) | ((with_reducible refine gd 53 rfl (L ?_));refine apa (A:=Ax7_10) 53 S Try.underlying23 info3 ?_ (ho:=rfl) (hs:=rfl) (hx:=rfl);clear S F;intro Ay213 cy213 W S;(try rw [← Ny213.out] at S ⊢);have F:=S.fc) | ((refine rq (id:=1) S [(0,0),(0,1),(0,4),(0,5),(1,2),(0,3),(0,8),(1,6),(0,7),(0,9)] [] (h:=?_);clear S F;intro W S;have S0:=S;have F:=S.fc)) | (refine q0 (h:=?_)) | (refine q1 S0 (h:=?_)) | (refine q0n (h:=?_)) | (refine q1n S0 (h:=?_)) | refine oz ?_)
         go_ret
         exact ⟨_,(by first | rfl | (simp [e0_,e1_] <;> rfl) | (simp [*,e0_,e1_] <;> rfl)),(by first | exact S.r | exact Kd.R_nil _ _ _ _ _),S.below⟩
       · skip
         obtain rfl:=Option.some.inj H
         go_wp2
         go_wp2_with (first | ((refine rq (id:=1) S [(0,0),(0,1),(0,4),(0,5),(1,2),(0,3),(0,8),(1,6),(0,7),(0,9)] [] (h:=?_);clear S F;intro W S;have S0:=S;have F:=S.fc)) | (refine q0 (h:=?_)) | (refine q1 S0 (h:=?_)) | (refine q0n (h:=?_)) | (refine q1n S0 (h:=?_)) | refine oz ?_)
         go_ret
         exact ⟨_,(by first | rfl | (simp [e0_,e1_] <;> rfl) | (simp [*,e0_,e1_] <;> rfl)),(by first | exact S.r | exact Kd.R_nil _ _ _ _ _),S.below⟩
end Go.Proofs.Ytipaimgpmgbkiaa.F
