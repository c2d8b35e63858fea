-- Printed by a program; checked here.
import Derived.Test.YtipaimgpmgbkiaaF0
namespace Go.Proofs.Ytipaimgpmgbkiaa.F
open Go.RowKit Go.Proofs.YtipaimgpmgbkiaaV.PrintWords Go.Proofs.YtipaimgpmgbkiaaV.PrintLast Go.Proofs.YtipaimgpmgbkiaaV.PrintMore Go.Proofs.YtipaimgpmgbkiaaV.Sl
attribute [local go_sem] max2_int min2_int max_two min_two max_three min_three max_four min_four ia_opt it_opt
attribute [local go_sem] Try.underlying23 Try.underlying29 Try.underlying41 Try.underlying42 Try.underlying46 Try.underlying50 Try.underlying63 Try.underlying88 Try.underlying106 Try.underlying127
set_option maxHeartbeats 8000000
set_option maxRecDepth 100000
set_option linter.unusedVariables false
set_option linter.unusedSimpArgs false

/-! ### laws_szCellS: function 58 -/
def laws_szCellS.f (l0:List (S106)) (a1:Int):Option (Int):=if (wrap64 (a1 - (l0.length:Int))) < 0 then (some (-1)) else (some (wrap64 (a1 - (l0.length:Int))))
theorem laws_szCellS.calls (A0:Option Addr) (c0:Nat) (l0:List (S106)) (a1:Int) (r:Int) (w:World) (hr0:Kd.C k106 w A0 l0.length l0) (hc0:l0.length ≤ c0) (h:laws_szCellS.f l0 a1 = some r) :
  Calls Try.prog 58 #[.slice A0 l0.length c0,.int .i64 a1] w fun e w'=>e = .returned (.int .i64 r)∧Drawn0 w w':=by
 have HR0:=Aside0.mk hr0;have HC0:=Aside0.mk hc0;clear hr0 hc0;have H:(if (wrap64 (a1 - (l0.length:Int))) < 0 then (some (-1)) else (some (wrap64 (a1 - (l0.length:Int))))) = some r:=h;clear h;by_cases c3:(wrap64 (a1 - (l0.length:Int))) < 0
 ·rw [if_pos c3] at H;have c3b0:decide ((wrap64 (a1 - (l0.length:Int))) < 0) = true:=decide_eq_true c3;clear c3;obtain rfl:=Option.some.inj H;go_enter Try.func58,Try.ntmps58;go_wp2;go_ret;exact ⟨by first | rfl | (simp;done) | (simp [*];done),by repeat (first | exact Drawn0.refl _ | apply Drawn0.step)⟩
 ·rw [if_neg c3] at H;have c3b0:decide ((wrap64 (a1 - (l0.length:Int))) < 0) = false:=decide_eq_false c3;clear c3;obtain rfl:=Option.some.inj H;go_enter Try.func58,Try.ntmps58;go_wp2;go_ret;exact ⟨by first | rfl | (simp;done) | (simp [*];done),by repeat (first | exact Drawn0.refl _ | apply Drawn0.step)⟩

/-! ### laws_szBoard: function 29 -/
def laws_szBoard.f (a0_0:Int) (a0_1:Int) (l0_2:List (S106)) (a1:Int):Option (Int):=(laws_szCellS.f l0_2 a1).bind fun t102=>(if t102 < 0 then (some (-1)) else (some t102))
theorem laws_szBoard.calls (a0_0:Int) (a0_1:Int) (A0_2:Option Addr) (c0_2:Nat) (l0_2:List (S106)) (a1:Int) (r:Int) (w:World) (hr0_2:Kd.C k106 w A0_2 l0_2.length l0_2) (hc0_2:l0_2.length ≤ c0_2) (h:laws_szBoard.f a0_0 a0_1 l0_2 a1 = some r) :
    Calls Try.prog 29 #[.agg #[.int .i64 a0_0,.int .i64 a0_1,.slice A0_2 l0_2.length c0_2],.int .i64 a1] w fun e w'=>e = .returned (.int .i64 r)∧Below w.heap.size w w':=by
 have S:=St.init (w:=w) (dc k106_heap at106 hr0_2 hc0_2 dn)
 clear hr0_2 hc0_2
 have F:=S.fc
 have H:=h;clear h;unfold laws_szBoard.f at H
 replace H:=Option.bind_eq_some_iff.mp H;obtain ⟨t102,A3,H⟩:=H;(try dsimp only at H)
 replace H:=sp_ H;rcases H with ⟨c4,H⟩ | ⟨c4,H⟩
 · skip
   obtain rfl:=Option.some.inj H
   go_enter Try.func29,Try.ntmps29
   go_wp2_with (first | ((with_reducible refine gd 2 rfl (L ?_));refine bo 2 (.agg #[_,_,_]) S ?_;clear S F;intro gb101 W S;have F:=S.fc) | ((with_reducible refine gate_callee (f:=58) rfl (L ?_));refine cl (some 8) Try.func58 (laws_szCellS.calls _ _ _ _ _ _ S.c S.n A3) (hargs:=by (simp only [ma_,mb_,mc_,F] <;> rfl)) (h:=?_);rintro e W ⟨rfl,hb⟩;refine ⟨_,rfl,?_⟩;replace S:=S.gw hb;clear F hb;have F:=S.fc))
   go_ret
   exact ⟨(by first | rfl | (simp [e0_,e1_] <;> rfl) | (simp [*,e0_,e1_] <;> rfl)),S.below⟩
 · skip
   obtain rfl:=Option.some.inj H
   go_enter Try.func29,Try.ntmps29
   go_wp2_with (first | ((with_reducible refine gd 2 rfl (L ?_));refine bo 2 (.agg #[_,_,_]) S ?_;clear S F;intro gb101 W S;have F:=S.fc) | ((with_reducible refine gate_callee (f:=58) rfl (L ?_));refine cl (some 8) Try.func58 (laws_szCellS.calls _ _ _ _ _ _ S.c S.n A3) (hargs:=by (simp only [ma_,mb_,mc_,F] <;> rfl)) (h:=?_);rintro e W ⟨rfl,hb⟩;refine ⟨_,rfl,?_⟩;replace S:=S.gw hb;clear F hb;have F:=S.fc))
   go_ret
   exact ⟨(by first | rfl | (simp [e0_,e1_] <;> rfl) | (simp [*,e0_,e1_] <;> rfl)),S.below⟩

/-! ### laws_szIntS: function 59 -/
def laws_szIntS.f (l0:List Int) (a1:Int):Option (Int):=if (wrap64 (a1 - (l0.length:Int))) < 0 then (some (-1)) else (some (wrap64 (a1 - (l0.length:Int))))
theorem laws_szIntS.calls (A0:Option Addr) (c0:Nat) (l0:List Int) (a1:Int) (r:Int) (w:World) (hr0:Kd.C (Kd.int .i64) w A0 l0.length l0) (hc0:l0.length ≤ c0) (h:laws_szIntS.f l0 a1 = some r) :
  Calls Try.prog 59 #[.slice A0 l0.length c0,.int .i64 a1] w fun e w'=>e = .returned (.int .i64 r)∧Drawn0 w w':=by
 have HR0:=Aside0.mk hr0;have HC0:=Aside0.mk hc0;clear hr0 hc0;have H:(if (wrap64 (a1 - (l0.length:Int))) < 0 then (some (-1)) else (some (wrap64 (a1 - (l0.length:Int))))) = some r:=h;clear h;by_cases c3:(wrap64 (a1 - (l0.length:Int))) < 0
 ·rw [if_pos c3] at H;have c3b0:decide ((wrap64 (a1 - (l0.length:Int))) < 0) = true:=decide_eq_true c3;clear c3;obtain rfl:=Option.some.inj H;go_enter Try.func59,Try.ntmps59;go_wp2;go_ret;exact ⟨by first | rfl | (simp;done) | (simp [*];done),by repeat (first | exact Drawn0.refl _ | apply Drawn0.step)⟩
 ·rw [if_neg c3] at H;have c3b0:decide ((wrap64 (a1 - (l0.length:Int))) < 0) = false:=decide_eq_false c3;clear c3;obtain rfl:=Option.some.inj H;go_enter Try.func59,Try.ntmps59;go_wp2;go_ret;exact ⟨by first | rfl | (simp;done) | (simp [*];done),by repeat (first | exact Drawn0.refl _ | apply Drawn0.step)⟩

/-! ### laws_szIntSS: function 30 -/
def laws_szIntSS.l0:Nat→List (List Int)→Int→Int→Option (Int)
 | 0,_,_,_=>none
 | k + 1,x0,x1,x5=>if x5 < (x0.length:Int) then (if 0 ≤ x5 then ((laws_szIntS.f (rd_L2 x0 x5) x1).bind fun t104=>(if t104 < 0 then (some (-1)) else (laws_szIntSS.l0 k x0 t104 (wrap64 (x5 + 1))))) else (none)) else (some x1)
def laws_szIntSS.f (k:Nat) (l0:List (List Int)) (a1:Int):Option (Int):=if (wrap64 (a1 - (l0.length:Int))) < 0 then (some (-1)) else (laws_szIntSS.l0 k l0 (wrap64 (a1 - (l0.length:Int))) 0)
theorem laws_szIntSS.calls (k:Nat) (A0:Option Addr) (c0:Nat) (l0:List (List Int)) (a1:Int) (r:Int) (w:World) (hr0:Kd.C (Kd.slice 3 (Kd.int .i64)) w A0 l0.length l0) (hc0:l0.length ≤ c0) (h:laws_szIntSS.f k l0 a1 = some r) :
  Calls Try.prog 30 #[.slice A0 l0.length c0,.int .i64 a1] w fun e w'=>e = .returned (.int .i64 r)∧Drawn0 w w':=by
 have HR0:=Aside0.mk hr0;have HC0:=Aside0.mk hc0;clear hr0 hc0;have H:(if (wrap64 (a1 - (l0.length:Int))) < 0 then (some (-1)) else (laws_szIntSS.l0 k l0 (wrap64 (a1 - (l0.length:Int))) 0)) = some r:=h;clear h;by_cases c3:(wrap64 (a1 - (l0.length:Int))) < 0
 ·rw [if_pos c3] at H;have c3b0:decide ((wrap64 (a1 - (l0.length:Int))) < 0) = true:=decide_eq_true c3;clear c3;obtain rfl:=Option.some.inj H;go_enter Try.func30,Try.ntmps30;go_wp2;go_ret;exact ⟨by first | rfl | (simp;done) | (simp [*];done),by repeat (first | exact Drawn0.refl _ | apply Drawn0.step)⟩
 ·rw [if_neg c3] at H;have c3b0:decide ((wrap64 (a1 - (l0.length:Int))) < 0) = false:=decide_eq_false c3;clear c3;have H':=Aside0.mk H;clear H;go_enter Try.func30,Try.ntmps30;go_wp2;go_loopg [1,5] k (fun kq v1 v5 w'=>∃ (x1_1:Int) (x5_1:Int),v1 = .int .i64 x1_1∧v5 = .int .i64 x5_1∧Aside0 (laws_szIntSS.l0 kq l0 x1_1 x5_1 = some r)∧Aside0 (kq ≤ k)∧Drawn0 w w')
  case atStart=>exact ⟨(wrap64 (a1 - (l0.length:Int))),(0),(by first | rfl | (simp;done) | (simp [*];done)),(by first | rfl | (simp;done) | (simp [*];done)),H',⟨Nat.le_refl _⟩,by repeat (first | exact Drawn0.refl _ | apply Drawn0.step)⟩
  case round =>
   clear H';(try clear p2);(try clear c3);(try clear c3b0);obtain ⟨x1_1,x5_1,rfl,rfl,HA,HK1,⟨m1,rfl⟩⟩:=hrel;cases gk with
   | zero=>exact absurd HA.out (by simp [laws_szIntSS.l0])
   | succ k1 =>
    have H:=HA.out;clear HA;simp only [laws_szIntSS.l0] at H;by_cases c4:x5_1 < (l0.length:Int)
    ·rw [if_pos c4] at H;have c4b0:decide (x5_1 < (l0.length:Int)) = true:=decide_eq_true c4;clear c4;replace H:=np_ H;obtain ⟨c5,H⟩:=H;have c5b0:decide (0 ≤ x5_1) = true:=decide_eq_true c5;clear c5;replace H:=Option.bind_eq_some_iff.mp H;obtain ⟨t104,A60,H⟩:=H;(try dsimp only at H)
     have A6:=Aside0.mk A60;clear A60;by_cases c7:t104 < 0
     ·rw [if_pos c7] at H;have c7b0:decide (t104 < 0) = true:=decide_eq_true c7;clear c7;obtain rfl:=Option.some.inj H;have p103:0 ≤ (x5_1:Int):=of_decide_eq_true (by first | (with_reducible assumption) | assumption);have q103:x5_1 < (l0.length:Int):=of_decide_eq_true (by first | (with_reducible assumption) | assumption);obtain ⟨ad103,A103_0,c103_0,e103,hx103_0,hl103_0,hi103_0⟩:=at_L2 HR0.out x5_1 p103 q103;cases e103;have HR103_0:=Aside0.mk hi103_0;have HC103_0:=Aside0.mk hl103_0;clear hi103_0 hl103_0;replace p103:=eq_true p103;replace q103:=eq_true q103;go_wp2_with (first | ((with_reducible refine gate_callee (f:=59) rfl ?_);refine gL_ (some 23) Try.func59 #[.slice A103_0 (rd_L2 l0 x5_1).length c103_0,.int .i64 x1_1] (h:=?_);(with_reducible refine (laws_szIntS.calls _ _ (rd_L2 l0 x5_1) x1_1 t104 _ (Kd.C_mv HR103_0.out) HC103_0.out A6.out).mono ?_);rintro e w' ⟨rfl,⟨nd,rfl⟩⟩;refine ⟨_,rfl,?_⟩))
      go_ret;exact ⟨by first | rfl | (simp;done) | (simp [*];done),by repeat (first | exact Drawn0.refl _ | apply Drawn0.step)⟩
     ·rw [if_neg c7] at H;have c7b0:decide (t104 < 0) = false:=decide_eq_false c7;clear c7;have H':=Aside0.mk H;clear H;have p103:0 ≤ (x5_1:Int):=of_decide_eq_true (by first | (with_reducible assumption) | assumption);have q103:x5_1 < (l0.length:Int):=of_decide_eq_true (by first | (with_reducible assumption) | assumption);obtain ⟨ad103,A103_0,c103_0,e103,hx103_0,hl103_0,hi103_0⟩:=at_L2 HR0.out x5_1 p103 q103;cases e103;have HR103_0:=Aside0.mk hi103_0;have HC103_0:=Aside0.mk hl103_0;clear hi103_0 hl103_0;replace p103:=eq_true p103;replace q103:=eq_true q103;go_wp2_with (first | ((with_reducible refine gate_callee (f:=59) rfl ?_);refine gL_ (some 23) Try.func59 #[.slice A103_0 (rd_L2 l0 x5_1).length c103_0,.int .i64 x1_1] (h:=?_);(with_reducible refine (laws_szIntS.calls _ _ (rd_L2 l0 x5_1) x1_1 t104 _ (Kd.C_mv HR103_0.out) HC103_0.out A6.out).mono ?_);rintro e w' ⟨rfl,⟨nd,rfl⟩⟩;refine ⟨_,rfl,?_⟩))
      go_roundg k1
      case measure=>have:=HK1.out;omega
      case rel=>exact ⟨(t104),(wrap64 (x5_1 + 1)),(by first | rfl | (simp;done) | (simp [*];done)),(by first | rfl | (simp;done) | (simp [*];done)),H',⟨by have:=HK1.out;omega⟩,by repeat (first | exact Drawn0.refl _ | apply Drawn0.step)⟩
    ·rw [if_neg c4] at H;have c4b0:decide (x5_1 < (l0.length:Int)) = false:=decide_eq_false c4;clear c4;obtain rfl:=Option.some.inj H;go_wp2;go_ret;exact ⟨by first | rfl | (simp;done) | (simp [*];done),by repeat (first | exact Drawn0.refl _ | apply Drawn0.step)⟩

/-! ### spec_l1In: function 89 -/
def spec_l1In.f (a0:Int) (a1:Int) (a2:Int):Option (Bool):=if a0 ≥ a1 then (some (decide (a0 ≤ a2))) else (some false)
theorem spec_l1In.calls (a0:Int) (a1:Int) (a2:Int) (r:Bool) (w:World) (h:spec_l1In.f a0 a1 a2 = some r) :
  Calls Try.prog 89 #[.int .i64 a0,.int .i64 a1,.int .i64 a2] w fun e w'=>e = .returned (.bool r)∧Drawn0 w w':=by
 have H:(if a0 ≥ a1 then (some (decide (a0 ≤ a2))) else (some false)) = some r:=h;clear h;by_cases c4:a0 ≥ a1
 ·rw [if_pos c4] at H;have c4b0:decide (a1 ≤ a0) = true:=decide_eq_true c4;clear c4;obtain rfl:=Option.some.inj H;go_enter Try.func89,Try.ntmps89;go_wp2;go_ret;exact ⟨by first | rfl | (simp;done) | (simp [*];done),by repeat (first | exact Drawn0.refl _ | apply Drawn0.step)⟩
 ·rw [if_neg c4] at H;have c4b0:decide (a1 ≤ a0) = false:=decide_eq_false c4;clear c4;obtain rfl:=Option.some.inj H;go_enter Try.func89,Try.ntmps89;go_wp2;go_ret;exact ⟨by first | rfl | (simp;done) | (simp [*];done),by repeat (first | exact Drawn0.refl _ | apply Drawn0.step)⟩

/-! ### spec_paTurning: function 126 -/
def spec_paTurning.f (a0_0:Int) (a0_1:Int):Option (Bool):=if a0_0 = 3 then (some true) else (some (a0_0 == 6))
theorem spec_paTurning.calls (a0_0:Int) (a0_1:Int) (r:Bool) (w:World) (h:spec_paTurning.f a0_0 a0_1 = some r) :
    Calls Try.prog 126 #[.agg #[.int .i64 a0_0,.int .i64 a0_1]] w fun e w'=>e = .returned (.bool r)∧Below w.heap.size w w':=by
 have S:=St.init (w:=w) dn
 have F:=S.fc
 have H:=h;clear h;unfold spec_paTurning.f at H
 replace H:=sp_ H;rcases H with ⟨c2,H⟩ | ⟨c2,H⟩
 · skip
   replace c2:=ceq c2
   obtain rfl:=Option.some.inj H
   go_enter Try.func126,Try.ntmps126
   go_wp2_with (first | ((with_reducible refine gd 1 rfl (L ?_));refine bo 1 (.agg #[_,_]) S ?_;clear S F;intro gb105 W S;have F:=S.fc))
   go_ret
   exact ⟨(by first | rfl | (simp [e0_,e1_] <;> rfl) | (simp [*,e0_,e1_] <;> rfl)),S.below⟩
 · skip
   replace c2:=cne c2
   obtain rfl:=Option.some.inj H
   go_enter Try.func126,Try.ntmps126
   go_wp2_with (first | ((with_reducible refine gd 1 rfl (L ?_));refine bo 1 (.agg #[_,_]) S ?_;clear S F;intro gb105 W S;have F:=S.fc))
   go_ret
   exact ⟨(by first | rfl | (simp [e0_,e1_] <;> rfl) | (simp [*,e0_,e1_] <;> rfl)),S.below⟩

/-! ### spec_paGood: function 101 -/
def spec_paGood.f (a0_0:Int) (a0_1:Int):Option (Bool):=(spec_l1In.f a0_0 0 7).bind fun t107=>(if t107 = true then (if a0_1 = 0 then (some true) else (if a0_1 = 1 then ((spec_paTurning.f a0_0 a0_1).bind fun t108=>(some t108)) else (some false))) else (some false))
theorem spec_paGood.calls (a0_0:Int) (a0_1:Int) (r:Bool) (w:World) (h:spec_paGood.f a0_0 a0_1 = some r) :
    Calls Try.prog 101 #[.agg #[.int .i64 a0_0,.int .i64 a0_1]] w fun e w'=>e = .returned (.bool r)∧Below w.heap.size w w':=by
 have S:=St.init (w:=w) dn
 have F:=S.fc
 have H:=h;clear h;unfold spec_paGood.f at H
 replace H:=Option.bind_eq_some_iff.mp H;obtain ⟨t107,A2,H⟩:=H;(try dsimp only at H)
 replace H:=sp_ H;rcases H with ⟨c3,H⟩ | ⟨c3,H⟩
 · skip
   subst c3
   replace H:=sp_ H;rcases H with ⟨c4,H⟩ | ⟨c4,H⟩
   · skip
     replace c4:=ceq c4
     obtain rfl:=Option.some.inj H
     go_enter Try.func101,Try.ntmps101
     go_wp2_with (first | ((with_reducible refine gd 1 rfl (L ?_));refine bo 1 (.agg #[_,_]) S ?_;clear S F;intro gb106 W S;have F:=S.fc) | ((with_reducible refine gate_callee (f:=89) rfl (L ?_));refine cl (some 5) Try.func89 (spec_l1In.calls _ _ _ _ _ A2) (hargs:=by (simp only [ma_,mb_,mc_,F] <;> rfl)) (h:=?_);rintro e W ⟨rfl,hb⟩;refine ⟨_,rfl,?_⟩;replace S:=S.gw hb;clear F hb;have F:=S.fc))
     go_ret
     exact ⟨(by first | rfl | (simp [e0_,e1_] <;> rfl) | (simp [*,e0_,e1_] <;> rfl)),S.below⟩
   · skip
     replace c4:=cne c4
     replace H:=sp_ H;rcases H with ⟨c7,H⟩ | ⟨c7,H⟩
     · skip
       replace c7:=ceq c7
       replace H:=Option.bind_eq_some_iff.mp H;obtain ⟨t108,A8,H⟩:=H;(try dsimp only at H)
       obtain rfl:=Option.some.inj H
       go_enter Try.func101,Try.ntmps101
       go_wp2_with (first | ((with_reducible refine gd 1 rfl (L ?_));refine bo 1 (.agg #[_,_]) S ?_;clear S F;intro gb106 W S;have F:=S.fc) | ((with_reducible refine gate_callee (f:=89) rfl (L ?_));refine cl (some 5) Try.func89 (spec_l1In.calls _ _ _ _ _ A2) (hargs:=by (simp only [ma_,mb_,mc_,F] <;> rfl)) (h:=?_);rintro e W ⟨rfl,hb⟩;refine ⟨_,rfl,?_⟩;replace S:=S.gw hb;clear F hb;have F:=S.fc) | (go_at_call 126;(try simp only [F]);refine (spec_paTurning.calls _ _ _ _ A8).mono ?_;rintro e W ⟨rfl,hb⟩;replace S:=S.go hb;clear F hb;have F:=S.fc))
       go_ret
       exact ⟨(by first | rfl | (simp [e0_,e1_] <;> rfl) | (simp [*,e0_,e1_] <;> rfl)),S.below⟩
     · skip
       replace c7:=cne c7
       obtain rfl:=Option.some.inj H
       go_enter Try.func101,Try.ntmps101
       go_wp2_with (first | ((with_reducible refine gd 1 rfl (L ?_));refine bo 1 (.agg #[_,_]) S ?_;clear S F;intro gb106 W S;have F:=S.fc) | ((with_reducible refine gate_callee (f:=89) rfl (L ?_));refine cl (some 5) Try.func89 (spec_l1In.calls _ _ _ _ _ A2) (hargs:=by (simp only [ma_,mb_,mc_,F] <;> rfl)) (h:=?_);rintro e W ⟨rfl,hb⟩;refine ⟨_,rfl,?_⟩;replace S:=S.gw hb;clear F hb;have F:=S.fc))
       go_ret
       exact ⟨(by first | rfl | (simp [e0_,e1_] <;> rfl) | (simp [*,e0_,e1_] <;> rfl)),S.below⟩
 · skip
   replace c3:=cbf c3;subst c3
   obtain rfl:=Option.some.inj H
   go_enter Try.func101,Try.ntmps101
   go_wp2_with (first | ((with_reducible refine gd 1 rfl (L ?_));refine bo 1 (.agg #[_,_]) S ?_;clear S F;intro gb106 W S;have F:=S.fc) | ((with_reducible refine gate_callee (f:=89) rfl (L ?_));refine cl (some 5) Try.func89 (spec_l1In.calls _ _ _ _ _ A2) (hargs:=by (simp only [ma_,mb_,mc_,F] <;> rfl)) (h:=?_);rintro e W ⟨rfl,hb⟩;refine ⟨_,rfl,?_⟩;replace S:=S.gw hb;clear F hb;have F:=S.fc))
   go_ret
   exact ⟨(by first | rfl | (simp [e0_,e1_] <;> rfl) | (simp [*,e0_,e1_] <;> rfl)),S.below⟩

/-! ### spec_boGood: function 130 -/
mutual
def spec_boGood.j0:Nat→Bool→Int→Int→List (S88)→Option (Bool)
  | 0,_,_,_,_=>none
  | k + 1,x25,x110000,x110001,x110002=>if x25 = true then (some false) else (spec_boGood.l0 k x110002 (x110002.length:Int) 0)
def spec_boGood.l0:Nat→List (S88)→Int→Int→Option (Bool)
  | 0,_,_,_=>none
  | k + 1,x27,x28,x29=>if x29 < x28 then (if 0 ≤ x29 then (if x29 < (x27.length:Int) then ((spec_paGood.f ((rd_T88 x27 x29).f0) ((rd_T88 x27 x29).f1)).bind fun t114=>(if t114 = true then (spec_boGood.l0 k x27 x28 (wrap64 (x29 + 1))) else (some false))) else (none)) else (none)) else (some true)
end
def spec_boGood.f (k:Nat) (a0_0:Int) (a0_1:Int) (l0_2:List (S88)):Option (Bool):=(spec_l1In.f a0_0 1 10).bind fun t110=>(if t110 = true then ((spec_l1In.f a0_1 1 9).bind fun t111=>(if t111 = true then (spec_boGood.j0 k ((l0_2.length:Int) != (wrap64 (a0_0 * a0_1))) a0_0 a0_1 l0_2) else (spec_boGood.j0 k true a0_0 a0_1 l0_2))) else (spec_boGood.j0 k true a0_0 a0_1 l0_2))
theorem spec_boGood.calls (k:Nat) (a0_0:Int) (a0_1:Int) (A0_2:Option Addr) (c0_2:Nat) (l0_2:List (S88)) (r:Bool) (w:World) (hr0_2:Kd.C k88 w A0_2 l0_2.length l0_2) (hc0_2:l0_2.length ≤ c0_2) (h:spec_boGood.f k a0_0 a0_1 l0_2 = some r) :
    Calls Try.prog 130 #[.agg #[.int .i64 a0_0,.int .i64 a0_1,.slice A0_2 l0_2.length c0_2]] w fun e w'=>e = .returned (.bool r)∧Below w.heap.size w w':=by
 have S:=St.init (w:=w) (dc k88_heap at88 hr0_2 hc0_2 dn)
 clear hr0_2 hc0_2
 have F:=S.fc
 have H:=h;clear h;unfold spec_boGood.f at H
 go_enter Try.func130,Try.ntmps130
 go_upto_region 1 with (first | ((with_reducible refine gd 1 rfl (L ?_));refine bo 1 (.agg #[_,_,_]) S ?_;clear S F;intro gb109 W S;have F:=S.fc) | ((with_reducible refine gs (t:=88) rfl (L ?_));(first | refine sb (.agg #[_,_]) S sz88 ?_ | refine ro (.agg #[_,_]) S sz88 ?_ (ho:=rfl) (hx:=rfl) (hy:=rfl));(clear S F;intro W S;have F:=S.fc)))
 (try simp only [Act.put,List.setIfInBounds_toArray,List.set_cons_zero,List.set_cons_succ])
 go_cut [25] (fun v25 wc=>∃ (kq:Nat) (x25_1:Bool),v25 = .bool x25_1∧spec_boGood.j0 kq x25_1 a0_0 a0_1 l0_2 = some r∧kq ≤ k∧St w w (fun _=>False) [bor at88 A0_2 c0_2 l0_2] wc  [box gb109 50 [.int .i64 a0_0,.int .i64 a0_1,.slice A0_2 l0_2.length c0_2]])
 case first =>
  replace H:=Option.bind_eq_some_iff.mp H;obtain ⟨t110,A4,H⟩:=H;(try dsimp only at H)
  replace H:=sp_ H;rcases H with ⟨c5,H⟩ | ⟨c5,H⟩
  · skip
    subst c5
    replace H:=Option.bind_eq_some_iff.mp H;obtain ⟨t111,A6,H⟩:=H;(try dsimp only at H)
    replace H:=sp_ H;rcases H with ⟨c7,H⟩ | ⟨c7,H⟩
    · skip
      subst c7
      go_wp2_with (first | ((with_reducible refine gate_callee (f:=89) rfl (L ?_));refine cl (some 7) Try.func89 (spec_l1In.calls _ _ _ _ _ A4) (hargs:=by (simp only [ma_,mb_,mc_,F] <;> rfl)) (h:=?_);rintro e W ⟨rfl,hb⟩;refine ⟨_,rfl,?_⟩;replace S:=S.gw hb;clear F hb;have F:=S.fc) | (go_at_call 89;(try simp only [F]);refine (spec_l1In.calls _ _ _ _ _ A6).mono ?_;rintro e W ⟨rfl,hb⟩;replace S:=S.gw hb;clear F hb;have F:=S.fc) | ((with_reducible refine gs (t:=88) rfl (L ?_));(first | refine sb (.agg #[_,_]) S sz88 ?_ | refine ro (.agg #[_,_]) S sz88 ?_ (ho:=rfl) (hx:=rfl) (hy:=rfl));(clear S F;intro W S;have F:=S.fc)))
      go_meet
      case rel=>exact ⟨_,((l0_2.length:Int) != (wrap64 (a0_0 * a0_1))),(by first | rfl | (simp;done) | (simp [*];done) | (rw [w6_ (by omega) (by omega)])),H,(by first | omega | exact Nat.le_refl _),S⟩
    · skip
      replace c7:=cbf c7;subst c7
      go_wp2_with (first | ((with_reducible refine gate_callee (f:=89) rfl (L ?_));refine cl (some 7) Try.func89 (spec_l1In.calls _ _ _ _ _ A4) (hargs:=by (simp only [ma_,mb_,mc_,F] <;> rfl)) (h:=?_);rintro e W ⟨rfl,hb⟩;refine ⟨_,rfl,?_⟩;replace S:=S.gw hb;clear F hb;have F:=S.fc) | (go_at_call 89;(try simp only [F]);refine (spec_l1In.calls _ _ _ _ _ A6).mono ?_;rintro e W ⟨rfl,hb⟩;replace S:=S.gw hb;clear F hb;have F:=S.fc) | ((with_reducible refine gs (t:=88) rfl (L ?_));(first | refine sb (.agg #[_,_]) S sz88 ?_ | refine ro (.agg #[_,_]) S sz88 ?_ (ho:=rfl) (hx:=rfl) (hy:=rfl));(clear S F;intro W S;have F:=S.fc)))
      go_meet
      case rel=>exact ⟨_,true,(by first | rfl | (simp;done) | (simp [*];done) | (rw [w6_ (by omega) (by omega)])),H,(by first | omega | exact Nat.le_refl _),S⟩
  · skip
    replace c5:=cbf c5;subst c5
    go_wp2_with (first | ((with_reducible refine gate_callee (f:=89) rfl (L ?_));refine cl (some 7) Try.func89 (spec_l1In.calls _ _ _ _ _ A4) (hargs:=by (simp only [ma_,mb_,mc_,F] <;> rfl)) (h:=?_);rintro e W ⟨rfl,hb⟩;refine ⟨_,rfl,?_⟩;replace S:=S.gw hb;clear F hb;have F:=S.fc) | ((with_reducible refine gs (t:=88) rfl (L ?_));(first | refine sb (.agg #[_,_]) S sz88 ?_ | refine ro (.agg #[_,_]) S sz88 ?_ (ho:=rfl) (hx:=rfl) (hy:=rfl));(clear S F;intro W S;have F:=S.fc)))
    go_meet
    case rel=>exact ⟨_,true,(by first | rfl | (simp;done) | (simp [*];done) | (rw [w6_ (by omega) (by omega)])),H,(by first | omega | exact Nat.le_refl _),S⟩
 case rest =>
  clear H S F
  obtain ⟨kq,x25_1,rfl,HA,HJ1,S⟩:=hcut
  have F:=S.fc
  cases kq with
  | zero=>exact absurd HA (by simp [spec_boGood.j0])
  | succ kj1 =>
   have H:=HA;clear HA;simp only [spec_boGood.j0,F] at H
   replace H:=sp_ H;rcases H with ⟨c11,H⟩ | ⟨c11,H⟩
   · skip
     subst c11
     obtain rfl:=Option.some.inj H
     go_wp2_with (first | ((with_reducible refine gs (t:=88) rfl (L ?_));(first | refine sb (.agg #[_,_]) S sz88 ?_ | refine ro (.agg #[_,_]) S sz88 ?_ (ho:=rfl) (hx:=rfl) (hy:=rfl));(clear S F;intro W S;have F:=S.fc)))
     go_ret
     exact ⟨(by first | rfl | (simp [e0_,e1_] <;> rfl) | (simp [*,e0_,e1_] <;> rfl)),S.below⟩
   · skip
     replace c11:=cbf c11;subst c11
     go_wp2_with (first | ((with_reducible refine gs (t:=88) rfl (L ?_));(first | refine sb (.agg #[_,_]) S sz88 ?_ | refine ro (.agg #[_,_]) S sz88 ?_ (ho:=rfl) (hx:=rfl) (hy:=rfl));(clear S F;intro W S;have F:=S.fc)))
     go_loopg [29] kj1 (fun kq v29 w'=>∃ (x29_2:Int),v29 = .int .i64 x29_2∧spec_boGood.l0 kq l0_2 (l0_2.length:Int) x29_2 = some r∧kq ≤ kj1∧St w w (fun _=>False) [bor at88 A0_2 c0_2 l0_2] w'  [box gb109 50 [.int .i64 a0_0,.int .i64 a0_1,.slice A0_2 l0_2.length c0_2]])
     case atStart=>exact ⟨0,(by first | rfl | (simp;done) | (simp [*];done) | (rw [w6_ (by omega) (by omega)])),H,Nat.le_refl _,S⟩
     case round =>
      clear H S F
      obtain ⟨x29_2,rfl,HA,HK2,S⟩:=hrel
      have F:=S.fc
      cases gk with
      | zero=>exact absurd HA (by simp [spec_boGood.l0])
      | succ k2 =>
       have H:=HA;clear HA;simp only [spec_boGood.l0,F] at H
       replace H:=sp_ H;rcases H with ⟨c13,H⟩ | ⟨c13,H⟩
       · skip
         replace H:=np_ H;obtain ⟨c14,H⟩:=H
         replace H:=np_ H;obtain ⟨c15,H⟩:=H
         replace H:=Option.bind_eq_some_iff.mp H;obtain ⟨t114,A16,H⟩:=H;(try dsimp only at H)
         replace H:=sp_ H;rcases H with ⟨c17,H⟩ | ⟨c17,H⟩
         · skip
           subst c17
           go_wp2_with (first | ((with_reducible refine gd 4 rfl (L ?_));refine al 4 S zi88 ?_;clear S F;intro gb113 W S;have F:=S.fc) | ((with_reducible refine gate_callee (f:=101) rfl (L ?_));refine cl (some 34) Try.func101 (spec_paGood.calls _ _ _ _ A16) (hargs:=by (simp only [ma_,mb_,mc_,F] <;> rfl)) (h:=?_);rintro e W ⟨rfl,hb⟩;refine ⟨_,rfl,?_⟩;replace S:=S.go hb;clear F hb;have F:=S.fc) | ((with_reducible refine gs (t:=88) rfl (L ?_));(first | refine sb (.agg #[_,_]) S sz88 ?_ | refine ro (.agg #[_,_]) S sz88 ?_ (ho:=rfl) (hx:=rfl) (hy:=rfl));(clear S F;intro W S;have F:=S.fc)))
           go_roundg k2
           case measure=>omega
           case rel=>exact ⟨(wrap64 (x29_2 + 1)),(by first | rfl | (simp;done) | (simp [*];done) | (rw [w6_ (by omega) (by omega)])),H,(by first | omega | exact Nat.le_refl _),S.tl⟩
         · skip
           replace c17:=cbf c17;subst c17
           obtain rfl:=Option.some.inj H
           go_wp2_with (first | ((with_reducible refine gd 4 rfl (L ?_));refine al 4 S zi88 ?_;clear S F;intro gb113 W S;have F:=S.fc) | ((with_reducible refine gate_callee (f:=101) rfl (L ?_));refine cl (some 34) Try.func101 (spec_paGood.calls _ _ _ _ A16) (hargs:=by (simp only [ma_,mb_,mc_,F] <;> rfl)) (h:=?_);rintro e W ⟨rfl,hb⟩;refine ⟨_,rfl,?_⟩;replace S:=S.go hb;clear F hb;have F:=S.fc) | ((with_reducible refine gs (t:=88) rfl (L ?_));(first | refine sb (.agg #[_,_]) S sz88 ?_ | refine ro (.agg #[_,_]) S sz88 ?_ (ho:=rfl) (hx:=rfl) (hy:=rfl));(clear S F;intro W S;have F:=S.fc)))
           go_ret
           exact ⟨(by first | rfl | (simp [e0_,e1_] <;> rfl) | (simp [*,e0_,e1_] <;> rfl)),S.below⟩
       · skip
         obtain rfl:=Option.some.inj H
         go_wp2_with (first | ((with_reducible refine gs (t:=88) rfl (L ?_));(first | refine sb (.agg #[_,_]) S sz88 ?_ | refine ro (.agg #[_,_]) S sz88 ?_ (ho:=rfl) (hx:=rfl) (hy:=rfl));(clear S F;intro W S;have F:=S.fc)))
         go_ret
         exact ⟨(by first | rfl | (simp [e0_,e1_] <;> rfl) | (simp [*,e0_,e1_] <;> rfl)),S.below⟩

/-! ### spec_flHas: function 109 -/
def spec_flHas.f (k:Nat) (a0_0:Int) (a0_1:Int) (l0_2:List (S88)) (a1:Int):Option (Bool):=(spec_boGood.f k a0_0 a0_1 l0_2).bind fun t116=>(if t116 = true then ((spec_l1In.f a1 0 (wrap64 (a0_1 - 1))).bind fun t117=>(some t117)) else (some false))
theorem spec_flHas.calls (k:Nat) (a0_0:Int) (a0_1:Int) (A0_2:Option Addr) (c0_2:Nat) (l0_2:List (S88)) (a1:Int) (r:Bool) (w:World) (hr0_2:Kd.C k88 w A0_2 l0_2.length l0_2) (hc0_2:l0_2.length ≤ c0_2) (h:spec_flHas.f k a0_0 a0_1 l0_2 a1 = some r) :
    Calls Try.prog 109 #[.agg #[.int .i64 a0_0,.int .i64 a0_1,.slice A0_2 l0_2.length c0_2],.int .i64 a1] w fun e w'=>e = .returned (.bool r)∧Below w.heap.size w w':=by
 have S:=St.init (w:=w) (dc k88_heap at88 hr0_2 hc0_2 dn)
 clear hr0_2 hc0_2
 have F:=S.fc
 have H:=h;clear h;unfold spec_flHas.f at H
 replace H:=Option.bind_eq_some_iff.mp H;obtain ⟨t116,A3,H⟩:=H;(try dsimp only at H)
 replace H:=sp_ H;rcases H with ⟨c4,H⟩ | ⟨c4,H⟩
 · skip
   subst c4
   replace H:=Option.bind_eq_some_iff.mp H;obtain ⟨t117,A5,H⟩:=H;(try dsimp only at H)
   obtain rfl:=Option.some.inj H
   go_enter Try.func109,Try.ntmps109
   go_wp2_with (first | ((with_reducible refine gd 2 rfl (L ?_));refine bo 2 (.agg #[_,_,_]) S ?_;clear S F;intro gb115 W S;have F:=S.fc) | ((with_reducible refine gate_callee (f:=130) rfl (L ?_));refine cl (some 6) Try.func130 (spec_boGood.calls _ _ _ _ _ _ _ _ S.c S.n A3) (hargs:=by (simp only [ma_,mb_,mc_,F] <;> rfl)) (h:=?_);rintro e W ⟨rfl,hb⟩;refine ⟨_,rfl,?_⟩;replace S:=S.go hb;clear F hb;have F:=S.fc) | (go_at_call 89;(try simp only [F]);refine (spec_l1In.calls _ _ _ _ _ A5).mono ?_;rintro e W ⟨rfl,hb⟩;replace S:=S.gw hb;clear F hb;have F:=S.fc))
   go_ret
   exact ⟨(by first | rfl | (simp [e0_,e1_] <;> rfl) | (simp [*,e0_,e1_] <;> rfl)),S.below⟩
 · skip
   replace c4:=cbf c4;subst c4
   obtain rfl:=Option.some.inj H
   go_enter Try.func109,Try.ntmps109
   go_wp2_with (first | ((with_reducible refine gd 2 rfl (L ?_));refine bo 2 (.agg #[_,_,_]) S ?_;clear S F;intro gb115 W S;have F:=S.fc) | ((with_reducible refine gate_callee (f:=130) rfl (L ?_));refine cl (some 6) Try.func130 (spec_boGood.calls _ _ _ _ _ _ _ _ S.c S.n A3) (hargs:=by (simp only [ma_,mb_,mc_,F] <;> rfl)) (h:=?_);rintro e W ⟨rfl,hb⟩;refine ⟨_,rfl,?_⟩;replace S:=S.go hb;clear F hb;have F:=S.fc))
   go_ret
   exact ⟨(by first | rfl | (simp [e0_,e1_] <;> rfl) | (simp [*,e0_,e1_] <;> rfl)),S.below⟩

/-! ### spec_l1Has: function 131 -/
def spec_l1Has.l0:Nat→Int→List Int→Int→Int→Option (Bool)
 | 0,_,_,_,_=>none
 | k + 1,x1,x7,x8,x9=>if x9 < x8 then (if 0 ≤ x9 then (if x9 < (x7.length:Int) then (if (rd x7 x9) = x1 then (some true) else (spec_l1Has.l0 k x1 x7 x8 (wrap64 (x9 + 1)))) else (none)) else (none)) else (some false)
def spec_l1Has.f (k:Nat) (l0:List Int) (a1:Int):Option (Bool):=spec_l1Has.l0 k a1 l0 (l0.length:Int) 0
theorem spec_l1Has.calls (k:Nat) (A0:Option Addr) (c0:Nat) (l0:List Int) (a1:Int) (r:Bool) (w:World) (hr0:Kd.C (Kd.int .i64) w A0 l0.length l0) (hc0:l0.length ≤ c0) (h:spec_l1Has.f k l0 a1 = some r) :
  Calls Try.prog 131 #[.slice A0 l0.length c0,.int .i64 a1] w fun e w'=>e = .returned (.bool r)∧Drawn0 w w':=by
 have HR0:=Aside0.mk hr0;have HC0:=Aside0.mk hc0;clear hr0 hc0;have H:(spec_l1Has.l0 k a1 l0 (l0.length:Int) 0) = some r:=h;clear h;have H':=Aside0.mk H;clear H;go_enter Try.func131,Try.ntmps131;go_wp2;go_loopg [9] k (fun kq v9 w'=>∃ (x9_1:Int),v9 = .int .i64 x9_1∧Aside0 (spec_l1Has.l0 kq a1 l0 (l0.length:Int) x9_1 = some r)∧Aside0 (kq ≤ k)∧Drawn0 w w')
 case atStart=>exact ⟨(0),(by first | rfl | (simp;done) | (simp [*];done)),H',⟨Nat.le_refl _⟩,by repeat (first | exact Drawn0.refl _ | apply Drawn0.step)⟩
 case round =>
  clear H';(try clear c1);(try clear p2);obtain ⟨x9_1,rfl,HA,HK1,⟨m1,rfl⟩⟩:=hrel;cases gk with
  | zero=>exact absurd HA.out (by simp [spec_l1Has.l0])
  | succ k1 =>
   have H:=HA.out;clear HA;simp only [spec_l1Has.l0] at H;by_cases c3:x9_1 < (l0.length:Int)
   ·rw [if_pos c3] at H;have c3b0:decide (x9_1 < (l0.length:Int)) = true:=decide_eq_true c3;clear c3;replace H:=np_ H;obtain ⟨c4,H⟩:=H;have c4b0:decide (0 ≤ x9_1) = true:=decide_eq_true c4;clear c4;replace H:=np_ H;obtain ⟨c5,H⟩:=H;have c5b0:decide (x9_1 < (l0.length:Int)) = true:=decide_eq_true c5;clear c5;by_cases c6:(rd l0 x9_1) = a1
    ·rw [if_pos c6] at H;have c6b0:((rd l0 x9_1) == a1) = true:=beq_iff_eq.mpr c6;have c6b1:((rd l0 x9_1) != a1) = false:=bne_eq_false_iff_eq.mpr c6;clear c6;obtain rfl:=Option.some.inj H;have p118:0 ≤ (x9_1:Int):=of_decide_eq_true (by first | (with_reducible assumption) | assumption);have q118:x9_1 < (l0.length:Int):=of_decide_eq_true (by first | (with_reducible assumption) | assumption);obtain ⟨ad118,e118,hx118_0⟩:=Kd.at_int HR0.out x9_1 p118 q118;cases e118;replace p118:=eq_true p118;replace q118:=eq_true q118;go_wp2;go_ret;exact ⟨by first | rfl | (simp;done) | (simp [*];done),by repeat (first | exact Drawn0.refl _ | apply Drawn0.step)⟩
    ·rw [if_neg c6] at H;have c6b0:((rd l0 x9_1) == a1) = false:=beq_eq_false_iff_ne.mpr c6;have c6b1:((rd l0 x9_1) != a1) = true:=bne_iff_ne.mpr c6;have H':=Aside0.mk H;clear H;have p118:0 ≤ (x9_1:Int):=of_decide_eq_true (by first | (with_reducible assumption) | assumption);have q118:x9_1 < (l0.length:Int):=of_decide_eq_true (by first | (with_reducible assumption) | assumption);obtain ⟨ad118,e118,hx118_0⟩:=Kd.at_int HR0.out x9_1 p118 q118;cases e118;replace p118:=eq_true p118;replace q118:=eq_true q118;go_wp2;go_roundg k1
     case measure=>have:=HK1.out;omega
     case rel=>exact ⟨(wrap64 (x9_1 + 1)),(by first | rfl | (simp;done) | (simp [*];done)),H',⟨by have:=HK1.out;omega⟩,by repeat (first | exact Drawn0.refl _ | apply Drawn0.step)⟩
   ·rw [if_neg c3] at H;have c3b0:decide (x9_1 < (l0.length:Int)) = false:=decide_eq_false c3;clear c3;obtain rfl:=Option.some.inj H;go_wp2;go_ret;exact ⟨by first | rfl | (simp;done) | (simp [*];done),by repeat (first | exact Drawn0.refl _ | apply Drawn0.step)⟩

/-! ### spec_boTurning: function 132 -/
def spec_boTurning.l0:Nat→List Int→List (S88)→Int→Int→Option (List Int)
  | 0,_,_,_,_=>none
  | k + 1,x3,x7,x8,x9=>if x9 < x8 then (if 0 ≤ x9 then (if x9 < (x7.length:Int) then ((spec_paTurning.f ((rd_T88 x7 x9).f0) ((rd_T88 x7 x9).f1)).bind fun t122=>(if t122 = true then (if x3.length < 17592186044416 then (spec_boTurning.l0 k (x3 ++ [x9]) x7 x8 (wrap64 (x9 + 1))) else (none)) else (spec_boTurning.l0 k x3 x7 x8 (wrap64 (x9 + 1))))) else (none)) else (none)) else (some x3)
def spec_boTurning.f (k:Nat) (a0_0:Int) (a0_1:Int) (l0_2:List (S88)):Option (List Int):=spec_boTurning.l0 k ([]:List Int) l0_2 (l0_2.length:Int) 0
theorem spec_boTurning.calls (k:Nat) (a0_0:Int) (a0_1:Int) (A0_2:Option Addr) (c0_2:Nat) (l0_2:List (S88)) (r:List Int) (w:World) (hr0_2:Kd.C k88 w A0_2 l0_2.length l0_2) (hc0_2:l0_2.length ≤ c0_2) (h:spec_boTurning.f k a0_0 a0_1 l0_2 = some r) :
    Calls Try.prog 132 #[.agg #[.int .i64 a0_0,.int .i64 a0_1,.slice A0_2 l0_2.length c0_2]] w fun e w'=>∃ v0_:Value,e = .returned (v0_)∧Kd.R (Kd.int .i64) 3 w' w.heap.size (fun _=>True) v0_ r∧Below w.heap.size w w':=by
 have S:=St.init (w:=w) (dc k88_heap at88 hr0_2 hc0_2 dn)
 clear hr0_2 hc0_2
 have F:=S.fc
 have H:=h;clear h;unfold spec_boTurning.f at H
 go_enter Try.func132,Try.ntmps132
 go_wp2_with (first | ((with_reducible refine gd 1 rfl (L ?_));refine bo 1 (.agg #[_,_,_]) S ?_;clear S F;intro gb119 W S;have F:=S.fc) | ((with_reducible refine gs (t:=88) rfl (L ?_));(first | refine sb (.agg #[_,_]) S sz88 ?_ | refine ro (.agg #[_,_]) S sz88 ?_ (ho:=rfl) (hx:=rfl) (hy:=rfl));(clear S F;intro W S;have F:=S.fc)))
 go_loopg [3,9] k (fun kq v3 v9 w'=>∃ (x3_1:List Int) (x9_1:Int) (Ax3_1:Option Addr) (cx3_1:Nat),v9 = .int .i64 x9_1∧v3 = .slice Ax3_1 x3_1.length cx3_1∧spec_boTurning.l0 kq x3_1 l0_2 (l0_2.length:Int) x9_1 = some r∧kq ≤ k∧St w w (fun _=>False) [bor at88 A0_2 c0_2 l0_2] w'  [row (atI .i64) 3 Ax3_1 x3_1.length cx3_1 x3_1,box gb119 50 [.int .i64 a0_0,.int .i64 a0_1,.slice A0_2 l0_2.length c0_2]])
 case atStart=>exact ⟨_,0,_,_,(by first | rfl | (simp;done) | (simp [*];done) | (rw [w6_ (by omega) (by omega)])),rfl,H,Nat.le_refl _,(S.nl (e:=3) (atI .i64))⟩
 case round =>
  clear H S F
  obtain ⟨x3_1,x9_1,Ax3_1,cx3_1,rfl,rfl,HA,HK1,S⟩:=hrel
  have F:=S.fc
  cases gk with
  | zero=>exact absurd HA (by simp [spec_boTurning.l0])
  | succ k1 =>
   have H:=HA;clear HA;simp only [spec_boTurning.l0,F] at H
   replace H:=sp_ H;rcases H with ⟨c4,H⟩ | ⟨c4,H⟩
   · skip
     replace H:=np_ H;obtain ⟨c5,H⟩:=H
     replace H:=np_ H;obtain ⟨c6,H⟩:=H
     replace H:=Option.bind_eq_some_iff.mp H;obtain ⟨t122,A7,H⟩:=H;(try dsimp only at H)
     replace H:=sp_ H;rcases H with ⟨c8,H⟩ | ⟨c8,H⟩
     · skip
       subst c8
       replace H:=np_ H;obtain ⟨c9,H⟩:=H
       (first | (with_reducible replace H:=ob_ H;obtain ⟨y123,hy123,H⟩:=H;(try dsimp only at H)) | (obtain ⟨y123,hy123⟩:∃ y_:List Int,y_ = (x3_1 ++ [x9_1]):=⟨_,rfl⟩;(try rw [← hy123] at H);(try simp only [Option.bind_some] at H)));have Ny123:=Aside0.mk hy123;clear hy123
       go_wp2_with (first | ((with_reducible refine gd 5 rfl (L ?_));refine al 5 S zi88 ?_;clear S F;intro gb121 W S;have F:=S.fc) | ((with_reducible refine gate_callee (f:=126) rfl (L ?_));refine cl (some 15) Try.func126 (spec_paTurning.calls _ _ _ _ A7) (hargs:=by (simp only [ma_,mb_,mc_,F] <;> rfl)) (h:=?_);rintro e W ⟨rfl,hb⟩;refine ⟨_,rfl,?_⟩;replace S:=S.go hb;clear F hb;have F:=S.fc) | ((with_reducible refine gd 19 rfl (L ?_));refine apa (A:=Ax3_1) 19 S Try.underlying23 info3 ?_ (ho:=rfl) (hs:=rfl) (hx:=rfl);clear S F;intro Ay123 cy123 W S;(try rw [← Ny123.out] at S ⊢);have F:=S.fc) | ((with_reducible refine gs (t:=88) rfl (L ?_));(first | refine sb (.agg #[_,_]) S sz88 ?_ | refine ro (.agg #[_,_]) S sz88 ?_ (ho:=rfl) (hx:=rfl) (hy:=rfl));clear S F;intro W S;(try rw [← Ny123.out] at S);have F:=S.fc))
       go_roundg k1
       case measure=>omega
       case rel=>exact ⟨y123,(wrap64 (x9_1 + 1)),_,_,(by first | rfl | (simp;done) | (simp [*];done) | (rw [w6_ (by omega) (by omega)])),rfl,H,(by first | omega | exact Nat.le_refl _),S.tl⟩
     · skip
       replace c8:=cbf c8;subst c8
       go_wp2_with (first | ((with_reducible refine gd 5 rfl (L ?_));refine al 5 S zi88 ?_;clear S F;intro gb121 W S;have F:=S.fc) | ((with_reducible refine gate_callee (f:=126) rfl (L ?_));refine cl (some 15) Try.func126 (spec_paTurning.calls _ _ _ _ A7) (hargs:=by (simp only [ma_,mb_,mc_,F] <;> rfl)) (h:=?_);rintro e W ⟨rfl,hb⟩;refine ⟨_,rfl,?_⟩;replace S:=S.go hb;clear F hb;have F:=S.fc) | ((with_reducible refine gs (t:=88) rfl (L ?_));(first | refine sb (.agg #[_,_]) S sz88 ?_ | refine ro (.agg #[_,_]) S sz88 ?_ (ho:=rfl) (hx:=rfl) (hy:=rfl));(clear S F;intro W S;have F:=S.fc)))
       go_roundg k1
       case measure=>omega
       case rel=>exact ⟨x3_1,(wrap64 (x9_1 + 1)),_,_,(by first | rfl | (simp;done) | (simp [*];done) | (rw [w6_ (by omega) (by omega)])),rfl,H,(by first | omega | exact Nat.le_refl _),S.tl⟩
   · skip
     obtain rfl:=Option.some.inj H
     go_wp2_with (first | ((with_reducible refine gs (t:=88) rfl (L ?_));(first | refine sb (.agg #[_,_]) S sz88 ?_ | refine ro (.agg #[_,_]) S sz88 ?_ (ho:=rfl) (hx:=rfl) (hy:=rfl));(clear S F;intro W S;have F:=S.fc)))
     go_ret
     exact ⟨_,(by first | rfl | (simp [e0_,e1_] <;> rfl) | (simp [*,e0_,e1_] <;> rfl)),(by first | exact S.r | exact Kd.R_nil _ _ _ _ _),S.below⟩

/-! ### spec_vfCells: function 110 -/
mutual
def spec_vfCells.l0:Nat→List (List Int)→List Int→List (List Int)→Int→Int→Int→Int→List (S88)→Option (Bool)
  | 0,_,_,_,_,_,_,_,_=>none
  | k + 1,x1,x5,x10,x11,x12,x127000,x127001,x127002=>if x12 < x11 then (if 0 ≤ x12 then (if x12 < (x10.length:Int) then (spec_vfCells.l1 k x1 x5 x10 x11 x12 (rd_L2 x10 x12) ((rd_L2 x10 x12).length:Int) 0 x127000 x127001 x127002) else (none)) else (none)) else ((spec_l1In.f (x1.length:Int) 1 4).bind fun t127=>(some t127))
def spec_vfCells.l1:Nat→List (List Int)→List Int→List (List Int)→Int→Int→List Int→Int→Int→Int→Int→List (S88)→Option (Bool)
  | 0,_,_,_,_,_,_,_,_,_,_,_=>none
  | k + 1,x1,x5,x10,x11,x12,x16,x17,x18,x127000,x127001,x127002=>if x18 < x17 then (if 0 ≤ x18 then (if x18 < (x16.length:Int) then ((spec_boTurning.f k x127000 x127001 x127002).bind fun t130=>((spec_l1Has.f k t130 (rd x16 x18)).bind fun t133=>(if t133 = true then ((spec_l1Has.f k x5 (rd x16 x18)).bind fun t134=>(if t134 = true then (some false) else (if x5.length < 17592186044416 then (spec_vfCells.l1 k x1 (x5 ++ [rd x16 x18]) x10 x11 x12 x16 x17 (wrap64 (x18 + 1)) x127000 x127001 x127002) else (none)))) else (some false)))) else (none)) else (none)) else (spec_vfCells.l0 k x1 x5 x10 x11 (wrap64 (x12 + 1)) x127000 x127001 x127002)
end
def spec_vfCells.f (k:Nat) (a0_0:Int) (a0_1:Int) (l0_2:List (S88)) (l1:List (List Int)):Option (Bool):=spec_vfCells.l0 k l1 ([]:List Int) l1 (l1.length:Int) 0 a0_0 a0_1 l0_2
theorem spec_vfCells.calls (k:Nat) (a0_0:Int) (a0_1:Int) (A0_2:Option Addr) (c0_2:Nat) (l0_2:List (S88)) (A1:Option Addr) (c1:Nat) (l1:List (List Int)) (r:Bool) (w:World) (hr0_2:Kd.C k88 w A0_2 l0_2.length l0_2) (hc0_2:l0_2.length ≤ c0_2) (hr1:Kd.C (Kd.slice 3 (Kd.int .i64)) w A1 l1.length l1) (hc1:l1.length ≤ c1) (h:spec_vfCells.f k a0_0 a0_1 l0_2 l1 = some r) :
    Calls Try.prog 110 #[.agg #[.int .i64 a0_0,.int .i64 a0_1,.slice A0_2 l0_2.length c0_2],.slice A1 l1.length c1] w fun e w'=>e = .returned (.bool r)∧Below w.heap.size w w':=by
 have S:=St.init (w:=w) (dc k88_heap at88 hr0_2 hc0_2 (dc (Kd.heap_slice 3 (Kd.heap_int .i64)) (atU (d:=Kd.slice 3 (Kd.int .i64))) hr1 hc1 dn))
 clear hr0_2 hc0_2 hr1 hc1
 have F:=S.fc
 have H:=h;clear h;unfold spec_vfCells.f at H
 go_enter Try.func110,Try.ntmps110
 go_wp2_with (first | ((with_reducible refine gd 2 rfl (L ?_));refine bo 2 (.agg #[_,_,_]) S ?_;clear S F;intro gb126 W S;have F:=S.fc))
 go_loopg [5,12] k (fun kq v5 v12 w'=>∃ (x5_1:List Int) (x12_1:Int) (Ax5_1:Option Addr) (cx5_1:Nat),v12 = .int .i64 x12_1∧v5 = .slice Ax5_1 x5_1.length cx5_1∧spec_vfCells.l0 kq l1 x5_1 l1 (l1.length:Int) x12_1 a0_0 a0_1 l0_2 = some r∧kq ≤ k∧St w w (fun _=>False) [bor at88 A0_2 c0_2 l0_2,bor (atU (d:=Kd.slice 3 (Kd.int .i64))) A1 c1 l1] w'  [row (atI .i64) 3 Ax5_1 x5_1.length cx5_1 x5_1,box gb126 50 [.int .i64 a0_0,.int .i64 a0_1,.slice A0_2 l0_2.length c0_2]])
 case atStart=>exact ⟨_,0,_,_,(by first | rfl | (simp;done) | (simp [*];done) | (rw [w6_ (by omega) (by omega)])),rfl,H,Nat.le_refl _,(S.nl (e:=3) (atI .i64))⟩
 case round =>
  clear H S F
  obtain ⟨x5_1,x12_1,Ax5_1,cx5_1,rfl,rfl,HA,HK1,S⟩:=hrel
  have F:=S.fc
  cases gk with
  | zero=>exact absurd HA (by simp [spec_vfCells.l0])
  | succ k1 =>
   have H:=HA;clear HA;simp only [spec_vfCells.l0,F] at H
   replace H:=sp_ H;rcases H with ⟨c4,H⟩ | ⟨c4,H⟩
   · skip
     replace H:=np_ H;obtain ⟨c5,H⟩:=H
     replace H:=np_ H;obtain ⟨c6,H⟩:=H
     obtain ⟨A128_0,c128_0,S⟩:=S.inn l1 (atI .i64) x12_1 (rd_L2 l1 x12_1);clear F;have F:=S.fc
     go_wp2
     go_loopg [5,18] k1 (fun kq v5 v18 w'=>∃ (x5_2:List Int) (x18_2:Int) (Ax5_2:Option Addr) (cx5_2:Nat),v18 = .int .i64 x18_2∧v5 = .slice Ax5_2 x5_2.length cx5_2∧spec_vfCells.l1 kq l1 x5_2 l1 (l1.length:Int) x12_1 (rd_L2 l1 x12_1) ((rd_L2 l1 x12_1).length:Int) x18_2 a0_0 a0_1 l0_2 = some r∧kq ≤ k1∧St w w (fun _=>False) [bcell ((adr A1).add (x12_1).toNat) (.slice A128_0 (rd_L2 l1 x12_1).length c128_0),bor (atI .i64) A128_0 c128_0 (rd_L2 l1 x12_1),bor at88 A0_2 c0_2 l0_2,bor (atU (d:=Kd.slice 3 (Kd.int .i64))) A1 c1 l1] w'  [row (atI .i64) 3 Ax5_2 x5_2.length cx5_2 x5_2,box gb126 50 [.int .i64 a0_0,.int .i64 a0_1,.slice A0_2 l0_2.length c0_2]])
     case atStart=>exact ⟨x5_1,0,_,_,(by first | rfl | (simp;done) | (simp [*];done) | (rw [w6_ (by omega) (by omega)])),rfl,H,Nat.le_refl _,S⟩
     case round =>
      clear H S F
      obtain ⟨x5_2,x18_2,Ax5_2,cx5_2,rfl,rfl,HA,HK2,S⟩:=hrel
      have F:=S.fc
      cases gk with
      | zero=>exact absurd HA (by simp [spec_vfCells.l1])
      | succ k2 =>
       have H:=HA;clear HA;simp only [spec_vfCells.l1,F] at H
       replace H:=sp_ H;rcases H with ⟨c7,H⟩ | ⟨c7,H⟩
       · skip
         replace H:=np_ H;obtain ⟨c8,H⟩:=H
         replace H:=np_ H;obtain ⟨c9,H⟩:=H
         replace H:=Option.bind_eq_some_iff.mp H;obtain ⟨t130,A10,H⟩:=H;(try dsimp only at H)
         replace H:=Option.bind_eq_some_iff.mp H;obtain ⟨t133,A11,H⟩:=H;(try dsimp only at H)
         replace H:=sp_ H;rcases H with ⟨c12,H⟩ | ⟨c12,H⟩
         · skip
           subst c12
           replace H:=Option.bind_eq_some_iff.mp H;obtain ⟨t134,A13,H⟩:=H;(try dsimp only at H)
           replace H:=sp_ H;rcases H with ⟨c14,H⟩ | ⟨c14,H⟩
           · skip
             subst c14
             obtain rfl:=Option.some.inj H
             go_wp2_with (first | ((with_reducible refine gate_callee (f:=132) rfl (L ?_));refine cl (some 23) Try.func132 (spec_boTurning.calls _ _ _ _ _ _ _ _ S.c S.n A10) (hargs:=by (simp only [ma_,mb_,mc_,F] <;> rfl)) (h:=?_);rintro e W ⟨v131,rfl,ho0,hb⟩;refine ⟨_,rfl,?_⟩;replace S:=S.got (atI .i64) hb ho0;obtain ⟨At130,ct130,rfl,S⟩:=S;clear F hb ho0;have F:=S.fc) | ((with_reducible refine gate_callee (f:=131) rfl (L ?_));refine cl (some 25) Try.func131 (spec_l1Has.calls _ _ _ _ _ _ _ S.c S.n A11) (hargs:=by (simp only [ma_,mb_,mc_,F] <;> rfl)) (h:=?_);rintro e W ⟨rfl,hb⟩;refine ⟨_,rfl,?_⟩;replace S:=S.gw hb;clear F hb;have F:=S.fc) | (go_at_call 131;(try simp only [F]);refine (spec_l1Has.calls _ _ _ _ _ _ _ S.c S.n A13).mono ?_;rintro e W ⟨rfl,hb⟩;replace S:=S.gw hb;clear F hb;have F:=S.fc))
             go_ret
             exact ⟨(by first | rfl | (simp [e0_,e1_] <;> rfl) | (simp [*,e0_,e1_] <;> rfl)),S.below⟩
           · skip
             replace c14:=cbf c14;subst c14
             replace H:=np_ H;obtain ⟨c19,H⟩:=H
             (first | (with_reducible replace H:=ob_ H;obtain ⟨y135,hy135,H⟩:=H;(try dsimp only at H)) | (obtain ⟨y135,hy135⟩:∃ y_:List Int,y_ = (x5_2 ++ [rd (rd_L2 l1 x12_1) x18_2]):=⟨_,rfl⟩;(try rw [← hy135] at H);(try simp only [Option.bind_some] at H)));have Ny135:=Aside0.mk hy135;clear hy135
             go_wp2_with (first | ((with_reducible refine gate_callee (f:=132) rfl (L ?_));refine cl (some 23) Try.func132 (spec_boTurning.calls _ _ _ _ _ _ _ _ S.c S.n A10) (hargs:=by (simp only [ma_,mb_,mc_,F] <;> rfl)) (h:=?_);rintro e W ⟨v131,rfl,ho0,hb⟩;refine ⟨_,rfl,?_⟩;replace S:=S.got (atI .i64) hb ho0;obtain ⟨At130,ct130,rfl,S⟩:=S;clear F hb ho0;(try rw [← Ny135.out] at S);have F:=S.fc) | ((with_reducible refine gate_callee (f:=131) rfl (L ?_));refine cl (some 25) Try.func131 (spec_l1Has.calls _ _ _ _ _ _ _ S.c S.n A11) (hargs:=by (simp only [ma_,mb_,mc_,F] <;> rfl)) (h:=?_);rintro e W ⟨rfl,hb⟩;refine ⟨_,rfl,?_⟩;replace S:=S.gw hb;clear F hb;have F:=S.fc) | (go_at_call 131;(try simp only [F]);refine (spec_l1Has.calls _ _ _ _ _ _ _ S.c S.n A13).mono ?_;rintro e W ⟨rfl,hb⟩;replace S:=S.gw hb;clear F hb;have F:=S.fc) | ((with_reducible refine gd 35 rfl (L ?_));refine apa (A:=Ax5_2) 35 S Try.underlying23 info3 ?_ (ho:=rfl) (hs:=rfl) (hx:=rfl);clear S F;intro Ay135 cy135 W S;(try rw [← Ny135.out] at S ⊢);have F:=S.fc))
             go_roundg k2
             case measure=>omega
             case rel=>first | (exact ⟨y135,(wrap64 (x18_2 + 1)),_,_,(by first | rfl | (simp;done) | (simp [*];done) | (rw [w6_ (by omega) (by omega)])),rfl,H,(by first | omega | exact Nat.le_refl _),S.tl⟩) | (exact ⟨y135,(wrap64 (x18_2 + 1)),_,_,(by first | rfl | (simp;done) | (simp [*];done) | (rw [w6_ (by omega) (by omega)])),rfl,H,(by first | omega | exact Nat.le_refl _),(S.dk [2,3]).tl⟩)
         · skip
           replace c12:=cbf c12;subst c12
           obtain rfl:=Option.some.inj H
           go_wp2_with (first | ((with_reducible refine gate_callee (f:=132) rfl (L ?_));refine cl (some 23) Try.func132 (spec_boTurning.calls _ _ _ _ _ _ _ _ S.c S.n A10) (hargs:=by (simp only [ma_,mb_,mc_,F] <;> rfl)) (h:=?_);rintro e W ⟨v131,rfl,ho0,hb⟩;refine ⟨_,rfl,?_⟩;replace S:=S.got (atI .i64) hb ho0;obtain ⟨At130,ct130,rfl,S⟩:=S;clear F hb ho0;have F:=S.fc) | ((with_reducible refine gate_callee (f:=131) rfl (L ?_));refine cl (some 25) Try.func131 (spec_l1Has.calls _ _ _ _ _ _ _ S.c S.n A11) (hargs:=by (simp only [ma_,mb_,mc_,F] <;> rfl)) (h:=?_);rintro e W ⟨rfl,hb⟩;refine ⟨_,rfl,?_⟩;replace S:=S.gw hb;clear F hb;have F:=S.fc))
           go_ret
           exact ⟨(by first | rfl | (simp [e0_,e1_] <;> rfl) | (simp [*,e0_,e1_] <;> rfl)),S.below⟩
       · skip
         go_wp2
         go_roundg k2
         case measure=>omega
         case rel=>first | (exact ⟨x5_2,(wrap64 (x12_1 + 1)),_,_,(by first | rfl | (simp;done) | (simp [*];done) | (rw [w6_ (by omega) (by omega)])),rfl,H,(by first | omega | exact Nat.le_refl _),S⟩) | (exact ⟨x5_2,(wrap64 (x12_1 + 1)),_,_,(by first | rfl | (simp;done) | (simp [*];done) | (rw [w6_ (by omega) (by omega)])),rfl,H,(by first | omega | exact Nat.le_refl _),(S.dk [2,3])⟩)
   · skip
     replace H:=Option.bind_eq_some_iff.mp H;obtain ⟨t127,A28,H⟩:=H;(try dsimp only at H)
     obtain rfl:=Option.some.inj H
     go_wp2_with (first | ((with_reducible refine gate_callee (f:=89) rfl (L ?_));refine cl (some 40) Try.func89 (spec_l1In.calls _ _ _ _ _ A28) (hargs:=by (simp only [ma_,mb_,mc_,F] <;> rfl)) (h:=?_);rintro e W ⟨rfl,hb⟩;refine ⟨_,rfl,?_⟩;replace S:=S.gw hb;clear F hb;have F:=S.fc))
     go_ret
     exact ⟨(by first | rfl | (simp [e0_,e1_] <;> rfl) | (simp [*,e0_,e1_] <;> rfl)),S.below⟩

/-! ### spec_vfFlips: function 76 -/
def spec_vfFlips.f (k:Nat) (a0_0:Int) (a0_1:Int) (l0_2:List (S88)) (a1:Int) (l2:List (List Int)) (a3:Int):Option (Bool):=(spec_flHas.f k a0_0 a0_1 l0_2 a1).bind fun t139=>(if t139 = true then ((spec_vfCells.f k a0_0 a0_1 l0_2 l2).bind fun t140=>(if t140 = true then ((spec_l1In.f a3 0 a0_1).bind fun t141=>(some t141)) else (some false))) else (some false))
theorem spec_vfFlips.calls (k:Nat) (a0_0:Int) (a0_1:Int) (A0_2:Option Addr) (c0_2:Nat) (l0_2:List (S88)) (a1:Int) (A2:Option Addr) (c2:Nat) (l2:List (List Int)) (a3:Int) (r:Bool) (w:World) (hr0_2:Kd.C k88 w A0_2 l0_2.length l0_2) (hc0_2:l0_2.length ≤ c0_2) (hr2:Kd.C (Kd.slice 3 (Kd.int .i64)) w A2 l2.length l2) (hc2:l2.length ≤ c2) (h:spec_vfFlips.f k a0_0 a0_1 l0_2 a1 l2 a3 = some r) :
    Calls Try.prog 76 #[.agg #[.int .i64 a0_0,.int .i64 a0_1,.slice A0_2 l0_2.length c0_2],.int .i64 a1,.slice A2 l2.length c2,.int .i64 a3] w fun e w'=>e = .returned (.bool r)∧Below w.heap.size w w':=by
 have S:=St.init (w:=w) (dc k88_heap at88 hr0_2 hc0_2 (dc (Kd.heap_slice 3 (Kd.heap_int .i64)) (atU (d:=Kd.slice 3 (Kd.int .i64))) hr2 hc2 dn))
 clear hr0_2 hc0_2 hr2 hc2
 have F:=S.fc
 have H:=h;clear h;unfold spec_vfFlips.f at H
 replace H:=Option.bind_eq_some_iff.mp H;obtain ⟨t139,A5,H⟩:=H;(try dsimp only at H)
 replace H:=sp_ H;rcases H with ⟨c6,H⟩ | ⟨c6,H⟩
 · skip
   subst c6
   replace H:=Option.bind_eq_some_iff.mp H;obtain ⟨t140,A7,H⟩:=H;(try dsimp only at H)
   replace H:=sp_ H;rcases H with ⟨c8,H⟩ | ⟨c8,H⟩
   · skip
     subst c8
     replace H:=Option.bind_eq_some_iff.mp H;obtain ⟨t141,A9,H⟩:=H;(try dsimp only at H)
     obtain rfl:=Option.some.inj H
     go_enter Try.func76,Try.ntmps76
     go_wp2_with (first | ((with_reducible refine gd 4 rfl (L ?_));refine bo 4 (.agg #[_,_,_]) S ?_;clear S F;intro gb138 W S;have F:=S.fc) | ((with_reducible refine gate_callee (f:=109) rfl (L ?_));refine cl (some 11) Try.func109 (spec_flHas.calls _ _ _ _ _ _ _ _ _ S.c S.n A5) (hargs:=by (simp only [ma_,mb_,mc_,F] <;> rfl)) (h:=?_);rintro e W ⟨rfl,hb⟩;refine ⟨_,rfl,?_⟩;replace S:=S.go hb;clear F hb;have F:=S.fc) | (go_at_call 110;(try simp only [F]);refine (spec_vfCells.calls _ _ _ _ _ _ _ _ _ _ _ S.c S.n S.c S.n A7).mono ?_;rintro e W ⟨rfl,hb⟩;replace S:=S.go hb;clear F hb;have F:=S.fc) | (go_at_call 89;(try simp only [F]);refine (spec_l1In.calls _ _ _ _ _ A9).mono ?_;rintro e W ⟨rfl,hb⟩;replace S:=S.gw hb;clear F hb;have F:=S.fc))
     go_ret
     exact ⟨(by first | rfl | (simp [e0_,e1_] <;> rfl) | (simp [*,e0_,e1_] <;> rfl)),S.below⟩
   · skip
     replace c8:=cbf c8;subst c8
     obtain rfl:=Option.some.inj H
     go_enter Try.func76,Try.ntmps76
     go_wp2_with (first | ((with_reducible refine gd 4 rfl (L ?_));refine bo 4 (.agg #[_,_,_]) S ?_;clear S F;intro gb138 W S;have F:=S.fc) | ((with_reducible refine gate_callee (f:=109) rfl (L ?_));refine cl (some 11) Try.func109 (spec_flHas.calls _ _ _ _ _ _ _ _ _ S.c S.n A5) (hargs:=by (simp only [ma_,mb_,mc_,F] <;> rfl)) (h:=?_);rintro e W ⟨rfl,hb⟩;refine ⟨_,rfl,?_⟩;replace S:=S.go hb;clear F hb;have F:=S.fc) | (go_at_call 110;(try simp only [F]);refine (spec_vfCells.calls _ _ _ _ _ _ _ _ _ _ _ S.c S.n S.c S.n A7).mono ?_;rintro e W ⟨rfl,hb⟩;replace S:=S.go hb;clear F hb;have F:=S.fc))
     go_ret
     exact ⟨(by first | rfl | (simp [e0_,e1_] <;> rfl) | (simp [*,e0_,e1_] <;> rfl)),S.below⟩
 · skip
   replace c6:=cbf c6;subst c6
   obtain rfl:=Option.some.inj H
   go_enter Try.func76,Try.ntmps76
   go_wp2_with (first | ((with_reducible refine gd 4 rfl (L ?_));refine bo 4 (.agg #[_,_,_]) S ?_;clear S F;intro gb138 W S;have F:=S.fc) | ((with_reducible refine gate_callee (f:=109) rfl (L ?_));refine cl (some 11) Try.func109 (spec_flHas.calls _ _ _ _ _ _ _ _ _ S.c S.n A5) (hargs:=by (simp only [ma_,mb_,mc_,F] <;> rfl)) (h:=?_);rintro e W ⟨rfl,hb⟩;refine ⟨_,rfl,?_⟩;replace S:=S.go hb;clear F hb;have F:=S.fc))
   go_ret
   exact ⟨(by first | rfl | (simp [e0_,e1_] <;> rfl) | (simp [*,e0_,e1_] <;> rfl)),S.below⟩

/-! ### spec_boOwn: function 111 -/
def spec_boOwn.f (a0_0:Int) (a0_1:Int) (l0_2:List (S88)):Option (Int × Int × (List (S88))):=(some (([]:List (S88)):List (S88))).bind fun y144=>(if y144.length + l0_2.length < 8796093022208 then (some (a0_0,a0_1,(y144 ++ l0_2))) else (none))
theorem spec_boOwn.calls (a0_0:Int) (a0_1:Int) (A0_2:Option Addr) (c0_2:Nat) (l0_2:List (S88)) (r1:Int) (r2:Int) (r3:List (S88)) (w:World) (hr0_2:Kd.C k88 w A0_2 l0_2.length l0_2) (hc0_2:l0_2.length ≤ c0_2) (h:spec_boOwn.f a0_0 a0_1 l0_2 = some (r1,r2,r3)) :
    Calls Try.prog 111 #[.agg #[.int .i64 a0_0,.int .i64 a0_1,.slice A0_2 l0_2.length c0_2]] w fun e w'=>∃ v2_:Value,e = .returned (.agg #[.int .i64 r1,.int .i64 r2,v2_])∧Kd.R k88 88 w' w.heap.size (fun _=>True) v2_ r3∧Below w.heap.size w w':=by
 have S:=St.init (w:=w) (dc k88_heap at88 hr0_2 hc0_2 dn)
 clear hr0_2 hc0_2
 have F:=S.fc
 have H:=h;clear h;unfold spec_boOwn.f at H
 (first | (with_reducible replace H:=ob_ H;obtain ⟨y144,hy144,H⟩:=H;(try dsimp only at H)) | (obtain ⟨y144,hy144⟩:∃ y_:List (S88),y_ = (([]:List (S88))):=⟨_,rfl⟩;(try rw [← hy144] at H);(try simp only [Option.bind_some] at H)));have Ny144:=Aside0.mk hy144;clear hy144
 replace H:=np_ H;obtain ⟨c2,H⟩:=H
 (first | (with_reducible replace H:=ob_ H;obtain ⟨y147,hy147,H⟩:=H;(try dsimp only at H)) | (obtain ⟨y147,hy147⟩:∃ y_:List (S88),y_ = (y144 ++ l0_2):=⟨_,rfl⟩;(try rw [← hy147] at H);(try simp only [Option.bind_some] at H)));have Ny147:=Aside0.mk hy147;clear hy147
 simp only [Option.some.injEq,Prod.mk.injEq] at H
 obtain ⟨rfl,rfl,rfl⟩:=H
 go_enter Try.func111,Try.ntmps111
 go_wp2_with (first | ((with_reducible refine gd 1 rfl (L ?_));refine bo 1 (.agg #[_,_,_]) S ?_;clear S F;intro gb142 W S;have F:=S.fc) | ((with_reducible refine gd 2 rfl (L ?_));refine al 2 S zi50 ?_;clear S F;intro gb143 W S;have F:=S.fc) | ((with_reducible refine gs (t:=50) rfl (L ?_));(first | refine sb (.agg #[_,_,_]) S sz50 ?_ | refine ro (.agg #[_,_,_]) S sz50 ?_ (ho:=rfl) (hx:=rfl) (hy:=rfl));clear S F;intro W S;(try rw [← Ny147.out] at S);have F:=S.fc))
 refine rgP S (fun _ S=>S.tl) [(0,0),(0,2),(0,5),(1,1),(1,3),(1,6),(2,4),(2,7),(0,8),(2,9)] [] (by kernel_rfl) (by kernel_rfl) (fun _ d _ _ _ h=>by cases d <;> exact h) ?_;clear S F;intro W S;have S0:=S.tl;have F:=S.fc
 repeat (first | (refine q0 (h:=?_)) | (refine q1 S0 (h:=?_)) | (refine q0n (h:=?_)) | (refine q1n S0 (h:=?_)))
 refine lk2 (by rfl) (by exact (Eq.refl true)) ?_;refine lia 7 at88 88 S ([]:List (S88)) (fun _ _=>(Reps.none _ _)) (by first | (go_simp;done) | (go_simp;rfl)) ?_;clear S F;intro Ay144 cy144 W S;(try rw [← Ny144.out] at S ⊢);(try rw [← Ny147.out] at S ⊢);have F:=S.fc
 clear S0;have S0:=S.tl.tl;refine ⟨S0,?_⟩
 refine lk2 (by rfl) (by exact (Eq.refl true)) ?_;refine apr (A:=Ay144) (ys:=l0_2) 10 S Try.underlying29 info88 S.c ?_ (ho:=rfl) (hs:=rfl) (hx:=rfl);clear S F;intro Ay147 cy147 W S;(try rw [← Ny147.out] at S ⊢);have F:=S.fc
 clear S0;have S0:=S.tl.tl;refine ⟨S0,?_⟩
 repeat (first | (refine q0 (h:=?_)) | (refine q1 S0 (h:=?_)) | (refine q0n (h:=?_)) | (refine q1n S0 (h:=?_)))
 refine lk2 (by rfl) (by exact (Eq.refl true)) ?_;(first | refine sb (.agg #[_,_,_]) S sz50 ?_ | refine ro (.agg #[_,_,_]) S sz50 ?_ (ho:=rfl) (hx:=rfl) (hy:=rfl));clear S F;intro W S;(try rw [← Ny147.out] at S);have F:=S.fc
 clear S0;have S0:=S.tl.tl;refine ⟨S0,?_⟩
 refine oz ?_
 try clear S0
 go_wp2_with (first | ((with_reducible refine gs (t:=50) rfl (L ?_));(first | refine sb (.agg #[_,_,_]) S sz50 ?_ | refine ro (.agg #[_,_,_]) S sz50 ?_ (ho:=rfl) (hx:=rfl) (hy:=rfl));clear S F;intro W S;(try rw [← Ny147.out] at S);have F:=S.fc))
 refine bodyPost_ret (results_cell_row rfl _ _ gb143 50 #[.int .i64 a0_0,.int .i64 a0_1,.slice Ay147 y147.length cy147] (0,0) _ rfl S.hb Try.underlying50 rfl (by kernel_rfl)) rfl ?_
 exact ⟨_,(by first | rfl | (simp [e0_,e1_] <;> rfl) | (simp [*,e0_,e1_] <;> rfl)),(by first | exact S.r | exact Kd.R_nil _ _ _ _ _),S.below⟩

/-! ### spec_ttBit: function 112 -/
def spec_ttBit.f (a0:Int) (a1:Int):Option (Int):=if 0 ≤ (IntKind.u64.wrap (a1)) then (some (Go.bits .and .i64 (shr .i64 a0 (IntKind.u64.wrap (a1))) 1)) else (none)
theorem spec_ttBit.calls (a0:Int) (a1:Int) (r:Int) (w:World) (h:spec_ttBit.f a0 a1 = some r) :
  Calls Try.prog 112 #[.int .i64 a0,.int .i64 a1] w fun e w'=>e = .returned (.int .i64 r)∧Drawn0 w w':=by
 have H:(if 0 ≤ (IntKind.u64.wrap (a1)) then (some (Go.bits .and .i64 (shr .i64 a0 (IntKind.u64.wrap (a1))) 1)) else (none)) = some r:=h;clear h;obtain ⟨ji3,hji3⟩:∃ j_:Int,(IntKind.u64.wrap (a1)) = j_:=⟨_,rfl⟩
 replace H:(if 0 ≤ (ji3) then (some (Go.bits .and .i64 (shr .i64 a0 (ji3)) 1)) else (none)) = some r:=by first | (rw [hji3] at H;exact H) | (simp only [hji3] at H ⊢;exact H)
 replace H:=np_ H;obtain ⟨c4,H⟩:=H;have c4b0:=eq_true c4;have c4b1:decide (0 ≤ (ji3)) = true:=decide_eq_true c4;clear c4;obtain ⟨ji5,hji5⟩:∃ j_:Int,(shr .i64 a0 (ji3)) = j_:=⟨_,rfl⟩
 replace H:(some (Go.bits .and .i64 (ji5) 1)) = some r:=by first | (rw [hji5] at H;exact H) | (simp only [hji5] at H ⊢;exact H)
 have hji5_:(a0 / 2 ^ min (ji3).toNat 64) = ji5:=hji5;have hji5z:(ji3) ≤ 64→(a0 / 2 ^ (ji3).toNat) = ji5:=shr_small hji5;obtain rfl:=Option.some.inj H;go_enter Try.func112,Try.ntmps112;go_wp2;go_ret;exact ⟨by first | rfl | (simp;done) | (simp only [← hji3,← hji5] <;> (first | rfl | simp)) | (simp [*];done),by repeat (first | exact Drawn0.refl _ | apply Drawn0.step)⟩

/-! ### spec_boAt: function 142 -/
def spec_boAt.f (a0_0:Int) (a0_1:Int) (l0_2:List (S88)) (a1:Int) (a2:Int):Option (Int × Int):=if 0 ≤ (wrap64 ((wrap64 (a1 * a0_1)) + a2)) then (if (wrap64 ((wrap64 (a1 * a0_1)) + a2)) < (l0_2.length:Int) then (some ((rd_T88 l0_2 (wrap64 ((wrap64 (a1 * a0_1)) + a2))).f0,(rd_T88 l0_2 (wrap64 ((wrap64 (a1 * a0_1)) + a2))).f1)) else (none)) else (none)
theorem spec_boAt.calls (a0_0:Int) (a0_1:Int) (A0_2:Option Addr) (c0_2:Nat) (l0_2:List (S88)) (a1:Int) (a2:Int) (r1:Int) (r2:Int) (w:World) (hr0_2:Kd.C k88 w A0_2 l0_2.length l0_2) (hc0_2:l0_2.length ≤ c0_2) (h:spec_boAt.f a0_0 a0_1 l0_2 a1 a2 = some (r1,r2)) :
    Calls Try.prog 142 #[.agg #[.int .i64 a0_0,.int .i64 a0_1,.slice A0_2 l0_2.length c0_2],.int .i64 a1,.int .i64 a2] w fun e w'=>e = .returned (.agg #[.int .i64 r1,.int .i64 r2])∧Below w.heap.size w w':=by
 have S:=St.init (w:=w) (dc k88_heap at88 hr0_2 hc0_2 dn)
 clear hr0_2 hc0_2
 have F:=S.fc
 have H:=h;clear h;unfold spec_boAt.f at H
 obtain ⟨ji4,hji4⟩:∃ j_:Int,(wrap64 ((wrap64 (a1 * a0_1)) + a2)) = j_:=⟨_,rfl⟩;simp only [hji4] at H
 have hji4w:(IntKind.i64.wrap ((wrap64 (a1 * a0_1)) + a2)) = ji4:=(i64_w _).trans hji4
 replace H:=np_ H;obtain ⟨c5,H⟩:=H
 replace H:=np_ H;obtain ⟨c6,H⟩:=H
 simp only [Option.some.injEq,Prod.mk.injEq] at H
 obtain ⟨rfl,rfl⟩:=H
 go_enter Try.func142,Try.ntmps142
 go_wp2_with (first | ((with_reducible refine gd 3 rfl (L ?_));refine bo 3 (.agg #[_,_,_]) S ?_;clear S F;intro gb150 W S;have F:=S.fc) | ((with_reducible refine gd 6 rfl (L ?_));refine al 6 S zi88 ?_;clear S F;intro gb151 W S;have F:=S.fc) | ((with_reducible refine gs (t:=88) rfl (L ?_));(first | refine sb (.agg #[_,_]) S sz88 ?_ | refine ro (.agg #[_,_]) S sz88 ?_ (ho:=rfl) (hx:=rfl) (hy:=rfl));(clear S F;intro W S;have F:=S.fc)))
 refine bodyPost_ret (results_cell_row rfl _ _ gb151 88 #[.int .i64 ((rd_T88 l0_2 (ji4)).f0),.int .i64 ((rd_T88 l0_2 (ji4)).f1)] (0,0) _ rfl S.hb Try.underlying88 rfl (by kernel_rfl)) rfl ?_
 exact ⟨(by first | rfl | (simp [e0_,e1_] <;> rfl) | (simp [*,e0_,e1_] <;> rfl)),S.below⟩

/-! ### spec_paGoes: function 143 -/
def spec_paGoes.j0:Nat→Int→Int→Bool→Int→Int→Option (Int)
 | 0,_,_,_,_,_=>none
 | k + 1,x1,x6,x11,x154000,x154001=>if x11 = true then (some (wrap64 ((wrap64 (2 * x154001)) - 1))) else (if x6 = 4 then (some (wrap64 (-x1))) else (some 0))
def spec_paGoes.f (k:Nat) (a0_0:Int) (a0_1:Int) (a1:Int):Option (Int):=if a0_0 = 1 then (some (-1)) else (if a0_0 = 2 then (some 1) else (if a0_0 = 3 then (spec_paGoes.j0 k a1 a0_0 (a0_0 == 3) a0_0 a0_1) else (spec_paGoes.j0 k a1 a0_0 (a0_0 == 6) a0_0 a0_1)))
theorem spec_paGoes.calls (k:Nat) (a0_0:Int) (a0_1:Int) (a1:Int) (r:Int) (w:World) (h:spec_paGoes.f k a0_0 a0_1 a1 = some r) :
  Calls Try.prog 143 #[.agg #[.int .i64 a0_0,.int .i64 a0_1],.int .i64 a1] w fun e w'=>e = .returned (.int .i64 r)∧Below w.heap.size w w':=by
 have HB:=Aside0.mk (Below.refl w.heap.size w);have H:(if a0_0 = 1 then (some (-1)) else (if a0_0 = 2 then (some 1) else (if a0_0 = 3 then (spec_paGoes.j0 k a1 a0_0 (a0_0 == 3) a0_0 a0_1) else (spec_paGoes.j0 k a1 a0_0 (a0_0 == 6) a0_0 a0_1)))) = some r:=h;clear h;by_cases c3:a0_0 = 1
 ·rw [if_pos c3] at H;have c3b0:(a0_0 == 1) = true:=beq_iff_eq.mpr c3;have c3b1:(a0_0 != 1) = false:=bne_eq_false_iff_eq.mpr c3;clear c3;obtain rfl:=Option.some.inj H;go_enter Try.func143,Try.ntmps143;go_wp2_with (first | ((with_reducible refine gate_dst (N:=2) rfl ?_);refine box_event ?hg (N:=2) ?hd (cs:=#[.int .i64 a0_0,.int .i64 a0_1]) (t:=88) ?hr ?_;(case hd=>rfl);(case hg=>rfl);(case hr=>first | (go_simp;done) | (go_simp;rfl));intro gb153 hg w4 hbox hb;refine ev4 (bs HB hb) (hbox) (gle hg HB) (gle hg HB) ?_;clear HB;intro HB BK153 GW153 GE153;clear hb hbox hg;obtain ⟨hcz5_0,hcz5_1,hfz5_0,hfz5_1⟩:=bt2 BK153))
  go_ret;exact ⟨by first | rfl | (simp [e0_,e1_] <;> rfl) | (simp [*,e0_,e1_] <;> rfl),bm HB⟩
 ·rw [if_neg c3] at H;have c3b0:(a0_0 == 1) = false:=beq_eq_false_iff_ne.mpr c3;have c3b1:(a0_0 != 1) = true:=bne_iff_ne.mpr c3;by_cases c6:a0_0 = 2
  ·rw [if_pos c6] at H;have c6b0:(a0_0 == 2) = true:=beq_iff_eq.mpr c6;have c6b1:(a0_0 != 2) = false:=bne_eq_false_iff_eq.mpr c6;clear c6;obtain rfl:=Option.some.inj H;go_enter Try.func143,Try.ntmps143;go_wp2_with (first | ((with_reducible refine gate_dst (N:=2) rfl ?_);refine box_event ?hg (N:=2) ?hd (cs:=#[.int .i64 a0_0,.int .i64 a0_1]) (t:=88) ?hr ?_;(case hd=>rfl);(case hg=>rfl);(case hr=>first | (go_simp;done) | (go_simp;rfl));intro gb153 hg w7 hbox hb;refine ev4 (bs HB hb) (hbox) (gle hg HB) (gle hg HB) ?_;clear HB;intro HB BK153 GW153 GE153;clear hb hbox hg;obtain ⟨hcz8_0,hcz8_1,hfz8_0,hfz8_1⟩:=bt2 BK153))
   go_ret;exact ⟨by first | rfl | (simp [e0_,e1_] <;> rfl) | (simp [*,e0_,e1_] <;> rfl),bm HB⟩
  ·rw [if_neg c6] at H;have c6b0:(a0_0 == 2) = false:=beq_eq_false_iff_ne.mpr c6;have c6b1:(a0_0 != 2) = true:=bne_iff_ne.mpr c6;have HC9:=Aside0.mk H;clear H;go_enter Try.func143,Try.ntmps143;go_upto_if 11 with (first | ((with_reducible refine gate_dst (N:=2) rfl ?_);refine box_event ?hg (N:=2) ?hd (cs:=#[.int .i64 a0_0,.int .i64 a0_1]) (t:=88) ?hr ?_;(case hd=>rfl);(case hg=>rfl);(case hr=>first | (go_simp;done) | (go_simp;rfl));intro gb153 hg w10 hbox hb;refine ev4 (bs HB hb) (hbox) (gle hg HB) (gle hg HB) ?_;clear HB;intro HB BK153 GW153 GE153;clear hb hbox hg;obtain ⟨hcz11_0,hcz11_1,hfz11_0,hfz11_1⟩:=bt2 BK153))
   (try simp only [Act.put,za_,zb_,zc_])
   go_cut [11] (fun v11 wc=>∃ (kq:Nat) (x11_8:Bool),v11 = .bool x11_8∧Aside0 (spec_paGoes.j0 kq a1 a0_0 x11_8 a0_0 a0_1 = some r)∧Aside0 (kq ≤ k)∧Aside0 (wc.heap[gb153]? = some (.cells #[.int .i64 a0_0,.int .i64 a0_1] 88 (0,0)))∧Aside0 (Below w.heap.size w wc))
   case first =>
    have H:=HC9.out;clear HC9;by_cases c12:a0_0 = 3
    ·rw [if_pos c12] at H;have c12b0:(a0_0 == 3) = true:=beq_iff_eq.mpr c12;have c12b1:(a0_0 != 3) = false:=bne_eq_false_iff_eq.mpr c12;clear c12;(first | rw [c12b0] | (simp only [i64_w,i32_w];rw [c12b0]) | skip)
     have H':=Aside0.mk H;clear H;go_wp2;go_meet
     case rel=>exact ⟨_,((a0_0 == 3)),(by first | rfl | (simp;done) | (simp [*];done)),H',⟨by first | omega | exact Nat.le_refl _⟩,⟨km_ BK153⟩,⟨bm HB⟩⟩
    ·rw [if_neg c12] at H;have c12b0:(a0_0 == 3) = false:=beq_eq_false_iff_ne.mpr c12;have c12b1:(a0_0 != 3) = true:=bne_iff_ne.mpr c12;(first | rw [c12b0] | (simp only [i64_w,i32_w];rw [c12b0]) | skip)
     have H':=Aside0.mk H;clear H;go_wp2;go_meet
     case rel=>exact ⟨_,((a0_0 == 6)),(by first | rfl | (simp;done) | (simp [*];done)),H',⟨by first | omega | exact Nat.le_refl _⟩,⟨km_ BK153⟩,⟨bm HB⟩⟩
   case rest =>
    clear HC9;(try clear c1);(try clear c3);(try clear c3b0);(try clear c3b1);(try clear c6);(try clear c6b0);(try clear c6b1);(try clear hcz11_0 hcz11_1 hfz11_0 hfz11_1);obtain ⟨kq,x11_8,rfl,HA,HJ8,BK153,HB⟩:=hcut;cases kq with
    | zero=>exact absurd HA.out (by simp [spec_paGoes.j0])
    | succ kj8 =>
     have H:=HA.out;clear HA;simp only [spec_paGoes.j0] at H;by_cases c13:x11_8 = true
     ·subst c13;have H1:(some (wrap64 ((wrap64 (2 * a0_1)) - 1))) = some r:=by rw [if_pos rfl] at H;exact H
      clear H;have H:=H1;clear H1;obtain rfl:=Option.some.inj H;obtain ⟨hcz14_0,hcz14_1,hfz14_0,hfz14_1⟩:=bt2 BK153;go_wp2;go_ret;exact ⟨by first | rfl | (simp [e0_,e1_] <;> rfl) | (simp [*,e0_,e1_] <;> rfl),bm HB⟩
     ·replace c13:=Bool.eq_false_iff.mpr c13;subst c13;have H1:(if a0_0 = 4 then (some (wrap64 (-a1))) else (some 0)) = some r:=by rw [if_neg (show ¬ (false = true) by decide)] at H;exact H
      clear H;have H:=H1;clear H1;by_cases c15:a0_0 = 4
      ·rw [if_pos c15] at H;have c15b0:(a0_0 == 4) = true:=beq_iff_eq.mpr c15;have c15b1:(a0_0 != 4) = false:=bne_eq_false_iff_eq.mpr c15;clear c15;obtain rfl:=Option.some.inj H;go_wp2;go_ret;exact ⟨by first | rfl | (simp [e0_,e1_] <;> rfl) | (simp [*,e0_,e1_] <;> rfl),bm HB⟩
      ·rw [if_neg c15] at H;have c15b0:(a0_0 == 4) = false:=beq_eq_false_iff_ne.mpr c15;have c15b1:(a0_0 != 4) = true:=bne_iff_ne.mpr c15;obtain rfl:=Option.some.inj H;go_wp2;go_ret;exact ⟨by first | rfl | (simp [e0_,e1_] <;> rfl) | (simp [*,e0_,e1_] <;> rfl),bm HB⟩

/-! ### spec_paTurn: function 147 -/
def spec_paTurn.f (a0_0:Int) (a0_1:Int):Option (Int × Int):=some (a0_0,wrap64 (1 - a0_1))
theorem spec_paTurn.calls (a0_0:Int) (a0_1:Int) (r1:Int) (r2:Int) (w:World) (h:spec_paTurn.f a0_0 a0_1 = some (r1,r2)) :
    Calls Try.prog 147 #[.agg #[.int .i64 a0_0,.int .i64 a0_1]] w fun e w'=>e = .returned (.agg #[.int .i64 r1,.int .i64 r2])∧Below w.heap.size w w':=by
 have S:=St.init (w:=w) dn
 have F:=S.fc
 have H:=h;clear h;unfold spec_paTurn.f at H
 simp only [Option.some.injEq,Prod.mk.injEq] at H
 obtain ⟨rfl,rfl⟩:=H
 go_enter Try.func147,Try.ntmps147
 go_wp2_with (first | ((with_reducible refine gd 1 rfl (L ?_));refine bo 1 (.agg #[_,_]) S ?_;clear S F;intro gb154 W S;have F:=S.fc) | ((with_reducible refine gd 2 rfl (L ?_));refine al 2 S zi88 ?_;clear S F;intro gb155 W S;have F:=S.fc) | ((with_reducible refine gs (t:=88) rfl (L ?_));(first | refine sb (.agg #[_,_]) S sz88 ?_ | refine ro (.agg #[_,_]) S sz88 ?_ (ho:=rfl) (hx:=rfl) (hy:=rfl));(clear S F;intro W S;have F:=S.fc)))
 refine bodyPost_ret (results_cell_row rfl _ _ gb155 88 #[.int .i64 a0_0,.int .i64 (wrap64 (1 - a0_1))] (0,0) _ rfl S.hb Try.underlying88 rfl (by kernel_rfl)) rfl ?_
 exact ⟨(by first | rfl | (simp [e0_,e1_] <;> rfl) | (simp [*,e0_,e1_] <;> rfl)),S.below⟩

/-! ### spec_flPass: function 144 -/
def spec_flPass.l0:Nat→List Int→Int→Int→Int→Int→Int→List (S88)→Option ((List (S88)))
  | 0,_,_,_,_,_,_,_=>none
  | k + 1,x1,x2,x28,x29,x157000,x157001,x157002=>if x29 < x28 then (if 0 ≤ x29 then (if x29 < (x157002.length:Int) then (if ((rd_T88 x157002 x29).f0) = 6 then (if x29 < (x1.length:Int) then (if 0 ≤ x2 then (if x2 < (x1.length:Int) then (if (rd x1 x29) = (rd x1 x2) then ((spec_paTurn.f ((rd_T88 x157002 x29).f0) ((rd_T88 x157002 x29).f1)).bind fun bt166=>(spec_flPass.l0 k x1 x2 x28 (wrap64 (x29 + 1)) x157000 x157001 (x157002.set (x29:Int).toNat (⟨bt166.1,bt166.2⟩:S88)))) else (spec_flPass.l0 k x1 x2 x28 (wrap64 (x29 + 1)) x157000 x157001 x157002)) else (none)) else (none)) else (none)) else (spec_flPass.l0 k x1 x2 x28 (wrap64 (x29 + 1)) x157000 x157001 x157002)) else (none)) else (none)) else (some x157002)
def spec_flPass.f (k:Nat) (a0_0:Int) (a0_1:Int) (l0_2:List (S88)) (l1:List Int) (a2:Int):Option ((List (S88))):=if 0 ≤ a2 then (if a2 < (l0_2.length:Int) then (if ((rd_T88 l0_2 a2).f0) = 3 then ((spec_paTurn.f ((rd_T88 l0_2 a2).f0) ((rd_T88 l0_2 a2).f1)).bind fun bt159=>(some (l0_2.set (a2:Int).toNat (⟨bt159.1,bt159.2⟩:S88)))) else (if ((rd_T88 l0_2 a2).f0) = 6 then (spec_flPass.l0 k l1 a2 (l0_2.length:Int) 0 a0_0 a0_1 l0_2) else (some l0_2))) else (none)) else (none)
theorem spec_flPass.calls (k:Nat) (a0_0:Int) (a0_1:Int) (P0_2_:Nat→Prop) (u9000_:Value) (l0_2:List (S88)) (A1:Option Addr) (c1:Nat) (l1:List Int) (a2:Int) (r:List (S88)) (w0 w:World) (hB:Below w0.heap.size w0 w) (ho0_2:Kd.R k88 88 w w0.heap.size P0_2_ u9000_ l0_2) (hr1:∀ W_,Kept w W_ (fun k_=>P0_2_ k_)→Kd.C (Kd.int .i64) W_ A1 l1.length l1) (hc1:l1.length ≤ c1) (h:spec_flPass.f k a0_0 a0_1 l0_2 l1 a2 = some r) :
    Calls Try.prog 144 #[.agg #[.int .i64 a0_0,.int .i64 a0_1,u9000_],.slice A1 l1.length c1,.int .i64 a2] w fun e w'=>e = .returned (.tuple #[])∧Kd.R k88 88 w' w0.heap.size (fun k_=>(P0_2_ k_∨w.heap.size ≤ k_)) u9000_ r∧Below w0.heap.size w0 w'∧Kept w w' (fun k_=>P0_2_ k_):=by
 obtain ⟨Al0_2,cl0_2,rfl⟩:=Kd.R_slice ho0_2
 have S:=St.own1 at88 hB ho0_2 (dk (atI .i64) hr1 hc1 dn)
 clear hB ho0_2 hr1 hc1
 have F:=S.fc
 have H:=h;clear h;unfold spec_flPass.f at H
 replace H:=np_ H;obtain ⟨c4,H⟩:=H;(try simp only [F] at c4)
 replace H:=np_ H;obtain ⟨c5,H⟩:=H;(try simp only [F] at c5)
 replace H:=sp_ H;rcases H with ⟨c6,H⟩ | ⟨c6,H⟩
 · skip
   replace c6:=ceq c6
   replace H:=Option.bind_eq_some_iff.mp H;obtain ⟨⟨t159,t160⟩,A7,H⟩:=H;(try dsimp only at H)
   (first | (with_reducible replace H:=ob_ H;obtain ⟨y161,hy161,H⟩:=H;(try dsimp only at H)) | (obtain ⟨y161,hy161⟩:∃ y_:List (S88),y_ = (l0_2.set (a2:Int).toNat (⟨t159,t160⟩:S88)):=⟨_,rfl⟩;(try rw [← hy161] at H);(try simp only [Option.bind_some] at H)));have Ny161:=Aside0.mk hy161;clear hy161
   obtain rfl:=Option.some.inj H
   go_enter Try.func144,Try.ntmps144
   go_wp2_with (first | ((with_reducible refine gd 3 rfl (L ?_));refine bo 3 (.agg #[_,_,_]) S ?_;clear S F;intro gb156 W S;have F:=S.fc) | ((with_reducible refine gd 6 rfl (L ?_));refine al 6 S zi88 ?_;clear S F;intro gb158 W S;have F:=S.fc) | ((with_reducible refine gs (t:=88) rfl (L ?_));(first | refine sb (.agg #[_,_]) S sz88 ?_ | refine ro (.agg #[_,_]) S sz88 ?_ (ho:=rfl) (hx:=rfl) (hy:=rfl));clear S F;intro W S;(try simp only [gd88] at S);(try rw [← Ny161.out] at S);have F:=S.fc))
   refine rq S [(0,0),(0,2),(1,1),(1,3),(2,4),(0,5),(3,6)] [6] (h:=?_);clear S F;intro W S;have S0:=S;have F:=S.fc
   repeat (first | (refine q0 (h:=?_)) | (refine q1 S0 (h:=?_)) | (refine q0n (h:=?_)) | (refine q1n S0 (h:=?_)))
   refine lk2 (by rfl) (by exact (Eq.refl true)) ?_;refine cl (some 22) Try.func147 (spec_paTurn.calls _ _ _ _ _ A7) (hargs:=by (simp only [ma_,mb_,mc_,F] <;> rfl)) (h:=?_);rintro e W ⟨rfl,hb⟩;refine ⟨_,rfl,?_⟩;replace S:=S.go hb;clear F hb;have F:=S.fc
   clear S0;have S0:=S;refine ⟨S0,?_⟩
   repeat (first | (refine q0 (h:=?_)) | (refine q1 S0 (h:=?_)) | (refine q0n (h:=?_)) | (refine q1n S0 (h:=?_)))
   refine lk3 (by rfl) (by exact (Eq.refl true)) ?_;(first | refine sb (.agg #[_,_]) S sz88 ?_ | refine ro (.agg #[_,_]) S sz88 ?_ (ho:=rfl) (hx:=rfl) (hy:=rfl));clear S F;intro W S;(try simp only [gd88] at S);(try rw [← Ny161.out] at S);have F:=S.fc
   refine oz ?_
   try clear S0
   go_wp2_with (first | ((with_reducible refine gs (t:=88) rfl (L ?_));(first | refine sb (.agg #[_,_]) S sz88 ?_ | refine ro (.agg #[_,_]) S sz88 ?_ (ho:=rfl) (hx:=rfl) (hy:=rfl));clear S F;intro W S;(try simp only [gd88] at S);(try rw [← Ny161.out] at S);have F:=S.fc))
   first | go_end0 | ((try simp only [Exit.inBlock,Exit.then]);refine bodyPost_ret (results_none rfl _ _ _) rfl ?_)
   exact ⟨(by first | rfl | (simp [e0_,e1_] <;> rfl) | (simp [*,e0_,e1_] <;> rfl)),(by first | exact S.rp | exact Kd.R_nil _ _ _ _ _),S.below,S.kept⟩
 · skip
   replace c6:=cne c6
   replace H:=sp_ H;rcases H with ⟨c19,H⟩ | ⟨c19,H⟩
   · skip
     replace c19:=ceq c19
     go_enter Try.func144,Try.ntmps144
     go_wp2_with (first | ((with_reducible refine gd 3 rfl (L ?_));refine bo 3 (.agg #[_,_,_]) S ?_;clear S F;intro gb156 W S;have F:=S.fc) | ((with_reducible refine gd 6 rfl (L ?_));refine al 6 S zi88 ?_;clear S F;intro gb158 W S;have F:=S.fc) | ((with_reducible refine gs (t:=88) rfl (L ?_));(first | refine sb (.agg #[_,_]) S sz88 ?_ | refine ro (.agg #[_,_]) S sz88 ?_ (ho:=rfl) (hx:=rfl) (hy:=rfl));clear S F;intro W S;(try simp only [gd88] at S);have F:=S.fc))
     go_loopg [29] k (fun kq v29 w'=>∃ (x29_1:Int) (x157002_1:List (S88)) (x159000_1:Int) (x159001_1:Int),v29 = .int .i64 x29_1∧spec_flPass.l0 kq l1 a2 (l0_2.length:Int) x29_1 a0_0 a0_1 x157002_1 = some r∧kq ≤ k∧St w0 w P0_2_ [bor (atI .i64) A1 c1 l1] w'  [box gb158 88 [.int .i64 x159000_1,.int .i64 x159001_1],box gb156 50 [.int .i64 a0_0,.int .i64 a0_1,.slice Al0_2 l0_2.length cl0_2],row at88 88 Al0_2 l0_2.length cl0_2 x157002_1])
     case atStart=>exact ⟨0,l0_2,((rd_T88 l0_2 a2).f0),((rd_T88 l0_2 a2).f1),(by first | rfl | (simp;done) | (simp [*];done) | (rw [w6_ (by omega) (by omega)])),(by first | exact H | (simp only [F];exact H)),Nat.le_refl _,S⟩
     case round =>
      clear H S F
      obtain ⟨x29_1,x157002_1,x159000_1,x159001_1,rfl,HA,HK1,S⟩:=hrel
      have F:=S.fc
      cases gk with
      | zero=>exact absurd HA (by simp [spec_flPass.l0])
      | succ k1 =>
       have H:=HA;clear HA;simp only [spec_flPass.l0,F] at H
       replace H:=sp_ H;rcases H with ⟨c27,H⟩ | ⟨c27,H⟩
       · skip
         replace H:=np_ H;obtain ⟨c28,H⟩:=H;(try simp only [F] at c28)
         replace H:=np_ H;obtain ⟨c29,H⟩:=H;(try simp only [F] at c29)
         replace H:=sp_ H;rcases H with ⟨c30,H⟩ | ⟨c30,H⟩
         · skip
           replace c30:=ceq c30
           replace H:=np_ H;obtain ⟨c31,H⟩:=H;(try simp only [F] at c31)
           replace H:=np_ H;obtain ⟨c32,H⟩:=H;(try simp only [F] at c32)
           replace H:=np_ H;obtain ⟨c33,H⟩:=H;(try simp only [F] at c33)
           replace H:=sp_ H;rcases H with ⟨c34,H⟩ | ⟨c34,H⟩
           · skip
             replace c34:=ceq c34
             replace H:=Option.bind_eq_some_iff.mp H;obtain ⟨⟨t166,t167⟩,A35,H⟩:=H;(try dsimp only at H)
             (first | (with_reducible replace H:=ob_ H;obtain ⟨y168,hy168,H⟩:=H;(try dsimp only at H)) | (obtain ⟨y168,hy168⟩:∃ y_:List (S88),y_ = (x157002_1.set (x29_1:Int).toNat (⟨t166,t167⟩:S88)):=⟨_,rfl⟩;(try rw [← hy168] at H);(try simp only [Option.bind_some] at H)));have Ny168:=Aside0.mk hy168;clear hy168
             go_wp2_with (first | ((with_reducible refine gd 8 rfl (L ?_));refine al 8 S zi88 ?_;clear S F;intro gb163 W S;have F:=S.fc) | ((with_reducible refine gs (t:=88) rfl (L ?_));(first | refine sb (.agg #[_,_]) S sz88 ?_ | refine ro (.agg #[_,_]) S sz88 ?_ (ho:=rfl) (hx:=rfl) (hy:=rfl));clear S F;intro W S;(try simp only [gd88] at S);(try rw [← Ny168.out] at S);have F:=S.fc))
             refine rq S [(0,0),(1,1),(0,2),(0,3),(0,4),(0,5),(0,6),(0,8),(0,9),(0,10),(1,7),(1,11),(0,12),(0,13)] [] (h:=?_);clear S F;intro W S;have S0:=S;have F:=S.fc
             repeat (first | (refine q0 (h:=?_)) | (refine q1 S0 (h:=?_)) | (refine q0n (h:=?_)) | (refine q1n S0 (h:=?_)))
             refine oz ?_
             try clear S0
             go_wp2_with (first | ((with_reducible refine gs (t:=88) rfl (L ?_));(first | refine sb (.agg #[_,_]) S sz88 ?_ | refine ro (.agg #[_,_]) S sz88 ?_ (ho:=rfl) (hx:=rfl) (hy:=rfl));clear S F;intro W S;(try simp only [gd88] at S);(try rw [← Ny168.out] at S);have F:=S.fc))
             refine rq S [(0,0),(0,2),(1,1),(1,3),(2,4),(0,5),(3,6)] [6] (h:=?_);clear S F;intro W S;have S0:=S;have F:=S.fc
             repeat (first | (refine q0 (h:=?_)) | (refine q1 S0 (h:=?_)) | (refine q0n (h:=?_)) | (refine q1n S0 (h:=?_)))
             refine lk2 (by rfl) (by exact (Eq.refl true)) ?_;refine cl (some 52) Try.func147 (spec_paTurn.calls _ _ _ _ _ A35) (hargs:=by (simp only [ma_,mb_,mc_,F] <;> rfl)) (h:=?_);rintro e W ⟨rfl,hb⟩;refine ⟨_,rfl,?_⟩;replace S:=S.go hb;clear F hb;have F:=S.fc
             clear S0;have S0:=S;refine ⟨S0,?_⟩
             repeat (first | (refine q0 (h:=?_)) | (refine q1 S0 (h:=?_)) | (refine q0n (h:=?_)) | (refine q1n S0 (h:=?_)))
             refine lk3 (by rfl) (by exact (Eq.refl true)) ?_;(first | refine sb (.agg #[_,_]) S sz88 ?_ | refine ro (.agg #[_,_]) S sz88 ?_ (ho:=rfl) (hx:=rfl) (hy:=rfl));clear S F;intro W S;(try simp only [gd88] at S);(try rw [← Ny168.out] at S);have F:=S.fc
             refine oz ?_
             try clear S0
             go_wp2_with (first | ((with_reducible refine gs (t:=88) rfl (L ?_));(first | refine sb (.agg #[_,_]) S sz88 ?_ | refine ro (.agg #[_,_]) S sz88 ?_ (ho:=rfl) (hx:=rfl) (hy:=rfl));clear S F;intro W S;(try simp only [gd88] at S);(try rw [← Ny168.out] at S);have F:=S.fc))
             go_roundg k1
             case measure=>omega
             case rel=>exact ⟨(wrap64 (x29_1 + 1)),y168,x159000_1,x159001_1,(by first | rfl | (simp;done) | (simp [*];done) | (rw [w6_ (by omega) (by omega)])),(by first | exact H | (simp only [F];exact H)),(by first | omega | exact Nat.le_refl _),S.tl⟩
           · skip
             replace c34:=cne c34
             go_wp2_with (first | ((with_reducible refine gd 8 rfl (L ?_));refine al 8 S zi88 ?_;clear S F;intro gb163 W S;have F:=S.fc) | ((with_reducible refine gs (t:=88) rfl (L ?_));(first | refine sb (.agg #[_,_]) S sz88 ?_ | refine ro (.agg #[_,_]) S sz88 ?_ (ho:=rfl) (hx:=rfl) (hy:=rfl));clear S F;intro W S;(try simp only [gd88] at S);have F:=S.fc))
             refine rq S [(0,0),(1,1),(0,2),(0,3),(0,4),(0,5),(0,6),(0,8),(0,9),(0,10),(1,7),(1,11),(0,12),(0,13)] [] (h:=?_);clear S F;intro W S;have S0:=S;have F:=S.fc
             repeat (first | (refine q0 (h:=?_)) | (refine q1 S0 (h:=?_)) | (refine q0n (h:=?_)) | (refine q1n S0 (h:=?_)))
             refine oz ?_
             try clear S0
             go_wp2_with (first | ((with_reducible refine gs (t:=88) rfl (L ?_));(first | refine sb (.agg #[_,_]) S sz88 ?_ | refine ro (.agg #[_,_]) S sz88 ?_ (ho:=rfl) (hx:=rfl) (hy:=rfl));clear S F;intro W S;(try simp only [gd88] at S);have F:=S.fc))
             go_roundg k1
             case measure=>omega
             case rel=>exact ⟨(wrap64 (x29_1 + 1)),x157002_1,x159000_1,x159001_1,(by first | rfl | (simp;done) | (simp [*];done) | (rw [w6_ (by omega) (by omega)])),(by first | exact H | (simp only [F];exact H)),(by first | omega | exact Nat.le_refl _),S.tl⟩
         · skip
           replace c30:=cne c30
           go_wp2_with (first | ((with_reducible refine gd 8 rfl (L ?_));refine al 8 S zi88 ?_;clear S F;intro gb163 W S;have F:=S.fc) | ((with_reducible refine gs (t:=88) rfl (L ?_));(first | refine sb (.agg #[_,_]) S sz88 ?_ | refine ro (.agg #[_,_]) S sz88 ?_ (ho:=rfl) (hx:=rfl) (hy:=rfl));clear S F;intro W S;(try simp only [gd88] at S);have F:=S.fc))
           refine rq S [(0,0),(1,1),(0,2),(0,3),(0,4),(0,5),(0,6),(0,7),(0,8),(0,9),(0,10),(0,11),(0,12),(0,13)] [] (h:=?_);clear S F;intro W S;have S0:=S;have F:=S.fc
           repeat (first | (refine q0 (h:=?_)) | (refine q1 S0 (h:=?_)) | (refine q0n (h:=?_)) | (refine q1n S0 (h:=?_)))
           refine oz ?_
           try clear S0
           go_wp2_with (first | ((with_reducible refine gs (t:=88) rfl (L ?_));(first | refine sb (.agg #[_,_]) S sz88 ?_ | refine ro (.agg #[_,_]) S sz88 ?_ (ho:=rfl) (hx:=rfl) (hy:=rfl));clear S F;intro W S;(try simp only [gd88] at S);have F:=S.fc))
           go_roundg k1
           case measure=>omega
           case rel=>exact ⟨(wrap64 (x29_1 + 1)),x157002_1,x159000_1,x159001_1,(by first | rfl | (simp;done) | (simp [*];done) | (rw [w6_ (by omega) (by omega)])),(by first | exact H | (simp only [F];exact H)),(by first | omega | exact Nat.le_refl _),S.tl⟩
       · skip
         obtain rfl:=Option.some.inj H
         go_wp2_with (first | ((with_reducible refine gs (t:=88) rfl (L ?_));(first | refine sb (.agg #[_,_]) S sz88 ?_ | refine ro (.agg #[_,_]) S sz88 ?_ (ho:=rfl) (hx:=rfl) (hy:=rfl));clear S F;intro W S;(try simp only [gd88] at S);have F:=S.fc))
         first | go_end0 | ((try simp only [Exit.inBlock,Exit.then]);refine bodyPost_ret (results_none rfl _ _ _) rfl ?_)
         exact ⟨(by first | rfl | (simp [e0_,e1_] <;> rfl) | (simp [*,e0_,e1_] <;> rfl)),(by first | exact S.rp | exact Kd.R_nil _ _ _ _ _),S.below,S.kept⟩
   · skip
     replace c19:=cne c19
     obtain rfl:=Option.some.inj H
     go_enter Try.func144,Try.ntmps144
     go_wp2_with (first | ((with_reducible refine gd 3 rfl (L ?_));refine bo 3 (.agg #[_,_,_]) S ?_;clear S F;intro gb156 W S;have F:=S.fc) | ((with_reducible refine gd 6 rfl (L ?_));refine al 6 S zi88 ?_;clear S F;intro gb158 W S;have F:=S.fc) | ((with_reducible refine gs (t:=88) rfl (L ?_));(first | refine sb (.agg #[_,_]) S sz88 ?_ | refine ro (.agg #[_,_]) S sz88 ?_ (ho:=rfl) (hx:=rfl) (hy:=rfl));clear S F;intro W S;(try simp only [gd88] at S);have F:=S.fc))
     first | go_end0 | ((try simp only [Exit.inBlock,Exit.then]);refine bodyPost_ret (results_none rfl _ _ _) rfl ?_)
     exact ⟨(by first | rfl | (simp [e0_,e1_] <;> rfl) | (simp [*,e0_,e1_] <;> rfl)),(by first | exact S.rp | exact Kd.R_nil _ _ _ _ _),S.below,S.kept⟩

/-! ### spec_flGo: function 135 -/
def spec_flGo.l0:Nat→List Int→Int→List (List Int)→Int→Int→Int→Int→List (S88)→Int→Int→List (S88)→Option (Int × Int × Int × Int × Int × (List (S88)) × (List (List Int)))
  | 0,_,_,_,_,_,_,_,_,_,_,_=>none
  | k + 1,x1,x2,x10,x11,x12,x170000,x170001,x170002,x178000,x178001,x178002=>if x12 < x170000 then (if x10.length < 5864062014805 then ((some (x10 ++ [(([x12,x2]:List Int))]:List (List Int))).bind fun y181=>((spec_boAt.f x178000 x178001 x178002 x12 x2).bind fun bt184=>(if bt184.1 = 5 then (some (2,x12,x2,x178000,x178001,x178002,y181)) else ((spec_paGoes.f k bt184.1 bt184.2 x11).bind fun t187=>((spec_flPass.f k x178000 x178001 x178002 x1 (wrap64 ((wrap64 (x12 * x170001)) + x2))).bind fun t188=>((spec_l1In.f (wrap64 (x2 + t187)) 0 (wrap64 (x170001 - 1))).bind fun t189=>(if t189 = true then (spec_flGo.l0 k x1 (wrap64 (x2 + t187)) y181 (wrap64 (-t187)) (wrap64 (x12 + 1)) x170000 x170001 x170002 x178000 x178001 t188) else (some (3,x12,wrap64 (x2 + t187),x178000,x178001,t188,y181))))))))) else (none)) else (some (1,x170000,x2,x178000,x178001,x178002,x10))
def spec_flGo.f (k:Nat) (a0_0:Int) (a0_1:Int) (l0_2:List (S88)) (l1:List Int) (a2:Int):Option (Int × Int × Int × Int × Int × (List (S88)) × (List (List Int))):=(spec_boOwn.f a0_0 a0_1 l0_2).bind fun bt172=>(spec_flGo.l0 k l1 a2 ([]:List (List Int)) 0 0 a0_0 a0_1 l0_2 bt172.1 bt172.2.1 bt172.2.2)
theorem spec_flGo.calls (k:Nat) (a0_0:Int) (a0_1:Int) (A0_2:Option Addr) (c0_2:Nat) (l0_2:List (S88)) (A1:Option Addr) (c1:Nat) (l1:List Int) (a2:Int) (r1:Int) (r2:Int) (r3:Int) (r4:Int) (r5:Int) (r6:List (S88)) (r7:List (List Int)) (w:World) (hr0_2:Kd.C k88 w A0_2 l0_2.length l0_2) (hc0_2:l0_2.length ≤ c0_2) (hr1:Kd.C (Kd.int .i64) w A1 l1.length l1) (hc1:l1.length ≤ c1) (h:spec_flGo.f k a0_0 a0_1 l0_2 l1 a2 = some (r1,r2,r3,r4,r5,r6,r7)) :
    Calls Try.prog 135 #[.agg #[.int .i64 a0_0,.int .i64 a0_1,.slice A0_2 l0_2.length c0_2],.slice A1 l1.length c1,.int .i64 a2] w fun e w'=>∃ v5_ v6_:Value,e = .returned (.tuple #[.agg #[.int .i64 r1,.int .i64 r2,.int .i64 r3],.agg #[.int .i64 r4,.int .i64 r5,v5_],v6_])∧Kd.R k88 88 w' w.heap.size (fun _=>True) v5_ r6∧Kd.R (Kd.slice 3 (Kd.int .i64)) 23 w' w.heap.size (fun _=>True) v6_ r7∧Below w.heap.size w w':=by
 have S:=St.init (w:=w) (dc k88_heap at88 hr0_2 hc0_2 (dc (Kd.heap_int .i64) (atI .i64) hr1 hc1 dn))
 clear hr0_2 hc0_2 hr1 hc1
 have F:=S.fc
 have H:=h;clear h;unfold spec_flGo.f at H
 replace H:=Option.bind_eq_some_iff.mp H;obtain ⟨⟨t172,t173,t174⟩,A4,H⟩:=H;(try dsimp only at H)
 go_enter Try.func135,Try.ntmps135
 go_wp2_with (first | ((with_reducible refine gd 3 rfl (L ?_));refine bo 3 (.agg #[_,_,_]) S ?_;clear S F;intro gb169 W S;have F:=S.fc) | ((with_reducible refine gd 6 rfl (L ?_));refine al 6 S zi127 ?_;clear S F;intro gb170 W S;have F:=S.fc) | ((with_reducible refine gd 7 rfl (L ?_));refine al 7 S zi50 ?_;clear S F;intro gb171 W S;have F:=S.fc) | ((with_reducible refine gate_callee (f:=111) rfl (L ?_));refine cl (some 16) Try.func111 (spec_boOwn.calls _ _ _ _ _ _ _ _ _ S.c S.n A4) (hargs:=by (simp only [ma_,mb_,mc_,F] <;> rfl)) (h:=?_);rintro e W ⟨v175,rfl,ho0,hb⟩;refine ⟨_,rfl,?_⟩;replace S:=S.got at88 hb ho0;obtain ⟨At174,ct174,rfl,S⟩:=S;clear F hb ho0;have F:=S.fc) | ((with_reducible refine gd 9 rfl (L ?_));refine al 9 S zi50 ?_;clear S F;intro gb177 W S;have F:=S.fc) | ((with_reducible refine gs (t:=50) rfl (L ?_));(first | refine sb (.agg #[_,_,_]) S sz50 ?_ | refine ro (.agg #[_,_,_]) S sz50 ?_ (ho:=rfl) (hx:=rfl) (hy:=rfl));(clear S F;intro W S;have F:=S.fc)) | ((with_reducible refine gs (t:=88) rfl (L ?_));(first | refine sb (.agg #[_,_]) S sz88 ?_ | refine ro (.agg #[_,_]) S sz88 ?_ (ho:=rfl) (hx:=rfl) (hy:=rfl));(clear S F;intro W S;have F:=S.fc)) | ((with_reducible refine gs (t:=127) rfl (L ?_));(first | refine sb (.agg #[_,_,_]) S sz127 ?_ | refine ro (.agg #[_,_,_]) S sz127 ?_ (ho:=rfl) (hx:=rfl) (hy:=rfl));(clear S F;intro W S;have F:=S.fc)))
 go_loopg [2,10,11,12] k (fun kq v2 v10 v11 v12 w'=>∃ (x2_1:Int) (x10_1:List (List Int)) (x11_1:Int) (x12_1:Int) (x171000_1:Int) (x171001_1:Int) (x171002_1:Int) (x172000_1:Int) (x172001_1:Int) (x178002_1:List (S88)) (Ax10_1:Option Addr) (cx10_1:Nat) (Ax178002_1:Option Addr) (cx178002_1:Nat),v2 = .int .i64 x2_1∧v11 = .int .i64 x11_1∧v12 = .int .i64 x12_1∧v10 = .slice Ax10_1 x10_1.length cx10_1∧spec_flGo.l0 kq l1 x2_1 x10_1 x11_1 x12_1 a0_0 a0_1 l0_2 t172 t173 x178002_1 = some (r1,r2,r3,r4,r5,r6,r7)∧kq ≤ k∧St w w (fun _=>False) [bor at88 A0_2 c0_2 l0_2,bor (atI .i64) A1 c1 l1] w'  [row (atU (d:=Kd.slice 3 (Kd.int .i64))) 23 Ax10_1 x10_1.length cx10_1 x10_1,box gb177 50 [.int .i64 t172,.int .i64 t173,.slice Ax178002_1 x178002_1.length cx178002_1],row at88 88 Ax178002_1 x178002_1.length cx178002_1 x178002_1,box gb171 50 [.int .i64 x172000_1,.int .i64 x172001_1,.slice none 0 0],box gb170 127 [.int .i64 x171000_1,.int .i64 x171001_1,.int .i64 x171002_1],box gb169 50 [.int .i64 a0_0,.int .i64 a0_1,.slice A0_2 l0_2.length c0_2]])
 case atStart=>exact ⟨a2,_,0,0,0,0,0,0,0,t174,_,_,_,_,(by first | rfl | (simp;done) | (simp [*];done) | (rw [w6_ (by omega) (by omega)])),(by first | rfl | (simp;done) | (simp [*];done) | (rw [w6_ (by omega) (by omega)])),(by first | rfl | (simp;done) | (simp [*];done) | (rw [w6_ (by omega) (by omega)])),rfl,H,Nat.le_refl _,(S.nl (e:=23) (atU (d:=Kd.slice 3 (Kd.int .i64))))⟩
 case round =>
  clear H S F
  obtain ⟨x2_1,x10_1,x11_1,x12_1,x171000_1,x171001_1,x171002_1,x172000_1,x172001_1,x178002_1,Ax10_1,cx10_1,Ax178002_1,cx178002_1,rfl,rfl,rfl,rfl,HA,HK1,S⟩:=hrel
  have F:=S.fc
  cases gk with
  | zero=>exact absurd HA (by simp [spec_flGo.l0])
  | succ k1 =>
   have H:=HA;clear HA;simp only [spec_flGo.l0,F] at H
   replace H:=sp_ H;rcases H with ⟨c18,H⟩ | ⟨c18,H⟩
   · skip
     (first | (with_reducible replace H:=ob_ H;obtain ⟨y178,hy178,H⟩:=H;(try dsimp only at H)) | (obtain ⟨y178,hy178⟩:∃ y_:List Int,y_ = (([x12_1,x2_1]:List Int)):=⟨_,rfl⟩;(try rw [← hy178] at H);(try simp only [Option.bind_some] at H)));have Ny178:=Aside0.mk hy178;clear hy178
     replace H:=np_ H;obtain ⟨c19,H⟩:=H
     (first | (with_reducible replace H:=ob_ H;obtain ⟨y181,hy181,H⟩:=H;(try dsimp only at H)) | (obtain ⟨y181,hy181⟩:∃ y_:List (List Int),y_ = (x10_1 ++ [y178]):=⟨_,rfl⟩;(try rw [← hy181] at H);(try simp only [Option.bind_some] at H)));have Ny181:=Aside0.mk hy181;clear hy181
     replace H:=Option.bind_eq_some_iff.mp H;obtain ⟨⟨t184,t185⟩,A20,H⟩:=H;(try dsimp only at H)
     replace H:=sp_ H;rcases H with ⟨c21,H⟩ | ⟨c21,H⟩
     · skip
       replace c21:=ceq c21
       simp only [Option.some.injEq,Prod.mk.injEq] at H
       obtain ⟨rfl,rfl,rfl,rfl,rfl,rfl,rfl⟩:=H
       go_wp2_with (first | ((with_reducible refine gd 26 rfl (L ?_));refine lia 26 (atI .i64) 3 S ([x12_1,x2_1]:List Int) (fun _ _=>(Reps.one (show Kd.M (Kd.int .i64) _ _ _ x12_1 [.int .i64 x12_1] from rfl) (Reps.one (show Kd.M (Kd.int .i64) _ _ _ x2_1 [.int .i64 x2_1] from rfl) (Reps.none _ _)))) (by first | (go_simp;done) | (go_simp;rfl)) ?_;clear S F;intro Ay178 cy178 W S;(try rw [← Ny178.out] at S ⊢);(try rw [← Ny181.out] at S ⊢);have F:=S.fc) | ((with_reducible refine gd 28 rfl (L ?_));refine apm (A:=Ax10_1) (A2:=Ay178) 28 S Try.underlying42 info23 ?_ (ho:=rfl) (hs:=rfl) (hx:=rfl);clear S F;intro Ay181 cy181 W S;(try rw [← Ny178.out] at S ⊢);(try rw [← Ny181.out] at S ⊢);have F:=S.fc) | ((with_reducible refine gate_callee (f:=142) rfl (L ?_));refine cl (some 32) Try.func142 (spec_boAt.calls _ _ _ _ _ _ _ _ _ _ S.c S.n A20) (hargs:=by (simp only [ma_,mb_,mc_,F] <;> rfl)) (h:=?_);rintro e W ⟨rfl,hb⟩;refine ⟨_,rfl,?_⟩;replace S:=S.go hb;clear F hb;have F:=S.fc) | ((with_reducible refine gd 13 rfl (L ?_));refine al 13 S zi88 ?_;clear S F;intro gb186 W S;have F:=S.fc) | ((with_reducible refine gs (t:=50) rfl (L ?_));(first | refine sb (.agg #[_,_,_]) S sz50 ?_ | refine ro (.agg #[_,_,_]) S sz50 ?_ (ho:=rfl) (hx:=rfl) (hy:=rfl));clear S F;intro W S;(try rw [← Ny178.out] at S);(try rw [← Ny181.out] at S);have F:=S.fc) | ((with_reducible refine gs (t:=88) rfl (L ?_));(first | refine sb (.agg #[_,_]) S sz88 ?_ | refine ro (.agg #[_,_]) S sz88 ?_ (ho:=rfl) (hx:=rfl) (hy:=rfl));clear S F;intro W S;(try rw [← Ny178.out] at S);(try rw [← Ny181.out] at S);have F:=S.fc) | ((with_reducible refine gs (t:=127) rfl (L ?_));(first | refine sb (.agg #[_,_,_]) S sz127 ?_ | refine ro (.agg #[_,_,_]) S sz127 ?_ (ho:=rfl) (hx:=rfl) (hy:=rfl));clear S F;intro W S;(try rw [← Ny178.out] at S);(try rw [← Ny181.out] at S);have F:=S.fc))
       refine rgP S (fun _ S=>(S.ms [1,1,1,1,1,0,0])) [(0,0),(0,1),(0,2),(0,4),(1,3),(2,5),(2,6),(0,7)] [] (by kernel_rfl) (by kernel_rfl) (fun _ d _ _ _ h=>by cases d <;> exact h) ?_;clear S F;intro W S;have S0:=(S.ms [1,1,1,1,1,0,0]);have F:=S.fc
       repeat (first | (refine q0 (h:=?_)) | (refine q1 S0 (h:=?_)) | (refine q0n (h:=?_)) | (refine q1n S0 (h:=?_)))
       refine lk2 (by rfl) (by exact (Eq.refl true)) ?_;(first | refine sb (.agg #[_,_,_]) S sz50 ?_ | refine ro (.agg #[_,_,_]) S sz50 ?_ (ho:=rfl) (hx:=rfl) (hy:=rfl) | refine sb (.agg #[_,_]) S sz88 ?_ | refine ro (.agg #[_,_]) S sz88 ?_ (ho:=rfl) (hx:=rfl) (hy:=rfl) | refine sb (.agg #[_,_,_]) S sz127 ?_ | refine ro (.agg #[_,_,_]) S sz127 ?_ (ho:=rfl) (hx:=rfl) (hy:=rfl));clear S F;intro W S;(try rw [← Ny178.out] at S);(try rw [← Ny181.out] at S);have F:=S.fc
       clear S0;have S0:=(S.ms [1,1,1,1,1,0,0]);refine ⟨S0,?_⟩
       refine lk2 (by rfl) (by exact (Eq.refl true)) ?_;(first | refine sb (.agg #[_,_,_]) S sz50 ?_ | refine ro (.agg #[_,_,_]) S sz50 ?_ (ho:=rfl) (hx:=rfl) (hy:=rfl) | refine sb (.agg #[_,_]) S sz88 ?_ | refine ro (.agg #[_,_]) S sz88 ?_ (ho:=rfl) (hx:=rfl) (hy:=rfl) | refine sb (.agg #[_,_,_]) S sz127 ?_ | refine ro (.agg #[_,_,_]) S sz127 ?_ (ho:=rfl) (hx:=rfl) (hy:=rfl));clear S F;intro W S;(try rw [← Ny178.out] at S);(try rw [← Ny181.out] at S);have F:=S.fc
       clear S0;have S0:=(S.ms [1,1,1,1,1,0,0]);refine ⟨S0,?_⟩
       repeat (first | (refine q0 (h:=?_)) | (refine q1 S0 (h:=?_)) | (refine q0n (h:=?_)) | (refine q1n S0 (h:=?_)))
       refine oz ?_
       try clear S0
       go_wp2_with (first | ((with_reducible refine gs (t:=50) rfl (L ?_));(first | refine sb (.agg #[_,_,_]) S sz50 ?_ | refine ro (.agg #[_,_,_]) S sz50 ?_ (ho:=rfl) (hx:=rfl) (hy:=rfl));clear S F;intro W S;(try rw [← Ny178.out] at S);(try rw [← Ny181.out] at S);have F:=S.fc) | ((with_reducible refine gs (t:=88) rfl (L ?_));(first | refine sb (.agg #[_,_]) S sz88 ?_ | refine ro (.agg #[_,_]) S sz88 ?_ (ho:=rfl) (hx:=rfl) (hy:=rfl));clear S F;intro W S;(try rw [← Ny178.out] at S);(try rw [← Ny181.out] at S);have F:=S.fc) | ((with_reducible refine gs (t:=127) rfl (L ?_));(first | refine sb (.agg #[_,_,_]) S sz127 ?_ | refine ro (.agg #[_,_,_]) S sz127 ?_ (ho:=rfl) (hx:=rfl) (hy:=rfl));clear S F;intro W S;(try rw [← Ny178.out] at S);(try rw [← Ny181.out] at S);have F:=S.fc))
       refine bodyPost_ret (results_list (rs:=[.cell 6 127,.cell 7 50,.tmp 8]) rfl (by simp) (.cell gb170 127 #[.int .i64 2,.int .i64 x12_1,.int .i64 x2_1] (0,0) _ rfl S.hb Try.underlying127 rfl (by kernel_rfl) (.cell gb171 50 #[.int .i64 t172,.int .i64 t173,.slice Ax178002_1 x178002_1.length cx178002_1] (0,0) _ rfl S.hb Try.underlying50 rfl (by kernel_rfl) (.tmp .nil)))) rfl ?_
       exact ⟨_,_,(by first | rfl | (simp [e0_,e1_] <;> rfl) | (simp [*,e0_,e1_] <;> rfl)),(by first | exact S.r | exact Kd.R_nil _ _ _ _ _),(by first | exact S.r | exact Kd.R_nil _ _ _ _ _),S.below⟩
     · skip
       replace c21:=cne c21
       replace H:=Option.bind_eq_some_iff.mp H;obtain ⟨t187,A49,H⟩:=H;(try dsimp only at H)
       replace H:=Option.bind_eq_some_iff.mp H;obtain ⟨t188,A50,H⟩:=H;(try dsimp only at H)
       replace H:=Option.bind_eq_some_iff.mp H;obtain ⟨t189,A51,H⟩:=H;(try dsimp only at H)
       replace H:=sp_ H;rcases H with ⟨c52,H⟩ | ⟨c52,H⟩
       · skip
         subst c52
         go_wp2_with (first | ((with_reducible refine gd 26 rfl (L ?_));refine lia 26 (atI .i64) 3 S ([x12_1,x2_1]:List Int) (fun _ _=>(Reps.one (show Kd.M (Kd.int .i64) _ _ _ x12_1 [.int .i64 x12_1] from rfl) (Reps.one (show Kd.M (Kd.int .i64) _ _ _ x2_1 [.int .i64 x2_1] from rfl) (Reps.none _ _)))) (by first | (go_simp;done) | (go_simp;rfl)) ?_;clear S F;intro Ay178 cy178 W S;(try rw [← Ny178.out] at S ⊢);(try rw [← Ny181.out] at S ⊢);have F:=S.fc) | ((with_reducible refine gd 28 rfl (L ?_));refine apm (A:=Ax10_1) (A2:=Ay178) 28 S Try.underlying42 info23 ?_ (ho:=rfl) (hs:=rfl) (hx:=rfl);clear S F;intro Ay181 cy181 W S;(try rw [← Ny178.out] at S ⊢);(try rw [← Ny181.out] at S ⊢);have F:=S.fc) | ((with_reducible refine gate_callee (f:=142) rfl (L ?_));refine cl (some 32) Try.func142 (spec_boAt.calls _ _ _ _ _ _ _ _ _ _ S.c S.n A20) (hargs:=by (simp only [ma_,mb_,mc_,F] <;> rfl)) (h:=?_);rintro e W ⟨rfl,hb⟩;refine ⟨_,rfl,?_⟩;replace S:=S.go hb;clear F hb;have F:=S.fc) | ((with_reducible refine gd 13 rfl (L ?_));refine al 13 S zi88 ?_;clear S F;intro gb186 W S;have F:=S.fc) | ((with_reducible refine gate_callee (f:=143) rfl (L ?_));refine cl (some 43) Try.func143 (spec_paGoes.calls _ _ _ _ _ _ A49) (hargs:=by (simp only [ma_,mb_,mc_,F] <;> rfl)) (h:=?_);rintro e W ⟨rfl,hb⟩;refine ⟨_,rfl,?_⟩;replace S:=S.go hb;clear F hb;have F:=S.fc) | ((with_reducible refine gate_callee (f:=144) rfl (L ?_));obtain ⟨ok_,k_⟩:=S.lend (A:=Ax178002_1);refine cl (some 52) Try.func144 (spec_flPass.calls _ _ _ ok_ _ _ _ _ _ _ _ _ _ k_.below k_.own k_.c k_.n A50) (hargs:=by (simp only [ma_,mb_,mc_,F] <;> rfl)) (h:=?_);rintro e W ⟨rfl,hy,hb,hk⟩;refine ⟨_,rfl,?_⟩;clear S F;have S:=k_.back _ _ hy hb hk;clear k_ hy hb hk ok_;have F:=S.fc) | ((with_reducible refine gate_callee (f:=89) rfl (L ?_));refine cl (some 62) Try.func89 (spec_l1In.calls _ _ _ _ _ A51) (hargs:=by (simp only [ma_,mb_,mc_,F] <;> rfl)) (h:=?_);rintro e W ⟨rfl,hb⟩;refine ⟨_,rfl,?_⟩;replace S:=S.gw hb;clear F hb;have F:=S.fc) | ((with_reducible refine gs (t:=50) rfl (L ?_));(first | refine sb (.agg #[_,_,_]) S sz50 ?_ | refine ro (.agg #[_,_,_]) S sz50 ?_ (ho:=rfl) (hx:=rfl) (hy:=rfl));clear S F;intro W S;(try rw [← Ny178.out] at S);(try rw [← Ny181.out] at S);have F:=S.fc) | ((with_reducible refine gs (t:=88) rfl (L ?_));(first | refine sb (.agg #[_,_]) S sz88 ?_ | refine ro (.agg #[_,_]) S sz88 ?_ (ho:=rfl) (hx:=rfl) (hy:=rfl));clear S F;intro W S;(try rw [← Ny178.out] at S);(try rw [← Ny181.out] at S);have F:=S.fc) | ((with_reducible refine gs (t:=127) rfl (L ?_));(first | refine sb (.agg #[_,_,_]) S sz127 ?_ | refine ro (.agg #[_,_,_]) S sz127 ?_ (ho:=rfl) (hx:=rfl) (hy:=rfl));clear S F;intro W S;(try rw [← Ny178.out] at S);(try rw [← Ny181.out] at S);have F:=S.fc))
         go_roundg k1
         case measure=>omega
         case rel=>(try rw [← (show t188.length = x178002_1.length by simp only [F])] at S);exact ⟨(wrap64 (x2_1 + t187)),y181,(wrap64 (-t187)),(wrap64 (x12_1 + 1)),x171000_1,x171001_1,x171002_1,x172000_1,x172001_1,t188,_,_,_,_,(by first | rfl | (simp;done) | (simp [*];done) | (rw [w6_ (by omega) (by omega)])),(by first | rfl | (simp;done) | (simp [*];done) | (rw [w6_ (by omega) (by omega)])),(by first | rfl | (simp;done) | (simp [*];done) | (rw [w6_ (by omega) (by omega)])),(by first | rfl | simp only [F]),H,(by first | omega | exact Nat.le_refl _),S.tl.tl⟩
       · skip
         replace c52:=cbf c52;subst c52
         simp only [Option.some.injEq,Prod.mk.injEq] at H
         obtain ⟨rfl,rfl,rfl,rfl,rfl,rfl,rfl⟩:=H
         go_wp2_with (first | ((with_reducible refine gd 26 rfl (L ?_));refine lia 26 (atI .i64) 3 S ([x12_1,x2_1]:List Int) (fun _ _=>(Reps.one (show Kd.M (Kd.int .i64) _ _ _ x12_1 [.int .i64 x12_1] from rfl) (Reps.one (show Kd.M (Kd.int .i64) _ _ _ x2_1 [.int .i64 x2_1] from rfl) (Reps.none _ _)))) (by first | (go_simp;done) | (go_simp;rfl)) ?_;clear S F;intro Ay178 cy178 W S;(try rw [← Ny178.out] at S ⊢);(try rw [← Ny181.out] at S ⊢);have F:=S.fc) | ((with_reducible refine gd 28 rfl (L ?_));refine apm (A:=Ax10_1) (A2:=Ay178) 28 S Try.underlying42 info23 ?_ (ho:=rfl) (hs:=rfl) (hx:=rfl);clear S F;intro Ay181 cy181 W S;(try rw [← Ny178.out] at S ⊢);(try rw [← Ny181.out] at S ⊢);have F:=S.fc) | ((with_reducible refine gate_callee (f:=142) rfl (L ?_));refine cl (some 32) Try.func142 (spec_boAt.calls _ _ _ _ _ _ _ _ _ _ S.c S.n A20) (hargs:=by (simp only [ma_,mb_,mc_,F] <;> rfl)) (h:=?_);rintro e W ⟨rfl,hb⟩;refine ⟨_,rfl,?_⟩;replace S:=S.go hb;clear F hb;have F:=S.fc) | ((with_reducible refine gd 13 rfl (L ?_));refine al 13 S zi88 ?_;clear S F;intro gb186 W S;have F:=S.fc) | ((with_reducible refine gate_callee (f:=143) rfl (L ?_));refine cl (some 43) Try.func143 (spec_paGoes.calls _ _ _ _ _ _ A49) (hargs:=by (simp only [ma_,mb_,mc_,F] <;> rfl)) (h:=?_);rintro e W ⟨rfl,hb⟩;refine ⟨_,rfl,?_⟩;replace S:=S.go hb;clear F hb;have F:=S.fc) | ((with_reducible refine gate_callee (f:=144) rfl (L ?_));obtain ⟨ok_,k_⟩:=S.lend (A:=Ax178002_1);refine cl (some 52) Try.func144 (spec_flPass.calls _ _ _ ok_ _ _ _ _ _ _ _ _ _ k_.below k_.own k_.c k_.n A50) (hargs:=by (simp only [ma_,mb_,mc_,F] <;> rfl)) (h:=?_);rintro e W ⟨rfl,hy,hb,hk⟩;refine ⟨_,rfl,?_⟩;clear S F;have S:=k_.back _ _ hy hb hk;clear k_ hy hb hk ok_;have F:=S.fc) | ((with_reducible refine gate_callee (f:=89) rfl (L ?_));refine cl (some 62) Try.func89 (spec_l1In.calls _ _ _ _ _ A51) (hargs:=by (simp only [ma_,mb_,mc_,F] <;> rfl)) (h:=?_);rintro e W ⟨rfl,hb⟩;refine ⟨_,rfl,?_⟩;replace S:=S.gw hb;clear F hb;have F:=S.fc) | ((with_reducible refine gs (t:=50) rfl (L ?_));(first | refine sb (.agg #[_,_,_]) S sz50 ?_ | refine ro (.agg #[_,_,_]) S sz50 ?_ (ho:=rfl) (hx:=rfl) (hy:=rfl));clear S F;intro W S;(try rw [← Ny178.out] at S);(try rw [← Ny181.out] at S);have F:=S.fc) | ((with_reducible refine gs (t:=88) rfl (L ?_));(first | refine sb (.agg #[_,_]) S sz88 ?_ | refine ro (.agg #[_,_]) S sz88 ?_ (ho:=rfl) (hx:=rfl) (hy:=rfl));clear S F;intro W S;(try rw [← Ny178.out] at S);(try rw [← Ny181.out] at S);have F:=S.fc) | ((with_reducible refine gs (t:=127) rfl (L ?_));(first | refine sb (.agg #[_,_,_]) S sz127 ?_ | refine ro (.agg #[_,_,_]) S sz127 ?_ (ho:=rfl) (hx:=rfl) (hy:=rfl));clear S F;intro W S;(try rw [← Ny178.out] at S);(try rw [← Ny181.out] at S);have F:=S.fc))
         refine rgP S (fun _ S=>(S.ms [1,1,1,1,1,0,0])) [(0,0),(0,1),(0,2),(0,4),(1,3),(2,5),(2,6),(0,7)] [] (by kernel_rfl) (by kernel_rfl) (fun _ d _ _ _ h=>by cases d <;> exact h) ?_;clear S F;intro W S;have S0:=(S.ms [1,1,1,1,1,0,0]);have F:=S.fc
         repeat (first | (refine q0 (h:=?_)) | (refine q1 S0 (h:=?_)) | (refine q0n (h:=?_)) | (refine q1n S0 (h:=?_)))
         refine lk2 (by rfl) (by exact (Eq.refl true)) ?_;(first | refine sb (.agg #[_,_,_]) S sz50 ?_ | refine ro (.agg #[_,_,_]) S sz50 ?_ (ho:=rfl) (hx:=rfl) (hy:=rfl) | refine sb (.agg #[_,_]) S sz88 ?_ | refine ro (.agg #[_,_]) S sz88 ?_ (ho:=rfl) (hx:=rfl) (hy:=rfl) | refine sb (.agg #[_,_,_]) S sz127 ?_ | refine ro (.agg #[_,_,_]) S sz127 ?_ (ho:=rfl) (hx:=rfl) (hy:=rfl));clear S F;intro W S;(try rw [← Ny178.out] at S);(try rw [← Ny181.out] at S);have F:=S.fc
         clear S0;have S0:=(S.ms [1,1,1,1,1,0,0]);refine ⟨S0,?_⟩
         refine lk2 (by rfl) (by exact (Eq.refl true)) ?_;(first | refine sb (.agg #[_,_,_]) S sz50 ?_ | refine ro (.agg #[_,_,_]) S sz50 ?_ (ho:=rfl) (hx:=rfl) (hy:=rfl) | refine sb (.agg #[_,_]) S sz88 ?_ | refine ro (.agg #[_,_]) S sz88 ?_ (ho:=rfl) (hx:=rfl) (hy:=rfl) | refine sb (.agg #[_,_,_]) S sz127 ?_ | refine ro (.agg #[_,_,_]) S sz127 ?_ (ho:=rfl) (hx:=rfl) (hy:=rfl));clear S F;intro W S;(try rw [← Ny178.out] at S);(try rw [← Ny181.out] at S);have F:=S.fc
         clear S0;have S0:=(S.ms [1,1,1,1,1,0,0]);refine ⟨S0,?_⟩
         repeat (first | (refine q0 (h:=?_)) | (refine q1 S0 (h:=?_)) | (refine q0n (h:=?_)) | (refine q1n S0 (h:=?_)))
         refine oz ?_
         try clear S0
         go_wp2_with (first | ((with_reducible refine gs (t:=50) rfl (L ?_));(first | refine sb (.agg #[_,_,_]) S sz50 ?_ | refine ro (.agg #[_,_,_]) S sz50 ?_ (ho:=rfl) (hx:=rfl) (hy:=rfl));clear S F;intro W S;(try rw [← Ny178.out] at S);(try rw [← Ny181.out] at S);have F:=S.fc) | ((with_reducible refine gs (t:=88) rfl (L ?_));(first | refine sb (.agg #[_,_]) S sz88 ?_ | refine ro (.agg #[_,_]) S sz88 ?_ (ho:=rfl) (hx:=rfl) (hy:=rfl));clear S F;intro W S;(try rw [← Ny178.out] at S);(try rw [← Ny181.out] at S);have F:=S.fc) | ((with_reducible refine gs (t:=127) rfl (L ?_));(first | refine sb (.agg #[_,_,_]) S sz127 ?_ | refine ro (.agg #[_,_,_]) S sz127 ?_ (ho:=rfl) (hx:=rfl) (hy:=rfl));clear S F;intro W S;(try rw [← Ny178.out] at S);(try rw [← Ny181.out] at S);have F:=S.fc))
         refine bodyPost_ret (results_list (rs:=[.cell 6 127,.cell 7 50,.tmp 8]) rfl (by simp) (.cell gb170 127 #[.int .i64 3,.int .i64 x12_1,.int .i64 (wrap64 (x2_1 + t187))] (0,0) _ rfl S.hb Try.underlying127 rfl (by kernel_rfl) (.cell gb171 50 #[.int .i64 t172,.int .i64 t173,.slice Ax178002_1 x178002_1.length cx178002_1] (0,0) _ rfl S.hb Try.underlying50 rfl (by kernel_rfl) (.tmp .nil)))) rfl ?_
         exact ⟨_,_,(by first | rfl | (simp [e0_,e1_] <;> rfl) | (simp [*,e0_,e1_] <;> rfl)),(by first | exact S.r | exact Kd.R_nil _ _ _ _ _),(by first | exact S.r | exact Kd.R_nil _ _ _ _ _),S.below⟩
   · skip
     simp only [Option.some.injEq,Prod.mk.injEq] at H
     obtain ⟨rfl,rfl,rfl,rfl,rfl,rfl,rfl⟩:=H
     go_wp2_with (first | ((with_reducible refine gs (t:=50) rfl (L ?_));(first | refine sb (.agg #[_,_,_]) S sz50 ?_ | refine ro (.agg #[_,_,_]) S sz50 ?_ (ho:=rfl) (hx:=rfl) (hy:=rfl));(clear S F;intro W S;have F:=S.fc)) | ((with_reducible refine gs (t:=88) rfl (L ?_));(first | refine sb (.agg #[_,_]) S sz88 ?_ | refine ro (.agg #[_,_]) S sz88 ?_ (ho:=rfl) (hx:=rfl) (hy:=rfl));(clear S F;intro W S;have F:=S.fc)) | ((with_reducible refine gs (t:=127) rfl (L ?_));(first | refine sb (.agg #[_,_,_]) S sz127 ?_ | refine ro (.agg #[_,_,_]) S sz127 ?_ (ho:=rfl) (hx:=rfl) (hy:=rfl));(clear S F;intro W S;have F:=S.fc)))
     refine rgP S (fun _ S=>(S.pm [0,1,2,5])) [(0,0),(0,2),(0,5),(1,1),(0,3),(1,4),(2,6),(2,7),(0,8)] [] (by kernel_rfl) (by kernel_rfl) (fun _ d _ _ _ h=>by cases d <;> exact h) ?_;clear S F;intro W S;have S0:=(S.pm [0,1,2,5]);have F:=S.fc
     repeat (first | (refine q0 (h:=?_)) | (refine q1 S0 (h:=?_)) | (refine q0n (h:=?_)) | (refine q1n S0 (h:=?_)))
     refine lk2 (by rfl) (by exact (Eq.refl true)) ?_;(first | refine sb (.agg #[_,_,_]) S sz50 ?_ | refine ro (.agg #[_,_,_]) S sz50 ?_ (ho:=rfl) (hx:=rfl) (hy:=rfl) | refine sb (.agg #[_,_]) S sz88 ?_ | refine ro (.agg #[_,_]) S sz88 ?_ (ho:=rfl) (hx:=rfl) (hy:=rfl) | refine sb (.agg #[_,_,_]) S sz127 ?_ | refine ro (.agg #[_,_,_]) S sz127 ?_ (ho:=rfl) (hx:=rfl) (hy:=rfl));(clear S F;intro W S;have F:=S.fc)
     clear S0;have S0:=(S.pm [0,1,2,5]);refine ⟨S0,?_⟩
     refine lk2 (by rfl) (by exact (Eq.refl true)) ?_;(first | refine sb (.agg #[_,_,_]) S sz50 ?_ | refine ro (.agg #[_,_,_]) S sz50 ?_ (ho:=rfl) (hx:=rfl) (hy:=rfl) | refine sb (.agg #[_,_]) S sz88 ?_ | refine ro (.agg #[_,_]) S sz88 ?_ (ho:=rfl) (hx:=rfl) (hy:=rfl) | refine sb (.agg #[_,_,_]) S sz127 ?_ | refine ro (.agg #[_,_,_]) S sz127 ?_ (ho:=rfl) (hx:=rfl) (hy:=rfl));(clear S F;intro W S;have F:=S.fc)
     clear S0;have S0:=(S.pm [0,1,2,5]);refine ⟨S0,?_⟩
     repeat (first | (refine q0 (h:=?_)) | (refine q1 S0 (h:=?_)) | (refine q0n (h:=?_)) | (refine q1n S0 (h:=?_)))
     refine oz ?_
     try clear S0
     go_wp2_with (first | ((with_reducible refine gs (t:=50) rfl (L ?_));(first | refine sb (.agg #[_,_,_]) S sz50 ?_ | refine ro (.agg #[_,_,_]) S sz50 ?_ (ho:=rfl) (hx:=rfl) (hy:=rfl));(clear S F;intro W S;have F:=S.fc)) | ((with_reducible refine gs (t:=88) rfl (L ?_));(first | refine sb (.agg #[_,_]) S sz88 ?_ | refine ro (.agg #[_,_]) S sz88 ?_ (ho:=rfl) (hx:=rfl) (hy:=rfl));(clear S F;intro W S;have F:=S.fc)) | ((with_reducible refine gs (t:=127) rfl (L ?_));(first | refine sb (.agg #[_,_,_]) S sz127 ?_ | refine ro (.agg #[_,_,_]) S sz127 ?_ (ho:=rfl) (hx:=rfl) (hy:=rfl));(clear S F;intro W S;have F:=S.fc)))
     refine bodyPost_ret (results_list (rs:=[.cell 6 127,.cell 7 50,.tmp 8]) rfl (by simp) (.cell gb170 127 #[.int .i64 1,.int .i64 a0_0,.int .i64 x2_1] (0,0) _ rfl S.hb Try.underlying127 rfl (by kernel_rfl) (.cell gb171 50 #[.int .i64 t172,.int .i64 t173,.slice Ax178002_1 x178002_1.length cx178002_1] (0,0) _ rfl S.hb Try.underlying50 rfl (by kernel_rfl) (.tmp .nil)))) rfl ?_
     exact ⟨_,_,(by first | rfl | (simp [e0_,e1_] <;> rfl) | (simp [*,e0_,e1_] <;> rfl)),(by first | exact S.r | exact Kd.R_nil _ _ _ _ _),(by first | exact S.r | exact Kd.R_nil _ _ _ _ _),S.below⟩

/-! ### spec_ggGear: function 145 -/
def spec_ggGear.f (a0_0:Int) (a0_1:Int):Option (Bool):=if a0_0 = 6 then (some true) else (some (a0_0 == 7))
theorem spec_ggGear.calls (a0_0:Int) (a0_1:Int) (r:Bool) (w:World) (h:spec_ggGear.f a0_0 a0_1 = some r) :
    Calls Try.prog 145 #[.agg #[.int .i64 a0_0,.int .i64 a0_1]] w fun e w'=>e = .returned (.bool r)∧Below w.heap.size w w':=by
 have S:=St.init (w:=w) dn
 have F:=S.fc
 have H:=h;clear h;unfold spec_ggGear.f at H
 replace H:=sp_ H;rcases H with ⟨c2,H⟩ | ⟨c2,H⟩
 · skip
   replace c2:=ceq c2
   obtain rfl:=Option.some.inj H
   go_enter Try.func145,Try.ntmps145
   go_wp2_with (first | ((with_reducible refine gd 1 rfl (L ?_));refine bo 1 (.agg #[_,_]) S ?_;clear S F;intro gb190 W S;have F:=S.fc))
   go_ret
   exact ⟨(by first | rfl | (simp [e0_,e1_] <;> rfl) | (simp [*,e0_,e1_] <;> rfl)),S.below⟩
 · skip
   replace c2:=cne c2
   obtain rfl:=Option.some.inj H
   go_enter Try.func145,Try.ntmps145
   go_wp2_with (first | ((with_reducible refine gd 1 rfl (L ?_));refine bo 1 (.agg #[_,_]) S ?_;clear S F;intro gb190 W S;have F:=S.fc))
   go_ret
   exact ⟨(by first | rfl | (simp [e0_,e1_] <;> rfl) | (simp [*,e0_,e1_] <;> rfl)),S.below⟩

/-! ### spec_ggNear: function 146 -/
mutual
def spec_ggNear.j0:Nat→Int→Int→Int→List Int→Int→Int→List (S88)→Option (List Int)
  | 0,_,_,_,_,_,_,_=>none
  | k + 1,x1,x5,x6,x7,x192000,x192001,x192002=>if x6 > 0 then (if x7.length < 17592186044416 then (spec_ggNear.j1 k x1 x5 x6 (x7 ++ [wrap64 (x1 - 1)]) x192000 x192001 x192002) else (none)) else (spec_ggNear.j1 k x1 x5 x6 x7 x192000 x192001 x192002)
def spec_ggNear.j1:Nat→Int→Int→Int→List Int→Int→Int→List (S88)→Option (List Int)
  | 0,_,_,_,_,_,_,_=>none
  | k + 1,x1,x5,x6,x7,x192000,x192001,x192002=>if (wrap64 (x6 + 1)) < x192001 then (if x7.length < 17592186044416 then ((some (x7 ++ [wrap64 (x1 + 1)]:List Int)).bind fun y198=>(if (wrap64 (x5 + 1)) < x192000 then (if y198.length < 17592186044416 then (some (y198 ++ [wrap64 (x1 + x192001)])) else (none)) else (some y198))) else (none)) else (if (wrap64 (x5 + 1)) < x192000 then (if x7.length < 17592186044416 then (some (x7 ++ [wrap64 (x1 + x192001)])) else (none)) else (some x7))
end
def spec_ggNear.f (k:Nat) (a0_0:Int) (a0_1:Int) (l0_2:List (S88)) (a1:Int):Option (List Int):=if a0_1 = 0 then (none) else (if (wrap64 (Int.tdiv a1 a0_1)) > 0 then (if ([]:List Int).length < 17592186044416 then (spec_ggNear.j0 k a1 (wrap64 (Int.tdiv a1 a0_1)) (Int.tmod a1 a0_1) (([]:List Int) ++ [wrap64 (a1 - a0_1)]) a0_0 a0_1 l0_2) else (none)) else (spec_ggNear.j0 k a1 (wrap64 (Int.tdiv a1 a0_1)) (Int.tmod a1 a0_1) ([]:List Int) a0_0 a0_1 l0_2))
theorem spec_ggNear.calls (k:Nat) (a0_0:Int) (a0_1:Int) (A0_2:Option Addr) (c0_2:Nat) (l0_2:List (S88)) (a1:Int) (r:List Int) (w:World) (hr0_2:Kd.C k88 w A0_2 l0_2.length l0_2) (hc0_2:l0_2.length ≤ c0_2) (h:spec_ggNear.f k a0_0 a0_1 l0_2 a1 = some r) :
    Calls Try.prog 146 #[.agg #[.int .i64 a0_0,.int .i64 a0_1,.slice A0_2 l0_2.length c0_2],.int .i64 a1] w fun e w'=>∃ v0_:Value,e = .returned (v0_)∧Kd.R (Kd.int .i64) 3 w' w.heap.size (fun _=>True) v0_ r∧Below w.heap.size w w':=by
 have S:=St.init (w:=w) (dc k88_heap at88 hr0_2 hc0_2 dn)
 clear hr0_2 hc0_2
 have F:=S.fc
 have H:=h;clear h;unfold spec_ggNear.f at H
 replace H:=nn_ H;obtain ⟨c3,H⟩:=H
 replace c3:=cne c3
 go_enter Try.func146,Try.ntmps146
 go_upto_if 17 with (first | ((with_reducible refine gd 2 rfl (L ?_));refine bo 2 (.agg #[_,_,_]) S ?_;clear S F;intro gb191 W S;have F:=S.fc))
 go_upto_if 17 with (first | ((with_reducible refine gd 2 rfl (L ?_));refine bo 2 (.agg #[_,_,_]) S ?_;clear S F;intro gb191 W S;have F:=S.fc) | ((with_reducible refine gd 2 rfl (L ?_));refine bo 2 (.agg #[_,_,_]) S ?_;clear S F;intro gb191 W S;have F:=S.fc) | ((refine rq (id:=1) S [(0,0),(0,1),(0,4),(0,5),(1,2),(0,3),(0,8),(1,6),(0,7),(0,9)] [] (h:=?_);clear S F;intro W S;have S0:=S;have F:=S.fc)) | (refine q0 (h:=?_)) | (refine q1 S0 (h:=?_)) | (refine q0n (h:=?_)) | (refine q1n S0 (h:=?_)) | refine oz ?_)
 (try simp only [Act.put,List.setIfInBounds_toArray,List.set_cons_zero,List.set_cons_succ])
 go_cut [7] (fun v7 wc=>∃ (kq:Nat) (x7_3:List Int) (Ax7_3:Option Addr) (cx7_3:Nat),v7 = .slice Ax7_3 x7_3.length cx7_3∧spec_ggNear.j0 kq a1 (wrap64 (Int.tdiv a1 a0_1)) (Int.tmod a1 a0_1) x7_3 a0_0 a0_1 l0_2 = some r∧kq ≤ k∧St w w (fun _=>False) [bor at88 A0_2 c0_2 l0_2] wc  [row (atI .i64) 3 Ax7_3 x7_3.length cx7_3 x7_3,box gb191 50 [.int .i64 a0_0,.int .i64 a0_1,.slice A0_2 l0_2.length c0_2]])
 case first =>
  replace H:=sp_ H;rcases H with ⟨c7,H⟩ | ⟨c7,H⟩
  · skip
    replace H:=np_ H;obtain ⟨c8,H⟩:=H
    (first | (with_reducible replace H:=ob_ H;obtain ⟨y192,hy192,H⟩:=H;(try dsimp only at H)) | (obtain ⟨y192,hy192⟩:∃ y_:List Int,y_ = (([]:List Int) ++ [wrap64 (a1 - a0_1)]):=⟨_,rfl⟩;(try rw [← hy192] at H);(try simp only [Option.bind_some] at H)));have Ny192:=Aside0.mk hy192;clear hy192
    go_wp2_with (first | ((with_reducible refine gd 24 rfl (L ?_));replace S:=S.nl (e:=3) (atI .i64);refine apa (A:=none) 24 S Try.underlying23 info3 ?_ (ho:=rfl) (hs:=rfl) (hx:=rfl);clear S F;intro Ay192 cy192 W S;(try rw [← Ny192.out] at S ⊢);have F:=S.fc))
    go_wp2_with (first | ((with_reducible refine gd 24 rfl (L ?_));replace S:=S.nl (e:=3) (atI .i64);refine apa (A:=none) 24 S Try.underlying23 info3 ?_ (ho:=rfl) (hs:=rfl) (hx:=rfl);clear S F;intro Ay192 cy192 W S;(try rw [← Ny192.out] at S ⊢);have F:=S.fc) | ((with_reducible refine gd 24 rfl (L ?_));replace S:=S.nl (e:=3) (atI .i64);refine apa (A:=none) 24 S Try.underlying23 info3 ?_ (ho:=rfl) (hs:=rfl) (hx:=rfl);clear S F;intro Ay192 cy192 W S;(try rw [← Ny192.out] at S ⊢);have F:=S.fc) | ((refine rq (id:=1) S [(0,0),(0,1),(0,4),(0,5),(1,2),(0,3),(0,8),(1,6),(0,7),(0,9)] [] (h:=?_);clear S F;intro W S;have S0:=S;have F:=S.fc)) | (refine q0 (h:=?_)) | (refine q1 S0 (h:=?_)) | (refine q0n (h:=?_)) | (refine q1n S0 (h:=?_)) | refine oz ?_)
    go_meet
    case rel=>exact ⟨_,y192,_,_,rfl,H,(by first | omega | exact Nat.le_refl _),S⟩
  · skip
    go_wp2
    go_wp2_with (first | ((refine rq (id:=1) S [(0,0),(0,1),(0,4),(0,5),(1,2),(0,3),(0,8),(1,6),(0,7),(0,9)] [] (h:=?_);clear S F;intro W S;have S0:=S;have F:=S.fc)) | (refine q0 (h:=?_)) | (refine q1 S0 (h:=?_)) | (refine q0n (h:=?_)) | (refine q1n S0 (h:=?_)) | refine oz ?_)
    go_meet
    case rel=>exact ⟨_,_,_,_,rfl,H,(by first | omega | exact Nat.le_refl _),(S.nl (e:=3) (atI .i64))⟩
 case rest =>
  clear H S F
  obtain ⟨kq,x7_3,Ax7_3,cx7_3,rfl,HA,HJ3,S⟩:=hcut
  have F:=S.fc
  cases kq with
  | zero=>exact absurd HA (by simp [spec_ggNear.j0])
  | succ kj3 =>
   have H:=HA;clear HA;simp only [spec_ggNear.j0,F] at H
   go_upto_if 26 with (fail)
   go_upto_if 26 with (first | ((refine rq (id:=1) S [(0,0),(0,1),(0,4),(0,5),(1,2),(0,3),(0,8),(1,6),(0,7),(0,9)] [] (h:=?_);clear S F;intro W S;have S0:=S;have F:=S.fc)) | (refine q0 (h:=?_)) | (refine q1 S0 (h:=?_)) | (refine q0n (h:=?_)) | (refine q1n S0 (h:=?_)) | refine oz ?_)
   go_cut [7] (fun v7 wc=>∃ (kq:Nat) (x7_10:List Int) (Ax7_10:Option Addr) (cx7_10:Nat),v7 = .slice Ax7_10 x7_10.length cx7_10∧spec_ggNear.j1 kq a1 (wrap64 (Int.tdiv a1 a0_1)) (Int.tmod a1 a0_1) x7_10 a0_0 a0_1 l0_2 = some r∧kq ≤ kj3∧St w w (fun _=>False) [bor at88 A0_2 c0_2 l0_2] wc  [row (atI .i64) 3 Ax7_10 x7_10.length cx7_10 x7_10,box gb191 50 [.int .i64 a0_0,.int .i64 a0_1,.slice A0_2 l0_2.length c0_2]])
   case first =>
    replace H:=sp_ H;rcases H with ⟨c12,H⟩ | ⟨c12,H⟩
    · skip
      replace H:=np_ H;obtain ⟨c13,H⟩:=H
      (first | (with_reducible replace H:=ob_ H;obtain ⟨y195,hy195,H⟩:=H;(try dsimp only at H)) | (obtain ⟨y195,hy195⟩:∃ y_:List Int,y_ = (x7_3 ++ [wrap64 (a1 - 1)]):=⟨_,rfl⟩;(try rw [← hy195] at H);(try simp only [Option.bind_some] at H)));have Ny195:=Aside0.mk hy195;clear hy195
      go_wp2_with (first | ((with_reducible refine gd 31 rfl (L ?_));refine apa (A:=Ax7_3) 31 S Try.underlying23 info3 ?_ (ho:=rfl) (hs:=rfl) (hx:=rfl);clear S F;intro Ay195 cy195 W S;(try rw [← Ny195.out] at S ⊢);have F:=S.fc))
      go_wp2_with (first | ((with_reducible refine gd 31 rfl (L ?_));refine apa (A:=Ax7_3) 31 S Try.underlying23 info3 ?_ (ho:=rfl) (hs:=rfl) (hx:=rfl);clear S F;intro Ay195 cy195 W S;(try rw [← Ny195.out] at S ⊢);have F:=S.fc) | ((with_reducible refine gd 31 rfl (L ?_));refine apa (A:=Ax7_3) 31 S Try.underlying23 info3 ?_ (ho:=rfl) (hs:=rfl) (hx:=rfl);clear S F;intro Ay195 cy195 W S;(try rw [← Ny195.out] at S ⊢);have F:=S.fc) | ((refine rq (id:=1) S [(0,0),(0,1),(0,4),(0,5),(1,2),(0,3),(0,8),(1,6),(0,7),(0,9)] [] (h:=?_);clear S F;intro W S;have S0:=S;have F:=S.fc)) | (refine q0 (h:=?_)) | (refine q1 S0 (h:=?_)) | (refine q0n (h:=?_)) | (refine q1n S0 (h:=?_)) | refine oz ?_)
      go_meet
      case rel=>exact ⟨_,y195,_,_,rfl,H,(by first | omega | exact Nat.le_refl _),S⟩
    · skip
      go_wp2
      go_wp2_with (first | ((refine rq (id:=1) S [(0,0),(0,1),(0,4),(0,5),(1,2),(0,3),(0,8),(1,6),(0,7),(0,9)] [] (h:=?_);clear S F;intro W S;have S0:=S;have F:=S.fc)) | (refine q0 (h:=?_)) | (refine q1 S0 (h:=?_)) | (refine q0n (h:=?_)) | (refine q1n S0 (h:=?_)) | refine oz ?_)
      go_meet
      case rel=>exact ⟨_,x7_3,_,_,rfl,H,(by first | omega | exact Nat.le_refl _),S⟩
   case rest =>
    clear H S F
    obtain ⟨kq,x7_10,Ax7_10,cx7_10,rfl,HA,HJ10,S⟩:=hcut
    have F:=S.fc
    cases kq with
    | zero=>exact absurd HA (by simp [spec_ggNear.j1])
    | succ kj10 =>
     have H:=HA;clear HA;simp only [spec_ggNear.j1,F] at H
     replace H:=sp_ H;rcases H with ⟨c15,H⟩ | ⟨c15,H⟩
     · skip
       replace H:=np_ H;obtain ⟨c16,H⟩:=H
       (first | (with_reducible replace H:=ob_ H;obtain ⟨y198,hy198,H⟩:=H;(try dsimp only at H)) | (obtain ⟨y198,hy198⟩:∃ y_:List Int,y_ = (x7_10 ++ [wrap64 (a1 + 1)]):=⟨_,rfl⟩;(try rw [← hy198] at H);(try simp only [Option.bind_some] at H)));have Ny198:=Aside0.mk hy198;clear hy198
       replace H:=sp_ H;rcases H with ⟨c17,H⟩ | ⟨c17,H⟩
       · skip
         replace H:=np_ H;obtain ⟨c18,H⟩:=H
         (first | (with_reducible replace H:=ob_ H;obtain ⟨y201,hy201,H⟩:=H;(try dsimp only at H)) | (obtain ⟨y201,hy201⟩:∃ y_:List Int,y_ = (y198 ++ [wrap64 (a1 + a0_1)]):=⟨_,rfl⟩;(try rw [← hy201] at H);(try simp only [Option.bind_some] at H)));have Ny201:=Aside0.mk hy201;clear hy201
         obtain rfl:=Option.some.inj H
         go_wp2_with (first | ((with_reducible refine gd 41 rfl (L ?_));refine apa (A:=Ax7_10) 41 S Try.underlying23 info3 ?_ (ho:=rfl) (hs:=rfl) (hx:=rfl);clear S F;intro Ay198 cy198 W S;(try rw [← Ny198.out] at S ⊢);(try rw [← Ny201.out] at S ⊢);have F:=S.fc) | ((with_reducible refine gd 53 rfl (L ?_));refine apa (A:=Ay198) 53 S Try.underlying23 info3 ?_ (ho:=rfl) (hs:=rfl) (hx:=rfl);clear S F;intro Ay201 cy201 W S;(try rw [← Ny198.out] at S ⊢);(try rw [← Ny201.out] at S ⊢);have F:=S.fc))
         go_wp2_with (first | ((with_reducible refine gd 41 rfl (L ?_));refine apa (A:=Ax7_10) 41 S Try.underlying23 info3 ?_ (ho:=rfl) (hs:=rfl) (hx:=rfl);clear S F;intro Ay198 cy198 W S;(try rw [← Ny198.out] at S ⊢);(try rw [← Ny201.out] at S ⊢);have F:=S.fc) | ((with_reducible refine gd 53 rfl (L ?_));refine apa (A:=Ay198) 53 S Try.underlying23 info3 ?_ (ho:=rfl) (hs:=rfl) (hx:=rfl);clear S F;intro Ay201 cy201 W S;(try rw [← Ny198.out] at S ⊢);(try rw [← Ny201.out] at S ⊢);have F:=S.fc) | ((with_reducible refine gd 41 rfl (L ?_));refine apa (A:=Ax7_10) 41 S Try.underlying23 info3 ?_ (ho:=rfl) (hs:=rfl) (hx:=rfl);clear S F;intro Ay198 cy198 W S;(try rw [← Ny198.out] at S ⊢);(try rw [← Ny201.out] at S ⊢);have F:=S.fc) | ((with_reducible refine gd 53 rfl (L ?_));refine apa (A:=Ay198) 53 S Try.underlying23 info3 ?_ (ho:=rfl) (hs:=rfl) (hx:=rfl);clear S F;intro Ay201 cy201 W S;(try rw [← Ny198.out] at S ⊢);(try rw [← Ny201.out] at S ⊢);have F:=S.fc) | ((refine rq (id:=1) S [(0,0),(0,1),(0,4),(0,5),(1,2),(0,3),(0,8),(1,6),(0,7),(0,9)] [] (h:=?_);clear S F;intro W S;have S0:=S;have F:=S.fc)) | (refine q0 (h:=?_)) | (refine q1 S0 (h:=?_)) | (refine q0n (h:=?_)) | (refine q1n S0 (h:=?_)) | refine oz ?_)
         go_ret
         exact ⟨_,(by first | rfl | (simp [e0_,e1_] <;> rfl) | (simp [*,e0_,e1_] <;> rfl)),(by first | exact S.r | exact Kd.R_nil _ _ _ _ _),S.below⟩
       · skip
         obtain rfl:=Option.some.inj H
         go_wp2_with (first | ((with_reducible refine gd 41 rfl (L ?_));refine apa (A:=Ax7_10) 41 S Try.underlying23 info3 ?_ (ho:=rfl) (hs:=rfl) (hx:=rfl);clear S F;intro Ay198 cy198 W S;(try rw [← Ny198.out] at S ⊢);have F:=S.fc))
         go_wp2_with (first | ((with_reducible refine gd 41 rfl (L ?_));refine apa (A:=Ax7_10) 41 S Try.underlying23 info3 ?_ (ho:=rfl) (hs:=rfl) (hx:=rfl);clear S F;intro Ay198 cy198 W S;(try rw [← Ny198.out] at S ⊢);have F:=S.fc) | ((with_reducible refine gd 41 rfl (L ?_));refine apa (A:=Ax7_10) 41 S Try.underlying23 info3 ?_ (ho:=rfl) (hs:=rfl) (hx:=rfl);clear S F;intro Ay198 cy198 W S;(try rw [← Ny198.out] at S ⊢);have F:=S.fc) | ((refine rq (id:=1) S [(0,0),(0,1),(0,4),(0,5),(1,2),(0,3),(0,8),(1,6),(0,7),(0,9)] [] (h:=?_);clear S F;intro W S;have S0:=S;have F:=S.fc)) | (refine q0 (h:=?_)) | (refine q1 S0 (h:=?_)) | (refine q0n (h:=?_)) | (refine q1n S0 (h:=?_)) | refine oz ?_)
         go_ret
         exact ⟨_,(by first | rfl | (simp [e0_,e1_] <;> rfl) | (simp [*,e0_,e1_] <;> rfl)),(by first | exact S.r | exact Kd.R_nil _ _ _ _ _),S.below⟩
     · skip
       replace H:=sp_ H;rcases H with ⟨c26,H⟩ | ⟨c26,H⟩
       · skip
         replace H:=np_ H;obtain ⟨c27,H⟩:=H
         (first | (with_reducible replace H:=ob_ H;obtain ⟨y204,hy204,H⟩:=H;(try dsimp only at H)) | (obtain ⟨y204,hy204⟩:∃ y_:List Int,y_ = (x7_10 ++ [wrap64 (a1 + a0_1)]):=⟨_,rfl⟩;(try rw [← hy204] at H);(try simp only [Option.bind_some] at H)));have Ny204:=Aside0.mk hy204;clear hy204
         obtain rfl:=Option.some.inj H
         go_wp2_with (first | ((with_reducible refine gd 53 rfl (L ?_));refine apa (A:=Ax7_10) 53 S Try.underlying23 info3 ?_ (ho:=rfl) (hs:=rfl) (hx:=rfl);clear S F;intro Ay204 cy204 W S;(try rw [← Ny204.out] at S ⊢);have F:=S.fc))
         go_wp2_with (first | ((with_reducible refine gd 53 rfl (L ?_));refine apa (A:=Ax7_10) 53 S Try.underlying23 info3 ?_ (ho:=rfl) (hs:=rfl) (hx:=rfl);clear S F;intro Ay204 cy204 W S;(try rw [← Ny204.out] at S ⊢);have F:=S.fc) | ((with_reducible refine gd 53 rfl (L ?_));refine apa (A:=Ax7_10) 53 S Try.underlying23 info3 ?_ (ho:=rfl) (hs:=rfl) (hx:=rfl);clear S F;intro Ay204 cy204 W S;(try rw [← Ny204.out] at S ⊢);have F:=S.fc) | ((refine rq (id:=1) S [(0,0),(0,1),(0,4),(0,5),(1,2),(0,3),(0,8),(1,6),(0,7),(0,9)] [] (h:=?_);clear S F;intro W S;have S0:=S;have F:=S.fc)) | (refine q0 (h:=?_)) | (refine q1 S0 (h:=?_)) | (refine q0n (h:=?_)) | (refine q1n S0 (h:=?_)) | refine oz ?_)
         go_ret
         exact ⟨_,(by first | rfl | (simp [e0_,e1_] <;> rfl) | (simp [*,e0_,e1_] <;> rfl)),(by first | exact S.r | exact Kd.R_nil _ _ _ _ _),S.below⟩
       · skip
         obtain rfl:=Option.some.inj H
         go_wp2
         go_wp2_with (first | ((refine rq (id:=1) S [(0,0),(0,1),(0,4),(0,5),(1,2),(0,3),(0,8),(1,6),(0,7),(0,9)] [] (h:=?_);clear S F;intro W S;have S0:=S;have F:=S.fc)) | (refine q0 (h:=?_)) | (refine q1 S0 (h:=?_)) | (refine q0n (h:=?_)) | (refine q1n S0 (h:=?_)) | refine oz ?_)
         go_ret
         exact ⟨_,(by first | rfl | (simp [e0_,e1_] <;> rfl) | (simp [*,e0_,e1_] <;> rfl)),(by first | exact S.r | exact Kd.R_nil _ _ _ _ _),S.below⟩

/-! ### spec_ggGroups: function 136 -/
mutual
def spec_ggGroups.l0:Nat→List Int→Int→Int→Int→Int→List (S88)→Option (List Int)
  | 0,_,_,_,_,_,_=>none
  | k + 1,x3,x17,x18,x208000,x208001,x208002=>if x18 < x17 then (if 0 ≤ x18 then (if x18 < (x3.length:Int) then (spec_ggGroups.l0 k (x3.set (x18:Int).toNat (-1)) x17 (wrap64 (x18 + 1)) x208000 x208001 x208002) else (none)) else (none)) else (spec_ggGroups.l1 k x3 0 x208002 (x208002.length:Int) 0 x208000 x208001 x208002)
def spec_ggGroups.l1:Nat→List Int→Int→List (S88)→Int→Int→Int→Int→List (S88)→Option (List Int)
  | 0,_,_,_,_,_,_,_,_=>none
  | k + 1,x3,x5,x26,x27,x28,x208000,x208001,x208002=>if x28 < x27 then (if 0 ≤ x28 then (if x28 < (x26.length:Int) then ((spec_ggGear.f ((rd_T88 x26 x28).f0) ((rd_T88 x26 x28).f1)).bind fun t214=>(if t214 = true then (if x28 < (x3.length:Int) then (spec_ggGroups.j2 k x3 x5 x28 x26 x27 x28 (decide ((rd x3 x28) ≥ 0)) x208000 x208001 x208002) else (none)) else (spec_ggGroups.j2 k x3 x5 x28 x26 x27 x28 true x208000 x208001 x208002))) else (none)) else (none)) else (some x3)
def spec_ggGroups.j2:Nat→List Int→Int→Int→List (S88)→Int→Int→Bool→Int→Int→List (S88)→Option (List Int)
  | 0,_,_,_,_,_,_,_,_,_,_=>none
  | k + 1,x3,x5,x6,x26,x27,x28,x42,x208000,x208001,x208002=>if x42 = true then (spec_ggGroups.l1 k x3 x5 x26 x27 (wrap64 (x28 + 1)) x208000 x208001 x208002) else (if 0 ≤ x6 then (if x6 < (x3.length:Int) then (spec_ggGroups.l2 k (x3.set (x6:Int).toNat x5) x5 (([x6]:List Int)) 0 x26 x27 x28 x208000 x208001 x208002) else (none)) else (none))
def spec_ggGroups.l2:Nat→List Int→Int→List Int→Int→List (S88)→Int→Int→Int→Int→List (S88)→Option (List Int)
  | 0,_,_,_,_,_,_,_,_,_,_=>none
  | k + 1,x3,x5,x8,x9,x26,x27,x28,x208000,x208001,x208002=>if x9 < (x8.length:Int) then (if 0 ≤ x9 then ((spec_ggNear.f k x208000 x208001 x208002 (rd x8 x9)).bind fun t221=>(spec_ggGroups.l3 k x3 x5 x8 x9 x26 x27 x28 t221 (t221.length:Int) 0 x208000 x208001 x208002)) else (none)) else (spec_ggGroups.l1 k x3 (wrap64 (x5 + 1)) x26 x27 (wrap64 (x28 + 1)) x208000 x208001 x208002)
def spec_ggGroups.l3:Nat→List Int→Int→List Int→Int→List (S88)→Int→Int→List Int→Int→Int→Int→Int→List (S88)→Option (List Int)
  | 0,_,_,_,_,_,_,_,_,_,_,_,_,_=>none
  | k + 1,x3,x5,x8,x9,x26,x27,x28,x60,x61,x62,x208000,x208001,x208002=>if x62 < x61 then (if 0 ≤ x62 then (if x62 < (x60.length:Int) then (if 0 ≤ (rd x60 x62) then (if (rd x60 x62) < (x208002.length:Int) then ((spec_ggGear.f ((rd_T88 x208002 (rd x60 x62)).f0) ((rd_T88 x208002 (rd x60 x62)).f1)).bind fun t226=>(if t226 = true then (if (rd x60 x62) < (x3.length:Int) then (if (rd x3 (rd x60 x62)) < 0 then (if x8.length < 17592186044416 then (spec_ggGroups.l3 k (x3.set ((rd x60 x62):Int).toNat x5) x5 (x8 ++ [rd x60 x62]) x9 x26 x27 x28 x60 x61 (wrap64 (x62 + 1)) x208000 x208001 x208002) else (none)) else (spec_ggGroups.l3 k x3 x5 x8 x9 x26 x27 x28 x60 x61 (wrap64 (x62 + 1)) x208000 x208001 x208002)) else (none)) else (spec_ggGroups.l3 k x3 x5 x8 x9 x26 x27 x28 x60 x61 (wrap64 (x62 + 1)) x208000 x208001 x208002))) else (none)) else (none)) else (none)) else (none)) else (spec_ggGroups.l2 k x3 x5 x8 (wrap64 (x9 + 1)) x26 x27 x28 x208000 x208001 x208002)
end
def spec_ggGroups.f (k:Nat) (a0_0:Int) (a0_1:Int) (l0_2:List (S88)):Option (List Int):=if 0 ≤ (l0_2.length:Int) then (if ((l0_2.length:Int):Int).toNat ≤ 35184372088832 then ((some (List.replicate ((l0_2.length:Int):Int).toNat 0:List Int)).bind fun y208=>(spec_ggGroups.l0 k y208 (y208.length:Int) 0 a0_0 a0_1 l0_2)) else (none)) else (none)
theorem spec_ggGroups.calls (k:Nat) (a0_0:Int) (a0_1:Int) (A0_2:Option Addr) (c0_2:Nat) (l0_2:List (S88)) (r:List Int) (w:World) (hr0_2:Kd.C k88 w A0_2 l0_2.length l0_2) (hc0_2:l0_2.length ≤ c0_2) (h:spec_ggGroups.f k a0_0 a0_1 l0_2 = some r) :
    Calls Try.prog 136 #[.agg #[.int .i64 a0_0,.int .i64 a0_1,.slice A0_2 l0_2.length c0_2]] w fun e w'=>∃ v0_:Value,e = .returned (v0_)∧Kd.R (Kd.int .i64) 3 w' w.heap.size (fun _=>True) v0_ r∧Below w.heap.size w w':=by
 have S:=St.init (w:=w) (dc k88_heap at88 hr0_2 hc0_2 dn)
 clear hr0_2 hc0_2
 have F:=S.fc
 have H:=h;clear h;unfold spec_ggGroups.f at H
 replace H:=np_ H;obtain ⟨c2,H⟩:=H;(try simp only [F] at c2)
 replace H:=np_ H;obtain ⟨c3,H⟩:=H;(try simp only [F] at c3)
 (first | (with_reducible replace H:=ob_ H;obtain ⟨y208,hy208,H⟩:=H;(try dsimp only at H)) | (obtain ⟨y208,hy208⟩:∃ y_:List Int,y_ = (List.replicate ((l0_2.length:Int):Int).toNat 0):=⟨_,rfl⟩;(try rw [← hy208] at H);(try simp only [Option.bind_some] at H)));have Ny208:=Aside0.mk hy208;clear hy208
 go_enter Try.func136,Try.ntmps136
 go_wp2_with (first | ((with_reducible refine gd 1 rfl (L ?_));refine bo 1 (.agg #[_,_,_]) S ?_;clear S F;intro gb207 W S;have F:=S.fc) | ((with_reducible refine gd 15 rfl (L ?_));refine mka 15 (atI .i64) S Try.underlying23 info3 ?_;clear S F;intro Ay208 cy208 W S;(try simp only [Int.reduceToNat] at S ⊢);(try rw [← Ny208.out] at S ⊢);have F:=S.fc) | ((with_reducible refine gs (t:=3) rfl (L ?_));(first | refine sb (.int _ _) S sz3 ?_ | refine ro (.int _ _) S sz3 ?_ (ho:=rfl) (hx:=rfl) (hy:=rfl));clear S F;intro W S;(try simp only [gd88] at S);(try rw [← Ny208.out] at S);have F:=S.fc) | ((with_reducible refine gs (t:=88) rfl (L ?_));(first | refine sb (.agg #[_,_]) S sz88 ?_ | refine ro (.agg #[_,_]) S sz88 ?_ (ho:=rfl) (hx:=rfl) (hy:=rfl));clear S F;intro W S;(try simp only [gd88] at S);(try rw [← Ny208.out] at S);have F:=S.fc))
 go_loopg [18] k (fun kq v18 w'=>∃ (x3_1:List Int) (x18_1:Int),v18 = .int .i64 x18_1∧spec_ggGroups.l0 kq x3_1 (y208.length:Int) x18_1 a0_0 a0_1 l0_2 = some r∧kq ≤ k∧St w w (fun _=>False) [bor at88 A0_2 c0_2 l0_2] w'  [row (atI .i64) 3 Ay208 y208.length cy208 x3_1,box gb207 50 [.int .i64 a0_0,.int .i64 a0_1,.slice A0_2 l0_2.length c0_2]])
 case atStart=>exact ⟨y208,0,(by first | rfl | (simp;done) | (simp [*];done) | (rw [w6_ (by omega) (by omega)])),(by first | exact H | (simp only [F];exact H)),Nat.le_refl _,S⟩
 case round =>
  clear H S F
  obtain ⟨x3_1,x18_1,rfl,HA,HK1,S⟩:=hrel
  have F:=S.fc
  cases gk with
  | zero=>exact absurd HA (by simp [spec_ggGroups.l0])
  | succ k1 =>
   have H:=HA;clear HA;simp only [spec_ggGroups.l0,F] at H
   replace H:=sp_ H;rcases H with ⟨c9,H⟩ | ⟨c9,H⟩
   · skip
     replace H:=np_ H;obtain ⟨c10,H⟩:=H;(try simp only [F] at c10)
     replace H:=np_ H;obtain ⟨c11,H⟩:=H;(try simp only [F] at c11)
     (first | (with_reducible replace H:=ob_ H;obtain ⟨y211,hy211,H⟩:=H;(try dsimp only at H)) | (obtain ⟨y211,hy211⟩:∃ y_:List Int,y_ = (x3_1.set (x18_1:Int).toNat (-1)):=⟨_,rfl⟩;(try rw [← hy211] at H);(try simp only [Option.bind_some] at H)));have Ny211:=Aside0.mk hy211;clear hy211
     go_wp2_with (first | ((with_reducible refine gs (t:=3) rfl (L ?_));(first | refine sb (.int _ _) S sz3 ?_ | refine ro (.int _ _) S sz3 ?_ (ho:=rfl) (hx:=rfl) (hy:=rfl));clear S F;intro W S;(try simp only [gd88] at S);(try rw [← Ny208.out] at S);(try rw [← Ny211.out] at S);have F:=S.fc) | ((with_reducible refine gs (t:=88) rfl (L ?_));(first | refine sb (.agg #[_,_]) S sz88 ?_ | refine ro (.agg #[_,_]) S sz88 ?_ (ho:=rfl) (hx:=rfl) (hy:=rfl));clear S F;intro W S;(try simp only [gd88] at S);(try rw [← Ny208.out] at S);(try rw [← Ny211.out] at S);have F:=S.fc))
     go_roundg k1
     case measure=>omega
     case rel=>exact ⟨y211,(wrap64 (x18_1 + 1)),(by first | rfl | (simp;done) | (simp [*];done) | (rw [w6_ (by omega) (by omega)])),(by first | exact H | (simp only [F];exact H)),(by first | omega | exact Nat.le_refl _),S⟩
   · skip
     go_wp2_with (first | ((with_reducible refine gs (t:=3) rfl (L ?_));(first | refine sb (.int _ _) S sz3 ?_ | refine ro (.int _ _) S sz3 ?_ (ho:=rfl) (hx:=rfl) (hy:=rfl));clear S F;intro W S;(try simp only [gd88] at S);(try rw [← Ny208.out] at S);have F:=S.fc) | ((with_reducible refine gs (t:=88) rfl (L ?_));(first | refine sb (.agg #[_,_]) S sz88 ?_ | refine ro (.agg #[_,_]) S sz88 ?_ (ho:=rfl) (hx:=rfl) (hy:=rfl));clear S F;intro W S;(try simp only [gd88] at S);(try rw [← Ny208.out] at S);have F:=S.fc))
     go_loopg [5,28] k1 (fun kq v5 v28 w'=>∃ (x3_2:List Int) (x5_2:Int) (x28_2:Int),v5 = .int .i64 x5_2∧v28 = .int .i64 x28_2∧spec_ggGroups.l1 kq x3_2 x5_2 l0_2 (l0_2.length:Int) x28_2 a0_0 a0_1 l0_2 = some r∧kq ≤ k1∧St w w (fun _=>False) [bor at88 A0_2 c0_2 l0_2] w'  [row (atI .i64) 3 Ay208 y208.length cy208 x3_2,box gb207 50 [.int .i64 a0_0,.int .i64 a0_1,.slice A0_2 l0_2.length c0_2]])
     case atStart=>exact ⟨x3_1,0,0,(by first | rfl | (simp;done) | (simp [*];done) | (rw [w6_ (by omega) (by omega)])),(by first | rfl | (simp;done) | (simp [*];done) | (rw [w6_ (by omega) (by omega)])),(by first | exact H | (simp only [F];exact H)),Nat.le_refl _,S⟩
     case round =>
      clear H S F
      obtain ⟨x3_2,x5_2,x28_2,rfl,rfl,HA,HK2,S⟩:=hrel
      have F:=S.fc
      cases gk with
      | zero=>exact absurd HA (by simp [spec_ggGroups.l1])
      | succ k2 =>
       have H:=HA;clear HA;simp only [spec_ggGroups.l1,F] at H
       replace H:=sp_ H;rcases H with ⟨c16,H⟩ | ⟨c16,H⟩
       · skip
         replace H:=np_ H;obtain ⟨c17,H⟩:=H;(try simp only [F] at c17)
         replace H:=np_ H;obtain ⟨c18,H⟩:=H;(try simp only [F] at c18)
         go_upto_region 11 with (first | ((with_reducible refine gd 7 rfl (L ?_));refine al 7 S zi88 ?_;clear S F;intro gb213 W S;have F:=S.fc) | ((with_reducible refine gs (t:=3) rfl (L ?_));(first | refine sb (.int _ _) S sz3 ?_ | refine ro (.int _ _) S sz3 ?_ (ho:=rfl) (hx:=rfl) (hy:=rfl));clear S F;intro W S;(try simp only [gd88] at S);(try rw [← Ny208.out] at S);have F:=S.fc) | ((with_reducible refine gs (t:=88) rfl (L ?_));(first | refine sb (.agg #[_,_]) S sz88 ?_ | refine ro (.agg #[_,_]) S sz88 ?_ (ho:=rfl) (hx:=rfl) (hy:=rfl));clear S F;intro W S;(try simp only [gd88] at S);(try rw [← Ny208.out] at S);have F:=S.fc))
         (try simp only [Act.put,List.setIfInBounds_toArray,List.set_cons_zero,List.set_cons_succ])
         go_cut [42] (fun v42 wc=>∃ (kq:Nat) (x42_18:Bool),v42 = .bool x42_18∧spec_ggGroups.j2 kq x3_2 x5_2 x28_2 l0_2 (l0_2.length:Int) x28_2 x42_18 a0_0 a0_1 l0_2 = some r∧kq ≤ k2∧St w w (fun _=>False) [bor at88 A0_2 c0_2 l0_2] wc  [box gb213 88 [.int .i64 ((rd_T88 l0_2 x28_2).f0),.int .i64 ((rd_T88 l0_2 x28_2).f1)],row (atI .i64) 3 Ay208 y208.length cy208 x3_2,box gb207 50 [.int .i64 a0_0,.int .i64 a0_1,.slice A0_2 l0_2.length c0_2]])
         case first =>
          replace H:=Option.bind_eq_some_iff.mp H;obtain ⟨t214,A23,H⟩:=H;(try dsimp only at H)
          replace H:=sp_ H;rcases H with ⟨c24,H⟩ | ⟨c24,H⟩
          · skip
            subst c24
            replace H:=np_ H;obtain ⟨c25,H⟩:=H;(try simp only [F] at c25)
            go_wp2_with (first | ((with_reducible refine gate_callee (f:=145) rfl (L ?_));refine cl (some 34) Try.func145 (spec_ggGear.calls _ _ _ _ A23) (hargs:=by (simp only [ma_,mb_,mc_,F] <;> rfl)) (h:=?_);rintro e W ⟨rfl,hb⟩;refine ⟨_,rfl,?_⟩;replace S:=S.go hb;clear F hb;have F:=S.fc) | ((with_reducible refine gs (t:=3) rfl (L ?_));(first | refine sb (.int _ _) S sz3 ?_ | refine ro (.int _ _) S sz3 ?_ (ho:=rfl) (hx:=rfl) (hy:=rfl));clear S F;intro W S;(try simp only [gd88] at S);(try rw [← Ny208.out] at S);have F:=S.fc) | ((with_reducible refine gs (t:=88) rfl (L ?_));(first | refine sb (.agg #[_,_]) S sz88 ?_ | refine ro (.agg #[_,_]) S sz88 ?_ (ho:=rfl) (hx:=rfl) (hy:=rfl));clear S F;intro W S;(try simp only [gd88] at S);(try rw [← Ny208.out] at S);have F:=S.fc))
            go_meet
            case rel=>exact ⟨_,(decide ((rd x3_2 x28_2) ≥ 0)),(by first | rfl | (simp;done) | (simp [*];done) | (rw [w6_ (by omega) (by omega)])),(by first | exact H | (simp only [F];exact H)),(by first | omega | exact Nat.le_refl _),S⟩
          · skip
            replace c24:=cbf c24;subst c24
            go_wp2_with (first | ((with_reducible refine gate_callee (f:=145) rfl (L ?_));refine cl (some 34) Try.func145 (spec_ggGear.calls _ _ _ _ A23) (hargs:=by (simp only [ma_,mb_,mc_,F] <;> rfl)) (h:=?_);rintro e W ⟨rfl,hb⟩;refine ⟨_,rfl,?_⟩;replace S:=S.go hb;clear F hb;have F:=S.fc) | ((with_reducible refine gs (t:=3) rfl (L ?_));(first | refine sb (.int _ _) S sz3 ?_ | refine ro (.int _ _) S sz3 ?_ (ho:=rfl) (hx:=rfl) (hy:=rfl));clear S F;intro W S;(try simp only [gd88] at S);(try rw [← Ny208.out] at S);have F:=S.fc) | ((with_reducible refine gs (t:=88) rfl (L ?_));(first | refine sb (.agg #[_,_]) S sz88 ?_ | refine ro (.agg #[_,_]) S sz88 ?_ (ho:=rfl) (hx:=rfl) (hy:=rfl));clear S F;intro W S;(try simp only [gd88] at S);(try rw [← Ny208.out] at S);have F:=S.fc))
            go_meet
            case rel=>exact ⟨_,true,(by first | rfl | (simp;done) | (simp [*];done) | (rw [w6_ (by omega) (by omega)])),(by first | exact H | (simp only [F];exact H)),(by first | omega | exact Nat.le_refl _),S⟩
         case rest =>
          clear H S F
          obtain ⟨kq,x42_18,rfl,HA,HJ18,S⟩:=hcut
          have F:=S.fc
          cases kq with
          | zero=>exact absurd HA (by simp [spec_ggGroups.j2])
          | succ kj18 =>
           have H:=HA;clear HA;simp only [spec_ggGroups.j2,F] at H
           replace H:=sp_ H;rcases H with ⟨c32,H⟩ | ⟨c32,H⟩
           · skip
             subst c32
             go_wp2_with (first | ((with_reducible refine gs (t:=3) rfl (L ?_));(first | refine sb (.int _ _) S sz3 ?_ | refine ro (.int _ _) S sz3 ?_ (ho:=rfl) (hx:=rfl) (hy:=rfl));clear S F;intro W S;(try simp only [gd88] at S);(try rw [← Ny208.out] at S);have F:=S.fc) | ((with_reducible refine gs (t:=88) rfl (L ?_));(first | refine sb (.agg #[_,_]) S sz88 ?_ | refine ro (.agg #[_,_]) S sz88 ?_ (ho:=rfl) (hx:=rfl) (hy:=rfl));clear S F;intro W S;(try simp only [gd88] at S);(try rw [← Ny208.out] at S);have F:=S.fc))
             go_roundg kj18
             case measure=>omega
             case rel=>exact ⟨x3_2,x5_2,(wrap64 (x28_2 + 1)),(by first | rfl | (simp;done) | (simp [*];done) | (rw [w6_ (by omega) (by omega)])),(by first | rfl | (simp;done) | (simp [*];done) | (rw [w6_ (by omega) (by omega)])),(by first | exact H | (simp only [F];exact H)),(by first | omega | exact Nat.le_refl _),S.tl⟩
           · skip
             replace c32:=cbf c32;subst c32
             replace H:=np_ H;obtain ⟨c33,H⟩:=H;(try simp only [F] at c33)
             replace H:=np_ H;obtain ⟨c34,H⟩:=H;(try simp only [F] at c34)
             (first | (with_reducible replace H:=ob_ H;obtain ⟨y216,hy216,H⟩:=H;(try dsimp only at H)) | (obtain ⟨y216,hy216⟩:∃ y_:List Int,y_ = (x3_2.set (x28_2:Int).toNat x5_2):=⟨_,rfl⟩;(try rw [← hy216] at H);(try simp only [Option.bind_some] at H)));have Ny216:=Aside0.mk hy216;clear hy216
             (first | (with_reducible replace H:=ob_ H;obtain ⟨y217,hy217,H⟩:=H;(try dsimp only at H)) | (obtain ⟨y217,hy217⟩:∃ y_:List Int,y_ = (([x28_2]:List Int)):=⟨_,rfl⟩;(try rw [← hy217] at H);(try simp only [Option.bind_some] at H)));have Ny217:=Aside0.mk hy217;clear hy217
             go_wp2_with (first | ((with_reducible refine gd 48 rfl (L ?_));refine lia 48 (atI .i64) 3 S ([x28_2]:List Int) (fun _ _=>(Reps.one (show Kd.M (Kd.int .i64) _ _ _ x28_2 [.int .i64 x28_2] from rfl) (Reps.none _ _))) (by first | (go_simp;done) | (go_simp;rfl)) ?_;clear S F;intro Ay217 cy217 W S;(try rw [← Ny208.out] at S ⊢);(try rw [← Ny216.out] at S ⊢);(try rw [← Ny217.out] at S ⊢);have F:=S.fc) | ((with_reducible refine gs (t:=3) rfl (L ?_));(first | refine sb (.int _ _) S sz3 ?_ | refine ro (.int _ _) S sz3 ?_ (ho:=rfl) (hx:=rfl) (hy:=rfl));clear S F;intro W S;(try simp only [gd88] at S);(try rw [← Ny208.out] at S);(try rw [← Ny216.out] at S);(try rw [← Ny217.out] at S);have F:=S.fc) | ((with_reducible refine gs (t:=88) rfl (L ?_));(first | refine sb (.agg #[_,_]) S sz88 ?_ | refine ro (.agg #[_,_]) S sz88 ?_ (ho:=rfl) (hx:=rfl) (hy:=rfl));clear S F;intro W S;(try simp only [gd88] at S);(try rw [← Ny208.out] at S);(try rw [← Ny216.out] at S);(try rw [← Ny217.out] at S);have F:=S.fc))
             go_loopg [8,9] kj18 (fun kq v8 v9 w'=>∃ (x3_4:List Int) (x8_4:List Int) (x9_4:Int) (Ax8_4:Option Addr) (cx8_4:Nat),v9 = .int .i64 x9_4∧v8 = .slice Ax8_4 x8_4.length cx8_4∧spec_ggGroups.l2 kq x3_4 x5_2 x8_4 x9_4 l0_2 (l0_2.length:Int) x28_2 a0_0 a0_1 l0_2 = some r∧kq ≤ kj18∧St w w (fun _=>False) [bor at88 A0_2 c0_2 l0_2] w'  [row (atI .i64) 3 Ax8_4 x8_4.length cx8_4 x8_4,box gb213 88 [.int .i64 ((rd_T88 l0_2 x28_2).f0),.int .i64 ((rd_T88 l0_2 x28_2).f1)],row (atI .i64) 3 Ay208 y208.length cy208 x3_4,box gb207 50 [.int .i64 a0_0,.int .i64 a0_1,.slice A0_2 l0_2.length c0_2]])
             case atStart=>exact ⟨y216,y217,0,_,_,(by first | rfl | (simp;done) | (simp [*];done) | (rw [w6_ (by omega) (by omega)])),rfl,(by first | exact H | (simp only [F];exact H)),Nat.le_refl _,S⟩
             case round =>
              clear H S F
              obtain ⟨x3_4,x8_4,x9_4,Ax8_4,cx8_4,rfl,rfl,HA,HK4,S⟩:=hrel
              have F:=S.fc
              cases gk with
              | zero=>exact absurd HA (by simp [spec_ggGroups.l2])
              | succ k4 =>
               have H:=HA;clear HA;simp only [spec_ggGroups.l2,F] at H
               replace H:=sp_ H;rcases H with ⟨c40,H⟩ | ⟨c40,H⟩
               · skip
                 replace H:=np_ H;obtain ⟨c41,H⟩:=H;(try simp only [F] at c41)
                 replace H:=Option.bind_eq_some_iff.mp H;obtain ⟨t221,A42,H⟩:=H;(try dsimp only at H)
                 go_wp2_with (first | ((with_reducible refine gs (t:=3) rfl (L ?_));(first | refine sb (.int _ _) S sz3 ?_ | refine ro (.int _ _) S sz3 ?_ (ho:=rfl) (hx:=rfl) (hy:=rfl));clear S F;intro W S;(try simp only [gd88] at S);(try rw [← Ny208.out] at S);(try rw [← Ny216.out] at S);(try rw [← Ny217.out] at S);have F:=S.fc) | ((with_reducible refine gs (t:=88) rfl (L ?_));(first | refine sb (.agg #[_,_]) S sz88 ?_ | refine ro (.agg #[_,_]) S sz88 ?_ (ho:=rfl) (hx:=rfl) (hy:=rfl));clear S F;intro W S;(try simp only [gd88] at S);(try rw [← Ny208.out] at S);(try rw [← Ny216.out] at S);(try rw [← Ny217.out] at S);have F:=S.fc))
                 refine rq S [(0,1),(0,2),(0,3),(0,7),(1,0),(1,4),(2,5),(0,6)] [] (h:=?_);clear S F;intro W S;have S0:=S;have F:=S.fc
                 repeat (first | (refine q0 (h:=?_)) | (refine q1 S0 (h:=?_)) | (refine q0n (h:=?_)) | (refine q1n S0 (h:=?_)))
                 refine lk2 (by rfl) (by exact (Eq.refl true)) ?_;refine cl (some 60) Try.func146 (spec_ggNear.calls _ _ _ _ _ _ _ _ _ S.c S.n A42) (hargs:=by (simp only [ma_,mb_,mc_,F] <;> rfl)) (h:=?_);rintro e W ⟨v222,rfl,ho0,hb⟩;refine ⟨_,rfl,?_⟩;replace S:=S.got (atI .i64) hb ho0;obtain ⟨At221,ct221,rfl,S⟩:=S;clear F hb ho0;(try rw [← Ny208.out] at S);(try rw [← Ny216.out] at S);(try rw [← Ny217.out] at S);have F:=S.fc
                 clear S0;have S0:=S.tl;refine ⟨S0,?_⟩
                 repeat (first | (refine q0 (h:=?_)) | (refine q1 S0 (h:=?_)) | (refine q0n (h:=?_)) | (refine q1n S0 (h:=?_)))
                 refine oz ?_
                 try clear S0
                 go_wp2_with (first | ((with_reducible refine gs (t:=3) rfl (L ?_));(first | refine sb (.int _ _) S sz3 ?_ | refine ro (.int _ _) S sz3 ?_ (ho:=rfl) (hx:=rfl) (hy:=rfl));clear S F;intro W S;(try simp only [gd88] at S);(try rw [← Ny208.out] at S);(try rw [← Ny216.out] at S);(try rw [← Ny217.out] at S);have F:=S.fc) | ((with_reducible refine gs (t:=88) rfl (L ?_));(first | refine sb (.agg #[_,_]) S sz88 ?_ | refine ro (.agg #[_,_]) S sz88 ?_ (ho:=rfl) (hx:=rfl) (hy:=rfl));clear S F;intro W S;(try simp only [gd88] at S);(try rw [← Ny208.out] at S);(try rw [← Ny216.out] at S);(try rw [← Ny217.out] at S);have F:=S.fc))
                 go_loopg [8,62] k4 (fun kq v8 v62 w'=>∃ (x3_5:List Int) (x8_5:List Int) (x62_5:Int) (Ax8_5:Option Addr) (cx8_5:Nat),v62 = .int .i64 x62_5∧v8 = .slice Ax8_5 x8_5.length cx8_5∧spec_ggGroups.l3 kq x3_5 x5_2 x8_5 x9_4 l0_2 (l0_2.length:Int) x28_2 t221 (t221.length:Int) x62_5 a0_0 a0_1 l0_2 = some r∧kq ≤ k4∧St w w (fun _=>False) [bor at88 A0_2 c0_2 l0_2] w'  [row (atI .i64) 3 At221 t221.length ct221 t221,row (atI .i64) 3 Ax8_5 x8_5.length cx8_5 x8_5,box gb213 88 [.int .i64 ((rd_T88 l0_2 x28_2).f0),.int .i64 ((rd_T88 l0_2 x28_2).f1)],row (atI .i64) 3 Ay208 y208.length cy208 x3_5,box gb207 50 [.int .i64 a0_0,.int .i64 a0_1,.slice A0_2 l0_2.length c0_2]])
                 case atStart=>exact ⟨x3_4,x8_4,0,_,_,(by first | rfl | (simp;done) | (simp [*];done) | (rw [w6_ (by omega) (by omega)])),rfl,(by first | exact H | (simp only [F];exact H)),Nat.le_refl _,S⟩
                 case round =>
                  clear H S F
                  obtain ⟨x3_5,x8_5,x62_5,Ax8_5,cx8_5,rfl,rfl,HA,HK5,S⟩:=hrel
                  have F:=S.fc
                  cases gk with
                  | zero=>exact absurd HA (by simp [spec_ggGroups.l3])
                  | succ k5 =>
                   have H:=HA;clear HA;simp only [spec_ggGroups.l3,F] at H
                   replace H:=sp_ H;rcases H with ⟨c47,H⟩ | ⟨c47,H⟩
                   · skip
                     replace H:=np_ H;obtain ⟨c48,H⟩:=H;(try simp only [F] at c48)
                     replace H:=np_ H;obtain ⟨c49,H⟩:=H;(try simp only [F] at c49)
                     replace H:=np_ H;obtain ⟨c50,H⟩:=H;(try simp only [F] at c50)
                     replace H:=np_ H;obtain ⟨c51,H⟩:=H;(try simp only [F] at c51)
                     replace H:=Option.bind_eq_some_iff.mp H;obtain ⟨t226,A52,H⟩:=H;(try dsimp only at H)
                     replace H:=sp_ H;rcases H with ⟨c53,H⟩ | ⟨c53,H⟩
                     · skip
                       subst c53
                       replace H:=np_ H;obtain ⟨c54,H⟩:=H;(try simp only [F] at c54)
                       replace H:=sp_ H;rcases H with ⟨c55,H⟩ | ⟨c55,H⟩
                       · skip
                         (first | (with_reducible replace H:=ob_ H;obtain ⟨y228,hy228,H⟩:=H;(try dsimp only at H)) | (obtain ⟨y228,hy228⟩:∃ y_:List Int,y_ = (x3_5.set ((rd t221 x62_5):Int).toNat x5_2):=⟨_,rfl⟩;(try rw [← hy228] at H);(try simp only [Option.bind_some] at H)));have Ny228:=Aside0.mk hy228;clear hy228
                         replace H:=np_ H;obtain ⟨c57,H⟩:=H;(try simp only [F] at c57)
                         (first | (with_reducible replace H:=ob_ H;obtain ⟨y229,hy229,H⟩:=H;(try dsimp only at H)) | (obtain ⟨y229,hy229⟩:∃ y_:List Int,y_ = (x8_5 ++ [rd t221 x62_5]):=⟨_,rfl⟩;(try rw [← hy229] at H);(try simp only [Option.bind_some] at H)));have Ny229:=Aside0.mk hy229;clear hy229
                         go_wp2_with (first | ((with_reducible refine gate_callee (f:=145) rfl (L ?_));refine cl (some 71) Try.func145 (spec_ggGear.calls _ _ _ _ A52) (hargs:=by (simp only [ma_,mb_,mc_,F] <;> rfl)) (h:=?_);rintro e W ⟨rfl,hb⟩;refine ⟨_,rfl,?_⟩;replace S:=S.go hb;clear F hb;have F:=S.fc) | ((with_reducible refine gd 86 rfl (L ?_));refine apa (A:=Ax8_5) 86 S Try.underlying23 info3 ?_ (ho:=rfl) (hs:=rfl) (hx:=rfl);clear S F;intro Ay229 cy229 W S;(try rw [← Ny208.out] at S ⊢);(try rw [← Ny216.out] at S ⊢);(try rw [← Ny217.out] at S ⊢);(try rw [← Ny228.out] at S ⊢);(try rw [← Ny229.out] at S ⊢);have F:=S.fc) | ((with_reducible refine gs (t:=3) rfl (L ?_));(first | refine sb (.int _ _) S sz3 ?_ | refine ro (.int _ _) S sz3 ?_ (ho:=rfl) (hx:=rfl) (hy:=rfl));clear S F;intro W S;(try simp only [gd88] at S);(try rw [← Ny208.out] at S);(try rw [← Ny216.out] at S);(try rw [← Ny217.out] at S);(try rw [← Ny228.out] at S);(try rw [← Ny229.out] at S);have F:=S.fc) | ((with_reducible refine gs (t:=88) rfl (L ?_));(first | refine sb (.agg #[_,_]) S sz88 ?_ | refine ro (.agg #[_,_]) S sz88 ?_ (ho:=rfl) (hx:=rfl) (hy:=rfl));clear S F;intro W S;(try simp only [gd88] at S);(try rw [← Ny208.out] at S);(try rw [← Ny216.out] at S);(try rw [← Ny217.out] at S);(try rw [← Ny228.out] at S);(try rw [← Ny229.out] at S);have F:=S.fc))
                         go_roundg k5
                         case measure=>omega
                         case rel=>first | (exact ⟨y228,y229,(wrap64 (x62_5 + 1)),_,_,(by first | rfl | (simp;done) | (simp [*];done) | (rw [w6_ (by omega) (by omega)])),rfl,(by first | exact H | (simp only [F];exact H)),(by first | omega | exact Nat.le_refl _),S⟩) | (exact ⟨y228,y229,(wrap64 (x62_5 + 1)),_,_,(by first | rfl | (simp;done) | (simp [*];done) | (rw [w6_ (by omega) (by omega)])),rfl,(by first | exact H | (simp only [F];exact H)),(by first | omega | exact Nat.le_refl _),S.tl⟩)
                       · skip
                         go_wp2_with (first | ((with_reducible refine gate_callee (f:=145) rfl (L ?_));refine cl (some 71) Try.func145 (spec_ggGear.calls _ _ _ _ A52) (hargs:=by (simp only [ma_,mb_,mc_,F] <;> rfl)) (h:=?_);rintro e W ⟨rfl,hb⟩;refine ⟨_,rfl,?_⟩;replace S:=S.go hb;clear F hb;have F:=S.fc) | ((with_reducible refine gs (t:=3) rfl (L ?_));(first | refine sb (.int _ _) S sz3 ?_ | refine ro (.int _ _) S sz3 ?_ (ho:=rfl) (hx:=rfl) (hy:=rfl));clear S F;intro W S;(try simp only [gd88] at S);(try rw [← Ny208.out] at S);(try rw [← Ny216.out] at S);(try rw [← Ny217.out] at S);have F:=S.fc) | ((with_reducible refine gs (t:=88) rfl (L ?_));(first | refine sb (.agg #[_,_]) S sz88 ?_ | refine ro (.agg #[_,_]) S sz88 ?_ (ho:=rfl) (hx:=rfl) (hy:=rfl));clear S F;intro W S;(try simp only [gd88] at S);(try rw [← Ny208.out] at S);(try rw [← Ny216.out] at S);(try rw [← Ny217.out] at S);have F:=S.fc))
                         go_roundg k5
                         case measure=>omega
                         case rel=>first | (exact ⟨x3_5,x8_5,(wrap64 (x62_5 + 1)),_,_,(by first | rfl | (simp;done) | (simp [*];done) | (rw [w6_ (by omega) (by omega)])),rfl,(by first | exact H | (simp only [F];exact H)),(by first | omega | exact Nat.le_refl _),S⟩) | (exact ⟨x3_5,x8_5,(wrap64 (x62_5 + 1)),_,_,(by first | rfl | (simp;done) | (simp [*];done) | (rw [w6_ (by omega) (by omega)])),rfl,(by first | exact H | (simp only [F];exact H)),(by first | omega | exact Nat.le_refl _),S.tl⟩)
                     · skip
                       replace c53:=cbf c53;subst c53
                       go_wp2_with (first | ((with_reducible refine gate_callee (f:=145) rfl (L ?_));refine cl (some 71) Try.func145 (spec_ggGear.calls _ _ _ _ A52) (hargs:=by (simp only [ma_,mb_,mc_,F] <;> rfl)) (h:=?_);rintro e W ⟨rfl,hb⟩;refine ⟨_,rfl,?_⟩;replace S:=S.go hb;clear F hb;have F:=S.fc) | ((with_reducible refine gs (t:=3) rfl (L ?_));(first | refine sb (.int _ _) S sz3 ?_ | refine ro (.int _ _) S sz3 ?_ (ho:=rfl) (hx:=rfl) (hy:=rfl));clear S F;intro W S;(try simp only [gd88] at S);(try rw [← Ny208.out] at S);(try rw [← Ny216.out] at S);(try rw [← Ny217.out] at S);have F:=S.fc) | ((with_reducible refine gs (t:=88) rfl (L ?_));(first | refine sb (.agg #[_,_]) S sz88 ?_ | refine ro (.agg #[_,_]) S sz88 ?_ (ho:=rfl) (hx:=rfl) (hy:=rfl));clear S F;intro W S;(try simp only [gd88] at S);(try rw [← Ny208.out] at S);(try rw [← Ny216.out] at S);(try rw [← Ny217.out] at S);have F:=S.fc))
                       go_roundg k5
                       case measure=>omega
                       case rel=>first | (exact ⟨x3_5,x8_5,(wrap64 (x62_5 + 1)),_,_,(by first | rfl | (simp;done) | (simp [*];done) | (rw [w6_ (by omega) (by omega)])),rfl,(by first | exact H | (simp only [F];exact H)),(by first | omega | exact Nat.le_refl _),S⟩) | (exact ⟨x3_5,x8_5,(wrap64 (x62_5 + 1)),_,_,(by first | rfl | (simp;done) | (simp [*];done) | (rw [w6_ (by omega) (by omega)])),rfl,(by first | exact H | (simp only [F];exact H)),(by first | omega | exact Nat.le_refl _),S.tl⟩)
                   · skip
                     go_wp2_with (first | ((with_reducible refine gs (t:=3) rfl (L ?_));(first | refine sb (.int _ _) S sz3 ?_ | refine ro (.int _ _) S sz3 ?_ (ho:=rfl) (hx:=rfl) (hy:=rfl));clear S F;intro W S;(try simp only [gd88] at S);(try rw [← Ny208.out] at S);(try rw [← Ny216.out] at S);(try rw [← Ny217.out] at S);have F:=S.fc) | ((with_reducible refine gs (t:=88) rfl (L ?_));(first | refine sb (.agg #[_,_]) S sz88 ?_ | refine ro (.agg #[_,_]) S sz88 ?_ (ho:=rfl) (hx:=rfl) (hy:=rfl));clear S F;intro W S;(try simp only [gd88] at S);(try rw [← Ny208.out] at S);(try rw [← Ny216.out] at S);(try rw [← Ny217.out] at S);have F:=S.fc))
                     go_roundg k5
                     case measure=>omega
                     case rel=>first | (exact ⟨x3_5,x8_5,(wrap64 (x9_4 + 1)),_,_,(by first | rfl | (simp;done) | (simp [*];done) | (rw [w6_ (by omega) (by omega)])),rfl,(by first | exact H | (simp only [F];exact H)),(by first | omega | exact Nat.le_refl _),S⟩) | (exact ⟨x3_5,x8_5,(wrap64 (x9_4 + 1)),_,_,(by first | rfl | (simp;done) | (simp [*];done) | (rw [w6_ (by omega) (by omega)])),rfl,(by first | exact H | (simp only [F];exact H)),(by first | omega | exact Nat.le_refl _),S.tl⟩)
               · skip
                 go_wp2_with (first | ((with_reducible refine gs (t:=3) rfl (L ?_));(first | refine sb (.int _ _) S sz3 ?_ | refine ro (.int _ _) S sz3 ?_ (ho:=rfl) (hx:=rfl) (hy:=rfl));clear S F;intro W S;(try simp only [gd88] at S);(try rw [← Ny208.out] at S);(try rw [← Ny216.out] at S);(try rw [← Ny217.out] at S);have F:=S.fc) | ((with_reducible refine gs (t:=88) rfl (L ?_));(first | refine sb (.agg #[_,_]) S sz88 ?_ | refine ro (.agg #[_,_]) S sz88 ?_ (ho:=rfl) (hx:=rfl) (hy:=rfl));clear S F;intro W S;(try simp only [gd88] at S);(try rw [← Ny208.out] at S);(try rw [← Ny216.out] at S);(try rw [← Ny217.out] at S);have F:=S.fc))
                 go_roundg k4
                 case measure=>omega
                 case rel=>exact ⟨x3_4,(wrap64 (x5_2 + 1)),(wrap64 (x28_2 + 1)),(by first | rfl | (simp;done) | (simp [*];done) | (rw [w6_ (by omega) (by omega)])),(by first | rfl | (simp;done) | (simp [*];done) | (rw [w6_ (by omega) (by omega)])),(by first | exact H | (simp only [F];exact H)),(by first | omega | exact Nat.le_refl _),S.tl.tl⟩
       · skip
         obtain rfl:=Option.some.inj H
         go_wp2_with (first | ((with_reducible refine gs (t:=3) rfl (L ?_));(first | refine sb (.int _ _) S sz3 ?_ | refine ro (.int _ _) S sz3 ?_ (ho:=rfl) (hx:=rfl) (hy:=rfl));clear S F;intro W S;(try simp only [gd88] at S);(try rw [← Ny208.out] at S);have F:=S.fc) | ((with_reducible refine gs (t:=88) rfl (L ?_));(first | refine sb (.agg #[_,_]) S sz88 ?_ | refine ro (.agg #[_,_]) S sz88 ?_ (ho:=rfl) (hx:=rfl) (hy:=rfl));clear S F;intro W S;(try simp only [gd88] at S);(try rw [← Ny208.out] at S);have F:=S.fc))
         go_ret
         exact ⟨_,(by first | rfl | (simp [e0_,e1_] <;> rfl) | (simp [*,e0_,e1_] <;> rfl)),(by first | exact S.r | exact Kd.R_nil _ _ _ _ _),S.below⟩
end Go.Proofs.Ytipaimgpmgbkiaa.F
