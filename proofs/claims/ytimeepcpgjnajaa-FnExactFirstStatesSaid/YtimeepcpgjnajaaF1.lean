-- Printed by a program; checked here.
import Derived.Test.YtimeepcpgjnajaaF0
namespace Go.Proofs.Ytimeepcpgjnajaa.F
open Go.RowKit Go.Proofs.YtimeepcpgjnajaaV.PrintWords Go.Proofs.YtimeepcpgjnajaaV.PrintLast Go.Proofs.YtimeepcpgjnajaaV.PrintMore Go.Proofs.YtimeepcpgjnajaaV.Sl
attribute [local go_sem] max2_int min2_int max_two min_two max_three min_three max_four min_four ia_opt it_opt
attribute [local go_sem] Try.underlying23 Try.underlying25 Try.underlying27 Try.underlying35 Try.underlying50 Try.underlying80 Try.underlying114 Try.underlying137
set_option maxHeartbeats 8000000
set_option maxRecDepth 100000
set_option linter.unusedVariables false
set_option linter.unusedSimpArgs false

/-! ### laws_szCellS: function 99 -/
def laws_szCellS.f (l0:List (S80)) (a1:Int):Option (Int):=if (wrap64 (a1 - (l0.length:Int))) < 0 then (some (-1)) else (some (wrap64 (a1 - (l0.length:Int))))
theorem laws_szCellS.calls (A0:Option Addr) (c0:Nat) (l0:List (S80)) (a1:Int) (r:Int) (w:World) (hr0:Kd.C k80 w A0 l0.length l0) (hc0:l0.length ≤ c0) (h:laws_szCellS.f l0 a1 = some r) :
  Calls Try.prog 99 #[.slice A0 l0.length c0,.int .i64 a1] w fun e w'=>e = .returned (.int .i64 r)∧Drawn0 w w':=by
 have HR0:=Aside0.mk hr0;have HC0:=Aside0.mk hc0;clear hr0 hc0;have H:(if (wrap64 (a1 - (l0.length:Int))) < 0 then (some (-1)) else (some (wrap64 (a1 - (l0.length:Int))))) = some r:=h;clear h;by_cases c3:(wrap64 (a1 - (l0.length:Int))) < 0
 ·rw [if_pos c3] at H;have c3b0:decide ((wrap64 (a1 - (l0.length:Int))) < 0) = true:=decide_eq_true c3;clear c3;obtain rfl:=Option.some.inj H;go_enter Try.func99,Try.ntmps99;go_wp2;go_ret;exact ⟨by first | rfl | (simp;done) | (simp [*];done),by repeat (first | exact Drawn0.refl _ | apply Drawn0.step)⟩
 ·rw [if_neg c3] at H;have c3b0:decide ((wrap64 (a1 - (l0.length:Int))) < 0) = false:=decide_eq_false c3;clear c3;obtain rfl:=Option.some.inj H;go_enter Try.func99,Try.ntmps99;go_wp2;go_ret;exact ⟨by first | rfl | (simp;done) | (simp [*];done),by repeat (first | exact Drawn0.refl _ | apply Drawn0.step)⟩

/-! ### laws_szBoard: function 37 -/
def laws_szBoard.f (a0_0:Int) (a0_1:Int) (l0_2:List (S80)) (a1:Int):Option (Int):=(laws_szCellS.f l0_2 a1).bind fun t102=>(if t102 < 0 then (some (-1)) else (some t102))
theorem laws_szBoard.calls (a0_0:Int) (a0_1:Int) (A0_2:Option Addr) (c0_2:Nat) (l0_2:List (S80)) (a1:Int) (r:Int) (w:World) (hr0_2:Kd.C k80 w A0_2 l0_2.length l0_2) (hc0_2:l0_2.length ≤ c0_2) (h:laws_szBoard.f a0_0 a0_1 l0_2 a1 = some r) :
    Calls Try.prog 37 #[.agg #[.int .i64 a0_0,.int .i64 a0_1,.slice A0_2 l0_2.length c0_2],.int .i64 a1] w fun e w'=>e = .returned (.int .i64 r)∧Below w.heap.size w w':=by
 have S:=St.init (w:=w) (dc k80_heap at80 hr0_2 hc0_2 dn)
 clear hr0_2 hc0_2
 have F:=S.fc
 have H:=h;clear h;unfold laws_szBoard.f at H
 replace H:=Option.bind_eq_some_iff.mp H;obtain ⟨t102,A3,H⟩:=H;(try dsimp only at H)
 replace H:=sp_ H;rcases H with ⟨c4,H⟩ | ⟨c4,H⟩
 · skip
   obtain rfl:=Option.some.inj H
   go_enter Try.func37,Try.ntmps37
   go_wp2_with (first | ((with_reducible refine gd 2 rfl (L ?_));refine bo 2 (.agg #[_,_,_]) S ?_;clear S F;intro gb101 W S;have F:=S.fc) | ((with_reducible refine gate_callee (f:=99) rfl (L ?_));refine cl (some 8) Try.func99 (laws_szCellS.calls _ _ _ _ _ _ S.c S.n A3) (hargs:=by (simp only [ma_,mb_,mc_,F] <;> rfl)) (h:=?_);rintro e W ⟨rfl,hb⟩;refine ⟨_,rfl,?_⟩;replace S:=S.gw hb;clear F hb;have F:=S.fc))
   go_ret
   exact ⟨(by first | rfl | (simp [e0_,e1_] <;> rfl) | (simp [*,e0_,e1_] <;> rfl)),S.below⟩
 · skip
   obtain rfl:=Option.some.inj H
   go_enter Try.func37,Try.ntmps37
   go_wp2_with (first | ((with_reducible refine gd 2 rfl (L ?_));refine bo 2 (.agg #[_,_,_]) S ?_;clear S F;intro gb101 W S;have F:=S.fc) | ((with_reducible refine gate_callee (f:=99) rfl (L ?_));refine cl (some 8) Try.func99 (laws_szCellS.calls _ _ _ _ _ _ S.c S.n A3) (hargs:=by (simp only [ma_,mb_,mc_,F] <;> rfl)) (h:=?_);rintro e W ⟨rfl,hb⟩;refine ⟨_,rfl,?_⟩;replace S:=S.gw hb;clear F hb;have F:=S.fc))
   go_ret
   exact ⟨(by first | rfl | (simp [e0_,e1_] <;> rfl) | (simp [*,e0_,e1_] <;> rfl)),S.below⟩

/-! ### spec_l1In: function 96 -/
def spec_l1In.f (a0:Int) (a1:Int) (a2:Int):Option (Bool):=if a0 ≥ a1 then (some (decide (a0 ≤ a2))) else (some false)
theorem spec_l1In.calls (a0:Int) (a1:Int) (a2:Int) (r:Bool) (w:World) (h:spec_l1In.f a0 a1 a2 = some r) :
  Calls Try.prog 96 #[.int .i64 a0,.int .i64 a1,.int .i64 a2] w fun e w'=>e = .returned (.bool r)∧Drawn0 w w':=by
 have H:(if a0 ≥ a1 then (some (decide (a0 ≤ a2))) else (some false)) = some r:=h;clear h;by_cases c4:a0 ≥ a1
 ·rw [if_pos c4] at H;have c4b0:decide (a1 ≤ a0) = true:=decide_eq_true c4;clear c4;obtain rfl:=Option.some.inj H;go_enter Try.func96,Try.ntmps96;go_wp2;go_ret;exact ⟨by first | rfl | (simp;done) | (simp [*];done),by repeat (first | exact Drawn0.refl _ | apply Drawn0.step)⟩
 ·rw [if_neg c4] at H;have c4b0:decide (a1 ≤ a0) = false:=decide_eq_false c4;clear c4;obtain rfl:=Option.some.inj H;go_enter Try.func96,Try.ntmps96;go_wp2;go_ret;exact ⟨by first | rfl | (simp;done) | (simp [*];done),by repeat (first | exact Drawn0.refl _ | apply Drawn0.step)⟩

/-! ### spec_paTurning: function 139 -/
def spec_paTurning.f (a0_0:Int) (a0_1:Int):Option (Bool):=if a0_0 = 3 then (some true) else (some (a0_0 == 6))
theorem spec_paTurning.calls (a0_0:Int) (a0_1:Int) (r:Bool) (w:World) (h:spec_paTurning.f a0_0 a0_1 = some r) :
    Calls Try.prog 139 #[.agg #[.int .i64 a0_0,.int .i64 a0_1]] w fun e w'=>e = .returned (.bool r)∧Below w.heap.size w w':=by
 have S:=St.init (w:=w) dn
 have F:=S.fc
 have H:=h;clear h;unfold spec_paTurning.f at H
 replace H:=sp_ H;rcases H with ⟨c2,H⟩ | ⟨c2,H⟩
 · skip
   replace c2:=ceq c2
   obtain rfl:=Option.some.inj H
   go_enter Try.func139,Try.ntmps139
   go_wp2_with (first | ((with_reducible refine gd 1 rfl (L ?_));refine bo 1 (.agg #[_,_]) S ?_;clear S F;intro gb103 W S;have F:=S.fc))
   go_ret
   exact ⟨(by first | rfl | (simp [e0_,e1_] <;> rfl) | (simp [*,e0_,e1_] <;> rfl)),S.below⟩
 · skip
   replace c2:=cne c2
   obtain rfl:=Option.some.inj H
   go_enter Try.func139,Try.ntmps139
   go_wp2_with (first | ((with_reducible refine gd 1 rfl (L ?_));refine bo 1 (.agg #[_,_]) S ?_;clear S F;intro gb103 W S;have F:=S.fc))
   go_ret
   exact ⟨(by first | rfl | (simp [e0_,e1_] <;> rfl) | (simp [*,e0_,e1_] <;> rfl)),S.below⟩

/-! ### spec_paGood: function 82 -/
def spec_paGood.f (a0_0:Int) (a0_1:Int):Option (Bool):=(spec_l1In.f a0_0 0 7).bind fun t105=>(if t105 = true then (if a0_1 = 0 then (some true) else (if a0_1 = 1 then ((spec_paTurning.f a0_0 a0_1).bind fun t106=>(some t106)) else (some false))) else (some false))
theorem spec_paGood.calls (a0_0:Int) (a0_1:Int) (r:Bool) (w:World) (h:spec_paGood.f a0_0 a0_1 = some r) :
    Calls Try.prog 82 #[.agg #[.int .i64 a0_0,.int .i64 a0_1]] w fun e w'=>e = .returned (.bool r)∧Below w.heap.size w w':=by
 have S:=St.init (w:=w) dn
 have F:=S.fc
 have H:=h;clear h;unfold spec_paGood.f at H
 replace H:=Option.bind_eq_some_iff.mp H;obtain ⟨t105,A2,H⟩:=H;(try dsimp only at H)
 replace H:=sp_ H;rcases H with ⟨c3,H⟩ | ⟨c3,H⟩
 · skip
   subst c3
   replace H:=sp_ H;rcases H with ⟨c4,H⟩ | ⟨c4,H⟩
   · skip
     replace c4:=ceq c4
     obtain rfl:=Option.some.inj H
     go_enter Try.func82,Try.ntmps82
     go_wp2_with (first | ((with_reducible refine gd 1 rfl (L ?_));refine bo 1 (.agg #[_,_]) S ?_;clear S F;intro gb104 W S;have F:=S.fc) | ((with_reducible refine gate_callee (f:=96) rfl (L ?_));refine cl (some 5) Try.func96 (spec_l1In.calls _ _ _ _ _ A2) (hargs:=by (simp only [ma_,mb_,mc_,F] <;> rfl)) (h:=?_);rintro e W ⟨rfl,hb⟩;refine ⟨_,rfl,?_⟩;replace S:=S.gw hb;clear F hb;have F:=S.fc))
     go_ret
     exact ⟨(by first | rfl | (simp [e0_,e1_] <;> rfl) | (simp [*,e0_,e1_] <;> rfl)),S.below⟩
   · skip
     replace c4:=cne c4
     replace H:=sp_ H;rcases H with ⟨c7,H⟩ | ⟨c7,H⟩
     · skip
       replace c7:=ceq c7
       replace H:=Option.bind_eq_some_iff.mp H;obtain ⟨t106,A8,H⟩:=H;(try dsimp only at H)
       obtain rfl:=Option.some.inj H
       go_enter Try.func82,Try.ntmps82
       go_wp2_with (first | ((with_reducible refine gd 1 rfl (L ?_));refine bo 1 (.agg #[_,_]) S ?_;clear S F;intro gb104 W S;have F:=S.fc) | ((with_reducible refine gate_callee (f:=96) rfl (L ?_));refine cl (some 5) Try.func96 (spec_l1In.calls _ _ _ _ _ A2) (hargs:=by (simp only [ma_,mb_,mc_,F] <;> rfl)) (h:=?_);rintro e W ⟨rfl,hb⟩;refine ⟨_,rfl,?_⟩;replace S:=S.gw hb;clear F hb;have F:=S.fc) | (go_at_call 139;(try simp only [F]);refine (spec_paTurning.calls _ _ _ _ A8).mono ?_;rintro e W ⟨rfl,hb⟩;replace S:=S.go hb;clear F hb;have F:=S.fc))
       go_ret
       exact ⟨(by first | rfl | (simp [e0_,e1_] <;> rfl) | (simp [*,e0_,e1_] <;> rfl)),S.below⟩
     · skip
       replace c7:=cne c7
       obtain rfl:=Option.some.inj H
       go_enter Try.func82,Try.ntmps82
       go_wp2_with (first | ((with_reducible refine gd 1 rfl (L ?_));refine bo 1 (.agg #[_,_]) S ?_;clear S F;intro gb104 W S;have F:=S.fc) | ((with_reducible refine gate_callee (f:=96) rfl (L ?_));refine cl (some 5) Try.func96 (spec_l1In.calls _ _ _ _ _ A2) (hargs:=by (simp only [ma_,mb_,mc_,F] <;> rfl)) (h:=?_);rintro e W ⟨rfl,hb⟩;refine ⟨_,rfl,?_⟩;replace S:=S.gw hb;clear F hb;have F:=S.fc))
       go_ret
       exact ⟨(by first | rfl | (simp [e0_,e1_] <;> rfl) | (simp [*,e0_,e1_] <;> rfl)),S.below⟩
 · skip
   replace c3:=cbf c3;subst c3
   obtain rfl:=Option.some.inj H
   go_enter Try.func82,Try.ntmps82
   go_wp2_with (first | ((with_reducible refine gd 1 rfl (L ?_));refine bo 1 (.agg #[_,_]) S ?_;clear S F;intro gb104 W S;have F:=S.fc) | ((with_reducible refine gate_callee (f:=96) rfl (L ?_));refine cl (some 5) Try.func96 (spec_l1In.calls _ _ _ _ _ A2) (hargs:=by (simp only [ma_,mb_,mc_,F] <;> rfl)) (h:=?_);rintro e W ⟨rfl,hb⟩;refine ⟨_,rfl,?_⟩;replace S:=S.gw hb;clear F hb;have F:=S.fc))
   go_ret
   exact ⟨(by first | rfl | (simp [e0_,e1_] <;> rfl) | (simp [*,e0_,e1_] <;> rfl)),S.below⟩

/-! ### spec_boGood: function 89 -/
mutual
def spec_boGood.j0:Nat→Bool→Int→Int→List (S27)→Option (Bool)
  | 0,_,_,_,_=>none
  | k + 1,x25,x108000,x108001,x108002=>if x25 = true then (some false) else (spec_boGood.l0 k x108002 (x108002.length:Int) 0)
def spec_boGood.l0:Nat→List (S27)→Int→Int→Option (Bool)
  | 0,_,_,_=>none
  | k + 1,x27,x28,x29=>if x29 < x28 then (if 0 ≤ x29 then (if x29 < (x27.length:Int) then ((spec_paGood.f ((rd_T27 x27 x29).f0) ((rd_T27 x27 x29).f1)).bind fun t112=>(if t112 = true then (spec_boGood.l0 k x27 x28 (wrap64 (x29 + 1))) else (some false))) else (none)) else (none)) else (some true)
end
def spec_boGood.f (k:Nat) (a0_0:Int) (a0_1:Int) (l0_2:List (S27)):Option (Bool):=(spec_l1In.f a0_0 1 10).bind fun t108=>(if t108 = true then ((spec_l1In.f a0_1 1 9).bind fun t109=>(if t109 = true then (spec_boGood.j0 k ((l0_2.length:Int) != (wrap64 (a0_0 * a0_1))) a0_0 a0_1 l0_2) else (spec_boGood.j0 k true a0_0 a0_1 l0_2))) else (spec_boGood.j0 k true a0_0 a0_1 l0_2))
theorem spec_boGood.calls (k:Nat) (a0_0:Int) (a0_1:Int) (A0_2:Option Addr) (c0_2:Nat) (l0_2:List (S27)) (r:Bool) (w:World) (hr0_2:Kd.C k27 w A0_2 l0_2.length l0_2) (hc0_2:l0_2.length ≤ c0_2) (h:spec_boGood.f k a0_0 a0_1 l0_2 = some r) :
    Calls Try.prog 89 #[.agg #[.int .i64 a0_0,.int .i64 a0_1,.slice A0_2 l0_2.length c0_2]] w fun e w'=>e = .returned (.bool r)∧Below w.heap.size w w':=by
 have S:=St.init (w:=w) (dc k27_heap at27 hr0_2 hc0_2 dn)
 clear hr0_2 hc0_2
 have F:=S.fc
 have H:=h;clear h;unfold spec_boGood.f at H
 go_enter Try.func89,Try.ntmps89
 go_upto_region 1 with (first | ((with_reducible refine gd 1 rfl (L ?_));refine bo 1 (.agg #[_,_,_]) S ?_;clear S F;intro gb107 W S;have F:=S.fc) | ((with_reducible refine gs (t:=27) rfl (L ?_));(first | refine sb (.agg #[_,_]) S sz27 ?_ | refine ro (.agg #[_,_]) S sz27 ?_ (ho:=rfl) (hx:=rfl) (hy:=rfl));(clear S F;intro W S;have F:=S.fc)))
 (try simp only [Act.put,List.setIfInBounds_toArray,List.set_cons_zero,List.set_cons_succ])
 go_cut [25] (fun v25 wc=>∃ (kq:Nat) (x25_1:Bool),v25 = .bool x25_1∧spec_boGood.j0 kq x25_1 a0_0 a0_1 l0_2 = some r∧kq ≤ k∧St w w (fun _=>False) [bor at27 A0_2 c0_2 l0_2] wc  [box gb107 25 [.int .i64 a0_0,.int .i64 a0_1,.slice A0_2 l0_2.length c0_2]])
 case first =>
  replace H:=Option.bind_eq_some_iff.mp H;obtain ⟨t108,A4,H⟩:=H;(try dsimp only at H)
  replace H:=sp_ H;rcases H with ⟨c5,H⟩ | ⟨c5,H⟩
  · skip
    subst c5
    replace H:=Option.bind_eq_some_iff.mp H;obtain ⟨t109,A6,H⟩:=H;(try dsimp only at H)
    replace H:=sp_ H;rcases H with ⟨c7,H⟩ | ⟨c7,H⟩
    · skip
      subst c7
      go_wp2_with (first | ((with_reducible refine gate_callee (f:=96) rfl (L ?_));refine cl (some 7) Try.func96 (spec_l1In.calls _ _ _ _ _ A4) (hargs:=by (simp only [ma_,mb_,mc_,F] <;> rfl)) (h:=?_);rintro e W ⟨rfl,hb⟩;refine ⟨_,rfl,?_⟩;replace S:=S.gw hb;clear F hb;have F:=S.fc) | (go_at_call 96;(try simp only [F]);refine (spec_l1In.calls _ _ _ _ _ A6).mono ?_;rintro e W ⟨rfl,hb⟩;replace S:=S.gw hb;clear F hb;have F:=S.fc) | ((with_reducible refine gs (t:=27) rfl (L ?_));(first | refine sb (.agg #[_,_]) S sz27 ?_ | refine ro (.agg #[_,_]) S sz27 ?_ (ho:=rfl) (hx:=rfl) (hy:=rfl));(clear S F;intro W S;have F:=S.fc)))
      go_meet
      case rel=>exact ⟨_,((l0_2.length:Int) != (wrap64 (a0_0 * a0_1))),(by first | rfl | (simp;done) | (simp [*];done) | (rw [w6_ (by omega) (by omega)])),H,(by first | omega | exact Nat.le_refl _),S⟩
    · skip
      replace c7:=cbf c7;subst c7
      go_wp2_with (first | ((with_reducible refine gate_callee (f:=96) rfl (L ?_));refine cl (some 7) Try.func96 (spec_l1In.calls _ _ _ _ _ A4) (hargs:=by (simp only [ma_,mb_,mc_,F] <;> rfl)) (h:=?_);rintro e W ⟨rfl,hb⟩;refine ⟨_,rfl,?_⟩;replace S:=S.gw hb;clear F hb;have F:=S.fc) | (go_at_call 96;(try simp only [F]);refine (spec_l1In.calls _ _ _ _ _ A6).mono ?_;rintro e W ⟨rfl,hb⟩;replace S:=S.gw hb;clear F hb;have F:=S.fc) | ((with_reducible refine gs (t:=27) rfl (L ?_));(first | refine sb (.agg #[_,_]) S sz27 ?_ | refine ro (.agg #[_,_]) S sz27 ?_ (ho:=rfl) (hx:=rfl) (hy:=rfl));(clear S F;intro W S;have F:=S.fc)))
      go_meet
      case rel=>exact ⟨_,true,(by first | rfl | (simp;done) | (simp [*];done) | (rw [w6_ (by omega) (by omega)])),H,(by first | omega | exact Nat.le_refl _),S⟩
  · skip
    replace c5:=cbf c5;subst c5
    go_wp2_with (first | ((with_reducible refine gate_callee (f:=96) rfl (L ?_));refine cl (some 7) Try.func96 (spec_l1In.calls _ _ _ _ _ A4) (hargs:=by (simp only [ma_,mb_,mc_,F] <;> rfl)) (h:=?_);rintro e W ⟨rfl,hb⟩;refine ⟨_,rfl,?_⟩;replace S:=S.gw hb;clear F hb;have F:=S.fc) | ((with_reducible refine gs (t:=27) rfl (L ?_));(first | refine sb (.agg #[_,_]) S sz27 ?_ | refine ro (.agg #[_,_]) S sz27 ?_ (ho:=rfl) (hx:=rfl) (hy:=rfl));(clear S F;intro W S;have F:=S.fc)))
    go_meet
    case rel=>exact ⟨_,true,(by first | rfl | (simp;done) | (simp [*];done) | (rw [w6_ (by omega) (by omega)])),H,(by first | omega | exact Nat.le_refl _),S⟩
 case rest =>
  clear H S F
  obtain ⟨kq,x25_1,rfl,HA,HJ1,S⟩:=hcut
  have F:=S.fc
  cases kq with
  | zero=>exact absurd HA (by simp [spec_boGood.j0])
  | succ kj1 =>
   have H:=HA;clear HA;simp only [spec_boGood.j0,F] at H
   replace H:=sp_ H;rcases H with ⟨c11,H⟩ | ⟨c11,H⟩
   · skip
     subst c11
     obtain rfl:=Option.some.inj H
     go_wp2_with (first | ((with_reducible refine gs (t:=27) rfl (L ?_));(first | refine sb (.agg #[_,_]) S sz27 ?_ | refine ro (.agg #[_,_]) S sz27 ?_ (ho:=rfl) (hx:=rfl) (hy:=rfl));(clear S F;intro W S;have F:=S.fc)))
     go_ret
     exact ⟨(by first | rfl | (simp [e0_,e1_] <;> rfl) | (simp [*,e0_,e1_] <;> rfl)),S.below⟩
   · skip
     replace c11:=cbf c11;subst c11
     go_wp2_with (first | ((with_reducible refine gs (t:=27) rfl (L ?_));(first | refine sb (.agg #[_,_]) S sz27 ?_ | refine ro (.agg #[_,_]) S sz27 ?_ (ho:=rfl) (hx:=rfl) (hy:=rfl));(clear S F;intro W S;have F:=S.fc)))
     go_loopg [29] kj1 (fun kq v29 w'=>∃ (x29_2:Int),v29 = .int .i64 x29_2∧spec_boGood.l0 kq l0_2 (l0_2.length:Int) x29_2 = some r∧kq ≤ kj1∧St w w (fun _=>False) [bor at27 A0_2 c0_2 l0_2] w'  [box gb107 25 [.int .i64 a0_0,.int .i64 a0_1,.slice A0_2 l0_2.length c0_2]])
     case atStart=>exact ⟨0,(by first | rfl | (simp;done) | (simp [*];done) | (rw [w6_ (by omega) (by omega)])),H,Nat.le_refl _,S⟩
     case round =>
      clear H S F
      obtain ⟨x29_2,rfl,HA,HK2,S⟩:=hrel
      have F:=S.fc
      cases gk with
      | zero=>exact absurd HA (by simp [spec_boGood.l0])
      | succ k2 =>
       have H:=HA;clear HA;simp only [spec_boGood.l0,F] at H
       replace H:=sp_ H;rcases H with ⟨c13,H⟩ | ⟨c13,H⟩
       · skip
         replace H:=np_ H;obtain ⟨c14,H⟩:=H
         replace H:=np_ H;obtain ⟨c15,H⟩:=H
         replace H:=Option.bind_eq_some_iff.mp H;obtain ⟨t112,A16,H⟩:=H;(try dsimp only at H)
         replace H:=sp_ H;rcases H with ⟨c17,H⟩ | ⟨c17,H⟩
         · skip
           subst c17
           go_wp2_with (first | ((with_reducible refine gd 4 rfl (L ?_));refine al 4 S zi27 ?_;clear S F;intro gb111 W S;have F:=S.fc) | ((with_reducible refine gate_callee (f:=82) rfl (L ?_));refine cl (some 34) Try.func82 (spec_paGood.calls _ _ _ _ A16) (hargs:=by (simp only [ma_,mb_,mc_,F] <;> rfl)) (h:=?_);rintro e W ⟨rfl,hb⟩;refine ⟨_,rfl,?_⟩;replace S:=S.go hb;clear F hb;have F:=S.fc) | ((with_reducible refine gs (t:=27) rfl (L ?_));(first | refine sb (.agg #[_,_]) S sz27 ?_ | refine ro (.agg #[_,_]) S sz27 ?_ (ho:=rfl) (hx:=rfl) (hy:=rfl));(clear S F;intro W S;have F:=S.fc)))
           go_roundg k2
           case measure=>omega
           case rel=>exact ⟨(wrap64 (x29_2 + 1)),(by first | rfl | (simp;done) | (simp [*];done) | (rw [w6_ (by omega) (by omega)])),H,(by first | omega | exact Nat.le_refl _),S.tl⟩
         · skip
           replace c17:=cbf c17;subst c17
           obtain rfl:=Option.some.inj H
           go_wp2_with (first | ((with_reducible refine gd 4 rfl (L ?_));refine al 4 S zi27 ?_;clear S F;intro gb111 W S;have F:=S.fc) | ((with_reducible refine gate_callee (f:=82) rfl (L ?_));refine cl (some 34) Try.func82 (spec_paGood.calls _ _ _ _ A16) (hargs:=by (simp only [ma_,mb_,mc_,F] <;> rfl)) (h:=?_);rintro e W ⟨rfl,hb⟩;refine ⟨_,rfl,?_⟩;replace S:=S.go hb;clear F hb;have F:=S.fc) | ((with_reducible refine gs (t:=27) rfl (L ?_));(first | refine sb (.agg #[_,_]) S sz27 ?_ | refine ro (.agg #[_,_]) S sz27 ?_ (ho:=rfl) (hx:=rfl) (hy:=rfl));(clear S F;intro W S;have F:=S.fc)))
           go_ret
           exact ⟨(by first | rfl | (simp [e0_,e1_] <;> rfl) | (simp [*,e0_,e1_] <;> rfl)),S.below⟩
       · skip
         obtain rfl:=Option.some.inj H
         go_wp2_with (first | ((with_reducible refine gs (t:=27) rfl (L ?_));(first | refine sb (.agg #[_,_]) S sz27 ?_ | refine ro (.agg #[_,_]) S sz27 ?_ (ho:=rfl) (hx:=rfl) (hy:=rfl));(clear S F;intro W S;have F:=S.fc)))
         go_ret
         exact ⟨(by first | rfl | (simp [e0_,e1_] <;> rfl) | (simp [*,e0_,e1_] <;> rfl)),S.below⟩

/-! ### spec_flHas: function 141 -/
def spec_flHas.f (k:Nat) (a0_0:Int) (a0_1:Int) (l0_2:List (S27)) (a1:Int):Option (Bool):=(spec_boGood.f k a0_0 a0_1 l0_2).bind fun t114=>(if t114 = true then ((spec_l1In.f a1 0 (wrap64 (a0_1 - 1))).bind fun t115=>(some t115)) else (some false))
theorem spec_flHas.calls (k:Nat) (a0_0:Int) (a0_1:Int) (A0_2:Option Addr) (c0_2:Nat) (l0_2:List (S27)) (a1:Int) (r:Bool) (w:World) (hr0_2:Kd.C k27 w A0_2 l0_2.length l0_2) (hc0_2:l0_2.length ≤ c0_2) (h:spec_flHas.f k a0_0 a0_1 l0_2 a1 = some r) :
    Calls Try.prog 141 #[.agg #[.int .i64 a0_0,.int .i64 a0_1,.slice A0_2 l0_2.length c0_2],.int .i64 a1] w fun e w'=>e = .returned (.bool r)∧Below w.heap.size w w':=by
 have S:=St.init (w:=w) (dc k27_heap at27 hr0_2 hc0_2 dn)
 clear hr0_2 hc0_2
 have F:=S.fc
 have H:=h;clear h;unfold spec_flHas.f at H
 replace H:=Option.bind_eq_some_iff.mp H;obtain ⟨t114,A3,H⟩:=H;(try dsimp only at H)
 replace H:=sp_ H;rcases H with ⟨c4,H⟩ | ⟨c4,H⟩
 · skip
   subst c4
   replace H:=Option.bind_eq_some_iff.mp H;obtain ⟨t115,A5,H⟩:=H;(try dsimp only at H)
   obtain rfl:=Option.some.inj H
   go_enter Try.func141,Try.ntmps141
   go_wp2_with (first | ((with_reducible refine gd 2 rfl (L ?_));refine bo 2 (.agg #[_,_,_]) S ?_;clear S F;intro gb113 W S;have F:=S.fc) | ((with_reducible refine gate_callee (f:=89) rfl (L ?_));refine cl (some 6) Try.func89 (spec_boGood.calls _ _ _ _ _ _ _ _ S.c S.n A3) (hargs:=by (simp only [ma_,mb_,mc_,F] <;> rfl)) (h:=?_);rintro e W ⟨rfl,hb⟩;refine ⟨_,rfl,?_⟩;replace S:=S.go hb;clear F hb;have F:=S.fc) | (go_at_call 96;(try simp only [F]);refine (spec_l1In.calls _ _ _ _ _ A5).mono ?_;rintro e W ⟨rfl,hb⟩;replace S:=S.gw hb;clear F hb;have F:=S.fc))
   go_ret
   exact ⟨(by first | rfl | (simp [e0_,e1_] <;> rfl) | (simp [*,e0_,e1_] <;> rfl)),S.below⟩
 · skip
   replace c4:=cbf c4;subst c4
   obtain rfl:=Option.some.inj H
   go_enter Try.func141,Try.ntmps141
   go_wp2_with (first | ((with_reducible refine gd 2 rfl (L ?_));refine bo 2 (.agg #[_,_,_]) S ?_;clear S F;intro gb113 W S;have F:=S.fc) | ((with_reducible refine gate_callee (f:=89) rfl (L ?_));refine cl (some 6) Try.func89 (spec_boGood.calls _ _ _ _ _ _ _ _ S.c S.n A3) (hargs:=by (simp only [ma_,mb_,mc_,F] <;> rfl)) (h:=?_);rintro e W ⟨rfl,hb⟩;refine ⟨_,rfl,?_⟩;replace S:=S.go hb;clear F hb;have F:=S.fc))
   go_ret
   exact ⟨(by first | rfl | (simp [e0_,e1_] <;> rfl) | (simp [*,e0_,e1_] <;> rfl)),S.below⟩

/-! ### spec_ggGear: function 183 -/
def spec_ggGear.f (a0_0:Int) (a0_1:Int):Option (Bool):=if a0_0 = 6 then (some true) else (some (a0_0 == 7))
theorem spec_ggGear.calls (a0_0:Int) (a0_1:Int) (r:Bool) (w:World) (h:spec_ggGear.f a0_0 a0_1 = some r) :
    Calls Try.prog 183 #[.agg #[.int .i64 a0_0,.int .i64 a0_1]] w fun e w'=>e = .returned (.bool r)∧Below w.heap.size w w':=by
 have S:=St.init (w:=w) dn
 have F:=S.fc
 have H:=h;clear h;unfold spec_ggGear.f at H
 replace H:=sp_ H;rcases H with ⟨c2,H⟩ | ⟨c2,H⟩
 · skip
   replace c2:=ceq c2
   obtain rfl:=Option.some.inj H
   go_enter Try.func183,Try.ntmps183
   go_wp2_with (first | ((with_reducible refine gd 1 rfl (L ?_));refine bo 1 (.agg #[_,_]) S ?_;clear S F;intro gb116 W S;have F:=S.fc))
   go_ret
   exact ⟨(by first | rfl | (simp [e0_,e1_] <;> rfl) | (simp [*,e0_,e1_] <;> rfl)),S.below⟩
 · skip
   replace c2:=cne c2
   obtain rfl:=Option.some.inj H
   go_enter Try.func183,Try.ntmps183
   go_wp2_with (first | ((with_reducible refine gd 1 rfl (L ?_));refine bo 1 (.agg #[_,_]) S ?_;clear S F;intro gb116 W S;have F:=S.fc))
   go_ret
   exact ⟨(by first | rfl | (simp [e0_,e1_] <;> rfl) | (simp [*,e0_,e1_] <;> rfl)),S.below⟩

/-! ### spec_ggNear: function 184 -/
mutual
def spec_ggNear.j0:Nat→Int→Int→Int→List Int→Int→Int→List (S27)→Option (List Int)
  | 0,_,_,_,_,_,_,_=>none
  | k + 1,x1,x5,x6,x7,x118000,x118001,x118002=>if x6 > 0 then (if x7.length < 17592186044416 then (spec_ggNear.j1 k x1 x5 x6 (x7 ++ [wrap64 (x1 - 1)]) x118000 x118001 x118002) else (none)) else (spec_ggNear.j1 k x1 x5 x6 x7 x118000 x118001 x118002)
def spec_ggNear.j1:Nat→Int→Int→Int→List Int→Int→Int→List (S27)→Option (List Int)
  | 0,_,_,_,_,_,_,_=>none
  | k + 1,x1,x5,x6,x7,x118000,x118001,x118002=>if (wrap64 (x6 + 1)) < x118001 then (if x7.length < 17592186044416 then ((some (x7 ++ [wrap64 (x1 + 1)]:List Int)).bind fun y124=>(if (wrap64 (x5 + 1)) < x118000 then (if y124.length < 17592186044416 then (some (y124 ++ [wrap64 (x1 + x118001)])) else (none)) else (some y124))) else (none)) else (if (wrap64 (x5 + 1)) < x118000 then (if x7.length < 17592186044416 then (some (x7 ++ [wrap64 (x1 + x118001)])) else (none)) else (some x7))
end
def spec_ggNear.f (k:Nat) (a0_0:Int) (a0_1:Int) (l0_2:List (S27)) (a1:Int):Option (List Int):=if a0_1 = 0 then (none) else (if (wrap64 (Int.tdiv a1 a0_1)) > 0 then (if ([]:List Int).length < 17592186044416 then (spec_ggNear.j0 k a1 (wrap64 (Int.tdiv a1 a0_1)) (Int.tmod a1 a0_1) (([]:List Int) ++ [wrap64 (a1 - a0_1)]) a0_0 a0_1 l0_2) else (none)) else (spec_ggNear.j0 k a1 (wrap64 (Int.tdiv a1 a0_1)) (Int.tmod a1 a0_1) ([]:List Int) a0_0 a0_1 l0_2))
theorem spec_ggNear.calls (k:Nat) (a0_0:Int) (a0_1:Int) (A0_2:Option Addr) (c0_2:Nat) (l0_2:List (S27)) (a1:Int) (r:List Int) (w:World) (hr0_2:Kd.C k27 w A0_2 l0_2.length l0_2) (hc0_2:l0_2.length ≤ c0_2) (h:spec_ggNear.f k a0_0 a0_1 l0_2 a1 = some r) :
    Calls Try.prog 184 #[.agg #[.int .i64 a0_0,.int .i64 a0_1,.slice A0_2 l0_2.length c0_2],.int .i64 a1] w fun e w'=>∃ v0_:Value,e = .returned (v0_)∧Kd.R (Kd.int .i64) 3 w' w.heap.size (fun _=>True) v0_ r∧Below w.heap.size w w':=by
 have S:=St.init (w:=w) (dc k27_heap at27 hr0_2 hc0_2 dn)
 clear hr0_2 hc0_2
 have F:=S.fc
 have H:=h;clear h;unfold spec_ggNear.f at H
 replace H:=nn_ H;obtain ⟨c3,H⟩:=H
 replace c3:=cne c3
 go_enter Try.func184,Try.ntmps184
 go_upto_if 17 with (first | ((with_reducible refine gd 2 rfl (L ?_));refine bo 2 (.agg #[_,_,_]) S ?_;clear S F;intro gb117 W S;have F:=S.fc))
 go_upto_if 17 with (first | ((with_reducible refine gd 2 rfl (L ?_));refine bo 2 (.agg #[_,_,_]) S ?_;clear S F;intro gb117 W S;have F:=S.fc) | ((with_reducible refine gd 2 rfl (L ?_));refine bo 2 (.agg #[_,_,_]) S ?_;clear S F;intro gb117 W S;have F:=S.fc) | ((refine rq (id:=1) S [(0,0),(0,1),(0,4),(0,5),(1,2),(0,3),(0,8),(1,6),(0,7),(0,9)] [] (h:=?_);clear S F;intro W S;have S0:=S;have F:=S.fc)) | (refine q0 (h:=?_)) | (refine q1 S0 (h:=?_)) | (refine q0n (h:=?_)) | (refine q1n S0 (h:=?_)) | refine oz ?_)
 (try simp only [Act.put,List.setIfInBounds_toArray,List.set_cons_zero,List.set_cons_succ])
 go_cut [7] (fun v7 wc=>∃ (kq:Nat) (x7_3:List Int) (Ax7_3:Option Addr) (cx7_3:Nat),v7 = .slice Ax7_3 x7_3.length cx7_3∧spec_ggNear.j0 kq a1 (wrap64 (Int.tdiv a1 a0_1)) (Int.tmod a1 a0_1) x7_3 a0_0 a0_1 l0_2 = some r∧kq ≤ k∧St w w (fun _=>False) [bor at27 A0_2 c0_2 l0_2] wc  [row (atI .i64) 3 Ax7_3 x7_3.length cx7_3 x7_3,box gb117 25 [.int .i64 a0_0,.int .i64 a0_1,.slice A0_2 l0_2.length c0_2]])
 case first =>
  replace H:=sp_ H;rcases H with ⟨c7,H⟩ | ⟨c7,H⟩
  · skip
    replace H:=np_ H;obtain ⟨c8,H⟩:=H
    (first | (with_reducible replace H:=ob_ H;obtain ⟨y118,hy118,H⟩:=H;(try dsimp only at H)) | (obtain ⟨y118,hy118⟩:∃ y_:List Int,y_ = (([]:List Int) ++ [wrap64 (a1 - a0_1)]):=⟨_,rfl⟩;(try rw [← hy118] at H);(try simp only [Option.bind_some] at H)));have Ny118:=Aside0.mk hy118;clear hy118
    go_wp2_with (first | ((with_reducible refine gd 24 rfl (L ?_));replace S:=S.nl (e:=3) (atI .i64);refine apa (A:=none) 24 S Try.underlying35 info3 ?_ (ho:=rfl) (hs:=rfl) (hx:=rfl);clear S F;intro Ay118 cy118 W S;(try rw [← Ny118.out] at S ⊢);have F:=S.fc))
    go_wp2_with (first | ((with_reducible refine gd 24 rfl (L ?_));replace S:=S.nl (e:=3) (atI .i64);refine apa (A:=none) 24 S Try.underlying35 info3 ?_ (ho:=rfl) (hs:=rfl) (hx:=rfl);clear S F;intro Ay118 cy118 W S;(try rw [← Ny118.out] at S ⊢);have F:=S.fc) | ((with_reducible refine gd 24 rfl (L ?_));replace S:=S.nl (e:=3) (atI .i64);refine apa (A:=none) 24 S Try.underlying35 info3 ?_ (ho:=rfl) (hs:=rfl) (hx:=rfl);clear S F;intro Ay118 cy118 W S;(try rw [← Ny118.out] at S ⊢);have F:=S.fc) | ((refine rq (id:=1) S [(0,0),(0,1),(0,4),(0,5),(1,2),(0,3),(0,8),(1,6),(0,7),(0,9)] [] (h:=?_);clear S F;intro W S;have S0:=S;have F:=S.fc)) | (refine q0 (h:=?_)) | (refine q1 S0 (h:=?_)) | (refine q0n (h:=?_)) | (refine q1n S0 (h:=?_)) | refine oz ?_)
    go_meet
    case rel=>exact ⟨_,y118,_,_,rfl,H,(by first | omega | exact Nat.le_refl _),S⟩
  · skip
    go_wp2
    go_wp2_with (first | ((refine rq (id:=1) S [(0,0),(0,1),(0,4),(0,5),(1,2),(0,3),(0,8),(1,6),(0,7),(0,9)] [] (h:=?_);clear S F;intro W S;have S0:=S;have F:=S.fc)) | (refine q0 (h:=?_)) | (refine q1 S0 (h:=?_)) | (refine q0n (h:=?_)) | (refine q1n S0 (h:=?_)) | refine oz ?_)
    go_meet
    case rel=>exact ⟨_,_,_,_,rfl,H,(by first | omega | exact Nat.le_refl _),(S.nl (e:=3) (atI .i64))⟩
 case rest =>
  clear H S F
  obtain ⟨kq,x7_3,Ax7_3,cx7_3,rfl,HA,HJ3,S⟩:=hcut
  have F:=S.fc
  cases kq with
  | zero=>exact absurd HA (by simp [spec_ggNear.j0])
  | succ kj3 =>
   have H:=HA;clear HA;simp only [spec_ggNear.j0,F] at H
   go_upto_if 26 with (fail)
   go_upto_if 26 with (first | ((refine rq (id:=1) S [(0,0),(0,1),(0,4),(0,5),(1,2),(0,3),(0,8),(1,6),(0,7),(0,9)] [] (h:=?_);clear S F;intro W S;have S0:=S;have F:=S.fc)) | (refine q0 (h:=?_)) | (refine q1 S0 (h:=?_)) | (refine q0n (h:=?_)) | (refine q1n S0 (h:=?_)) | refine oz ?_)
   go_cut [7] (fun v7 wc=>∃ (kq:Nat) (x7_10:List Int) (Ax7_10:Option Addr) (cx7_10:Nat),v7 = .slice Ax7_10 x7_10.length cx7_10∧spec_ggNear.j1 kq a1 (wrap64 (Int.tdiv a1 a0_1)) (Int.tmod a1 a0_1) x7_10 a0_0 a0_1 l0_2 = some r∧kq ≤ kj3∧St w w (fun _=>False) [bor at27 A0_2 c0_2 l0_2] wc  [row (atI .i64) 3 Ax7_10 x7_10.length cx7_10 x7_10,box gb117 25 [.int .i64 a0_0,.int .i64 a0_1,.slice A0_2 l0_2.length c0_2]])
   case first =>
    replace H:=sp_ H;rcases H with ⟨c12,H⟩ | ⟨c12,H⟩
    · skip
      replace H:=np_ H;obtain ⟨c13,H⟩:=H
      (first | (with_reducible replace H:=ob_ H;obtain ⟨y121,hy121,H⟩:=H;(try dsimp only at H)) | (obtain ⟨y121,hy121⟩:∃ y_:List Int,y_ = (x7_3 ++ [wrap64 (a1 - 1)]):=⟨_,rfl⟩;(try rw [← hy121] at H);(try simp only [Option.bind_some] at H)));have Ny121:=Aside0.mk hy121;clear hy121
      go_wp2_with (first | ((with_reducible refine gd 31 rfl (L ?_));refine apa (A:=Ax7_3) 31 S Try.underlying35 info3 ?_ (ho:=rfl) (hs:=rfl) (hx:=rfl);clear S F;intro Ay121 cy121 W S;(try rw [← Ny121.out] at S ⊢);have F:=S.fc))
      go_wp2_with (first | ((with_reducible refine gd 31 rfl (L ?_));refine apa (A:=Ax7_3) 31 S Try.underlying35 info3 ?_ (ho:=rfl) (hs:=rfl) (hx:=rfl);clear S F;intro Ay121 cy121 W S;(try rw [← Ny121.out] at S ⊢);have F:=S.fc) | ((with_reducible refine gd 31 rfl (L ?_));refine apa (A:=Ax7_3) 31 S Try.underlying35 info3 ?_ (ho:=rfl) (hs:=rfl) (hx:=rfl);clear S F;intro Ay121 cy121 W S;(try rw [← Ny121.out] at S ⊢);have F:=S.fc) | ((refine rq (id:=1) S [(0,0),(0,1),(0,4),(0,5),(1,2),(0,3),(0,8),(1,6),(0,7),(0,9)] [] (h:=?_);clear S F;intro W S;have S0:=S;have F:=S.fc)) | (refine q0 (h:=?_)) | (refine q1 S0 (h:=?_)) | (refine q0n (h:=?_)) | (refine q1n S0 (h:=?_)) | refine oz ?_)
      go_meet
      case rel=>exact ⟨_,y121,_,_,rfl,H,(by first | omega | exact Nat.le_refl _),S⟩
    · skip
      go_wp2
      go_wp2_with (first | ((refine rq (id:=1) S [(0,0),(0,1),(0,4),(0,5),(1,2),(0,3),(0,8),(1,6),(0,7),(0,9)] [] (h:=?_);clear S F;intro W S;have S0:=S;have F:=S.fc)) | (refine q0 (h:=?_)) | (refine q1 S0 (h:=?_)) | (refine q0n (h:=?_)) | (refine q1n S0 (h:=?_)) | refine oz ?_)
      go_meet
      case rel=>exact ⟨_,x7_3,_,_,rfl,H,(by first | omega | exact Nat.le_refl _),S⟩
   case rest =>
    clear H S F
    obtain ⟨kq,x7_10,Ax7_10,cx7_10,rfl,HA,HJ10,S⟩:=hcut
    have F:=S.fc
    cases kq with
    | zero=>exact absurd HA (by simp [spec_ggNear.j1])
    | succ kj10 =>
     have H:=HA;clear HA;simp only [spec_ggNear.j1,F] at H
     replace H:=sp_ H;rcases H with ⟨c15,H⟩ | ⟨c15,H⟩
     · skip
       replace H:=np_ H;obtain ⟨c16,H⟩:=H
       (first | (with_reducible replace H:=ob_ H;obtain ⟨y124,hy124,H⟩:=H;(try dsimp only at H)) | (obtain ⟨y124,hy124⟩:∃ y_:List Int,y_ = (x7_10 ++ [wrap64 (a1 + 1)]):=⟨_,rfl⟩;(try rw [← hy124] at H);(try simp only [Option.bind_some] at H)));have Ny124:=Aside0.mk hy124;clear hy124
       replace H:=sp_ H;rcases H with ⟨c17,H⟩ | ⟨c17,H⟩
       · skip
         replace H:=np_ H;obtain ⟨c18,H⟩:=H
         (first | (with_reducible replace H:=ob_ H;obtain ⟨y127,hy127,H⟩:=H;(try dsimp only at H)) | (obtain ⟨y127,hy127⟩:∃ y_:List Int,y_ = (y124 ++ [wrap64 (a1 + a0_1)]):=⟨_,rfl⟩;(try rw [← hy127] at H);(try simp only [Option.bind_some] at H)));have Ny127:=Aside0.mk hy127;clear hy127
         obtain rfl:=Option.some.inj H
         go_wp2_with (first | ((with_reducible refine gd 41 rfl (L ?_));refine apa (A:=Ax7_10) 41 S Try.underlying35 info3 ?_ (ho:=rfl) (hs:=rfl) (hx:=rfl);clear S F;intro Ay124 cy124 W S;(try rw [← Ny124.out] at S ⊢);(try rw [← Ny127.out] at S ⊢);have F:=S.fc) | ((with_reducible refine gd 53 rfl (L ?_));refine apa (A:=Ay124) 53 S Try.underlying35 info3 ?_ (ho:=rfl) (hs:=rfl) (hx:=rfl);clear S F;intro Ay127 cy127 W S;(try rw [← Ny124.out] at S ⊢);(try rw [← Ny127.out] at S ⊢);have F:=S.fc))
         go_wp2_with (first | ((with_reducible refine gd 41 rfl (L ?_));refine apa (A:=Ax7_10) 41 S Try.underlying35 info3 ?_ (ho:=rfl) (hs:=rfl) (hx:=rfl);clear S F;intro Ay124 cy124 W S;(try rw [← Ny124.out] at S ⊢);(try rw [← Ny127.out] at S ⊢);have F:=S.fc) | ((with_reducible refine gd 53 rfl (L ?_));refine apa (A:=Ay124) 53 S Try.underlying35 info3 ?_ (ho:=rfl) (hs:=rfl) (hx:=rfl);clear S F;intro Ay127 cy127 W S;(try rw [← Ny124.out] at S ⊢);(try rw [← Ny127.out] at S ⊢);have F:=S.fc) | ((with_reducible refine gd 41 rfl (L ?_));refine apa (A:=Ax7_10) 41 S Try.underlying35 info3 ?_ (ho:=rfl) (hs:=rfl) (hx:=rfl);clear S F;intro Ay124 cy124 W S;(try rw [← Ny124.out] at S ⊢);(try rw [← Ny127.out] at S ⊢);have F:=S.fc) | ((with_reducible refine gd 53 rfl (L ?_));refine apa (A:=Ay124) 53 S Try.underlying35 info3 ?_ (ho:=rfl) (hs:=rfl) (hx:=rfl);clear S F;intro Ay127 cy127 W S;(try rw [← Ny124.out] at S ⊢);(try rw [← Ny127.out] at S ⊢);have F:=S.fc) | ((refine rq (id:=1) S [(0,0),(0,1),(0,4),(0,5),(1,2),(0,3),(0,8),(1,6),(0,7),(0,9)] [] (h:=?_);clear S F;intro W S;have S0:=S;have F:=S.fc)) | (refine q0 (h:=?_)) | (refine q1 S0 (h:=?_)) | (refine q0n (h:=?_)) | (refine q1n S0 (h:=?_)) | refine oz ?_)
         go_ret
         exact ⟨_,(by first | rfl | (simp [e0_,e1_] <;> rfl) | (simp [*,e0_,e1_] <;> rfl)),(by first | exact S.r | exact Kd.R_nil _ _ _ _ _),S.below⟩
       · skip
         obtain rfl:=Option.some.inj H
         go_wp2_with (first | ((with_reducible refine gd 41 rfl (L ?_));refine apa (A:=Ax7_10) 41 S Try.underlying35 info3 ?_ (ho:=rfl) (hs:=rfl) (hx:=rfl);clear S F;intro Ay124 cy124 W S;(try rw [← Ny124.out] at S ⊢);have F:=S.fc))
         go_wp2_with (first | ((with_reducible refine gd 41 rfl (L ?_));refine apa (A:=Ax7_10) 41 S Try.underlying35 info3 ?_ (ho:=rfl) (hs:=rfl) (hx:=rfl);clear S F;intro Ay124 cy124 W S;(try rw [← Ny124.out] at S ⊢);have F:=S.fc) | ((with_reducible refine gd 41 rfl (L ?_));refine apa (A:=Ax7_10) 41 S Try.underlying35 info3 ?_ (ho:=rfl) (hs:=rfl) (hx:=rfl);clear S F;intro Ay124 cy124 W S;(try rw [← Ny124.out] at S ⊢);have F:=S.fc) | ((refine rq (id:=1) S [(0,0),(0,1),(0,4),(0,5),(1,2),(0,3),(0,8),(1,6),(0,7),(0,9)] [] (h:=?_);clear S F;intro W S;have S0:=S;have F:=S.fc)) | (refine q0 (h:=?_)) | (refine q1 S0 (h:=?_)) | (refine q0n (h:=?_)) | (refine q1n S0 (h:=?_)) | refine oz ?_)
         go_ret
         exact ⟨_,(by first | rfl | (simp [e0_,e1_] <;> rfl) | (simp [*,e0_,e1_] <;> rfl)),(by first | exact S.r | exact Kd.R_nil _ _ _ _ _),S.below⟩
     · skip
       replace H:=sp_ H;rcases H with ⟨c26,H⟩ | ⟨c26,H⟩
       · skip
         replace H:=np_ H;obtain ⟨c27,H⟩:=H
         (first | (with_reducible replace H:=ob_ H;obtain ⟨y130,hy130,H⟩:=H;(try dsimp only at H)) | (obtain ⟨y130,hy130⟩:∃ y_:List Int,y_ = (x7_10 ++ [wrap64 (a1 + a0_1)]):=⟨_,rfl⟩;(try rw [← hy130] at H);(try simp only [Option.bind_some] at H)));have Ny130:=Aside0.mk hy130;clear hy130
         obtain rfl:=Option.some.inj H
         go_wp2_with (first | ((with_reducible refine gd 53 rfl (L ?_));refine apa (A:=Ax7_10) 53 S Try.underlying35 info3 ?_ (ho:=rfl) (hs:=rfl) (hx:=rfl);clear S F;intro Ay130 cy130 W S;(try rw [← Ny130.out] at S ⊢);have F:=S.fc))
         go_wp2_with (first | ((with_reducible refine gd 53 rfl (L ?_));refine apa (A:=Ax7_10) 53 S Try.underlying35 info3 ?_ (ho:=rfl) (hs:=rfl) (hx:=rfl);clear S F;intro Ay130 cy130 W S;(try rw [← Ny130.out] at S ⊢);have F:=S.fc) | ((with_reducible refine gd 53 rfl (L ?_));refine apa (A:=Ax7_10) 53 S Try.underlying35 info3 ?_ (ho:=rfl) (hs:=rfl) (hx:=rfl);clear S F;intro Ay130 cy130 W S;(try rw [← Ny130.out] at S ⊢);have F:=S.fc) | ((refine rq (id:=1) S [(0,0),(0,1),(0,4),(0,5),(1,2),(0,3),(0,8),(1,6),(0,7),(0,9)] [] (h:=?_);clear S F;intro W S;have S0:=S;have F:=S.fc)) | (refine q0 (h:=?_)) | (refine q1 S0 (h:=?_)) | (refine q0n (h:=?_)) | (refine q1n S0 (h:=?_)) | refine oz ?_)
         go_ret
         exact ⟨_,(by first | rfl | (simp [e0_,e1_] <;> rfl) | (simp [*,e0_,e1_] <;> rfl)),(by first | exact S.r | exact Kd.R_nil _ _ _ _ _),S.below⟩
       · skip
         obtain rfl:=Option.some.inj H
         go_wp2
         go_wp2_with (first | ((refine rq (id:=1) S [(0,0),(0,1),(0,4),(0,5),(1,2),(0,3),(0,8),(1,6),(0,7),(0,9)] [] (h:=?_);clear S F;intro W S;have S0:=S;have F:=S.fc)) | (refine q0 (h:=?_)) | (refine q1 S0 (h:=?_)) | (refine q0n (h:=?_)) | (refine q1n S0 (h:=?_)) | refine oz ?_)
         go_ret
         exact ⟨_,(by first | rfl | (simp [e0_,e1_] <;> rfl) | (simp [*,e0_,e1_] <;> rfl)),(by first | exact S.r | exact Kd.R_nil _ _ _ _ _),S.below⟩

/-! ### spec_ggGroups: function 170 -/
mutual
def spec_ggGroups.l0:Nat→List Int→Int→Int→Int→Int→List (S27)→Option (List Int)
  | 0,_,_,_,_,_,_=>none
  | k + 1,x3,x17,x18,x134000,x134001,x134002=>if x18 < x17 then (if 0 ≤ x18 then (if x18 < (x3.length:Int) then (spec_ggGroups.l0 k (x3.set (x18:Int).toNat (-1)) x17 (wrap64 (x18 + 1)) x134000 x134001 x134002) else (none)) else (none)) else (spec_ggGroups.l1 k x3 0 x134002 (x134002.length:Int) 0 x134000 x134001 x134002)
def spec_ggGroups.l1:Nat→List Int→Int→List (S27)→Int→Int→Int→Int→List (S27)→Option (List Int)
  | 0,_,_,_,_,_,_,_,_=>none
  | k + 1,x3,x5,x26,x27,x28,x134000,x134001,x134002=>if x28 < x27 then (if 0 ≤ x28 then (if x28 < (x26.length:Int) then ((spec_ggGear.f ((rd_T27 x26 x28).f0) ((rd_T27 x26 x28).f1)).bind fun t140=>(if t140 = true then (if x28 < (x3.length:Int) then (spec_ggGroups.j2 k x3 x5 x28 x26 x27 x28 (decide ((rd x3 x28) ≥ 0)) x134000 x134001 x134002) else (none)) else (spec_ggGroups.j2 k x3 x5 x28 x26 x27 x28 true x134000 x134001 x134002))) else (none)) else (none)) else (some x3)
def spec_ggGroups.j2:Nat→List Int→Int→Int→List (S27)→Int→Int→Bool→Int→Int→List (S27)→Option (List Int)
  | 0,_,_,_,_,_,_,_,_,_,_=>none
  | k + 1,x3,x5,x6,x26,x27,x28,x42,x134000,x134001,x134002=>if x42 = true then (spec_ggGroups.l1 k x3 x5 x26 x27 (wrap64 (x28 + 1)) x134000 x134001 x134002) else (if 0 ≤ x6 then (if x6 < (x3.length:Int) then (spec_ggGroups.l2 k (x3.set (x6:Int).toNat x5) x5 (([x6]:List Int)) 0 x26 x27 x28 x134000 x134001 x134002) else (none)) else (none))
def spec_ggGroups.l2:Nat→List Int→Int→List Int→Int→List (S27)→Int→Int→Int→Int→List (S27)→Option (List Int)
  | 0,_,_,_,_,_,_,_,_,_,_=>none
  | k + 1,x3,x5,x8,x9,x26,x27,x28,x134000,x134001,x134002=>if x9 < (x8.length:Int) then (if 0 ≤ x9 then ((spec_ggNear.f k x134000 x134001 x134002 (rd x8 x9)).bind fun t147=>(spec_ggGroups.l3 k x3 x5 x8 x9 x26 x27 x28 t147 (t147.length:Int) 0 x134000 x134001 x134002)) else (none)) else (spec_ggGroups.l1 k x3 (wrap64 (x5 + 1)) x26 x27 (wrap64 (x28 + 1)) x134000 x134001 x134002)
def spec_ggGroups.l3:Nat→List Int→Int→List Int→Int→List (S27)→Int→Int→List Int→Int→Int→Int→Int→List (S27)→Option (List Int)
  | 0,_,_,_,_,_,_,_,_,_,_,_,_,_=>none
  | k + 1,x3,x5,x8,x9,x26,x27,x28,x60,x61,x62,x134000,x134001,x134002=>if x62 < x61 then (if 0 ≤ x62 then (if x62 < (x60.length:Int) then (if 0 ≤ (rd x60 x62) then (if (rd x60 x62) < (x134002.length:Int) then ((spec_ggGear.f ((rd_T27 x134002 (rd x60 x62)).f0) ((rd_T27 x134002 (rd x60 x62)).f1)).bind fun t152=>(if t152 = true then (if (rd x60 x62) < (x3.length:Int) then (if (rd x3 (rd x60 x62)) < 0 then (if x8.length < 17592186044416 then (spec_ggGroups.l3 k (x3.set ((rd x60 x62):Int).toNat x5) x5 (x8 ++ [rd x60 x62]) x9 x26 x27 x28 x60 x61 (wrap64 (x62 + 1)) x134000 x134001 x134002) else (none)) else (spec_ggGroups.l3 k x3 x5 x8 x9 x26 x27 x28 x60 x61 (wrap64 (x62 + 1)) x134000 x134001 x134002)) else (none)) else (spec_ggGroups.l3 k x3 x5 x8 x9 x26 x27 x28 x60 x61 (wrap64 (x62 + 1)) x134000 x134001 x134002))) else (none)) else (none)) else (none)) else (none)) else (spec_ggGroups.l2 k x3 x5 x8 (wrap64 (x9 + 1)) x26 x27 x28 x134000 x134001 x134002)
end
def spec_ggGroups.f (k:Nat) (a0_0:Int) (a0_1:Int) (l0_2:List (S27)):Option (List Int):=if 0 ≤ (l0_2.length:Int) then (if ((l0_2.length:Int):Int).toNat ≤ 35184372088832 then ((some (List.replicate ((l0_2.length:Int):Int).toNat 0:List Int)).bind fun y134=>(spec_ggGroups.l0 k y134 (y134.length:Int) 0 a0_0 a0_1 l0_2)) else (none)) else (none)
theorem spec_ggGroups.calls (k:Nat) (a0_0:Int) (a0_1:Int) (A0_2:Option Addr) (c0_2:Nat) (l0_2:List (S27)) (r:List Int) (w:World) (hr0_2:Kd.C k27 w A0_2 l0_2.length l0_2) (hc0_2:l0_2.length ≤ c0_2) (h:spec_ggGroups.f k a0_0 a0_1 l0_2 = some r) :
    Calls Try.prog 170 #[.agg #[.int .i64 a0_0,.int .i64 a0_1,.slice A0_2 l0_2.length c0_2]] w fun e w'=>∃ v0_:Value,e = .returned (v0_)∧Kd.R (Kd.int .i64) 3 w' w.heap.size (fun _=>True) v0_ r∧Below w.heap.size w w':=by
 have S:=St.init (w:=w) (dc k27_heap at27 hr0_2 hc0_2 dn)
 clear hr0_2 hc0_2
 have F:=S.fc
 have H:=h;clear h;unfold spec_ggGroups.f at H
 replace H:=np_ H;obtain ⟨c2,H⟩:=H;(try simp only [F] at c2)
 replace H:=np_ H;obtain ⟨c3,H⟩:=H;(try simp only [F] at c3)
 (first | (with_reducible replace H:=ob_ H;obtain ⟨y134,hy134,H⟩:=H;(try dsimp only at H)) | (obtain ⟨y134,hy134⟩:∃ y_:List Int,y_ = (List.replicate ((l0_2.length:Int):Int).toNat 0):=⟨_,rfl⟩;(try rw [← hy134] at H);(try simp only [Option.bind_some] at H)));have Ny134:=Aside0.mk hy134;clear hy134
 go_enter Try.func170,Try.ntmps170
 go_wp2_with (first | ((with_reducible refine gd 1 rfl (L ?_));refine bo 1 (.agg #[_,_,_]) S ?_;clear S F;intro gb133 W S;have F:=S.fc) | ((with_reducible refine gd 15 rfl (L ?_));refine mka 15 (atI .i64) S Try.underlying35 info3 ?_;clear S F;intro Ay134 cy134 W S;(try simp only [Int.reduceToNat] at S ⊢);(try rw [← Ny134.out] at S ⊢);have F:=S.fc) | ((with_reducible refine gs (t:=3) rfl (L ?_));(first | refine sb (.int _ _) S sz3 ?_ | refine ro (.int _ _) S sz3 ?_ (ho:=rfl) (hx:=rfl) (hy:=rfl));clear S F;intro W S;(try simp only [gd27] at S);(try rw [← Ny134.out] at S);have F:=S.fc) | ((with_reducible refine gs (t:=27) rfl (L ?_));(first | refine sb (.agg #[_,_]) S sz27 ?_ | refine ro (.agg #[_,_]) S sz27 ?_ (ho:=rfl) (hx:=rfl) (hy:=rfl));clear S F;intro W S;(try simp only [gd27] at S);(try rw [← Ny134.out] at S);have F:=S.fc))
 go_loopg [18] k (fun kq v18 w'=>∃ (x3_1:List Int) (x18_1:Int),v18 = .int .i64 x18_1∧spec_ggGroups.l0 kq x3_1 (y134.length:Int) x18_1 a0_0 a0_1 l0_2 = some r∧kq ≤ k∧St w w (fun _=>False) [bor at27 A0_2 c0_2 l0_2] w'  [row (atI .i64) 3 Ay134 y134.length cy134 x3_1,box gb133 25 [.int .i64 a0_0,.int .i64 a0_1,.slice A0_2 l0_2.length c0_2]])
 case atStart=>exact ⟨y134,0,(by first | rfl | (simp;done) | (simp [*];done) | (rw [w6_ (by omega) (by omega)])),(by first | exact H | (simp only [F];exact H)),Nat.le_refl _,S⟩
 case round =>
  clear H S F
  obtain ⟨x3_1,x18_1,rfl,HA,HK1,S⟩:=hrel
  have F:=S.fc
  cases gk with
  | zero=>exact absurd HA (by simp [spec_ggGroups.l0])
  | succ k1 =>
   have H:=HA;clear HA;simp only [spec_ggGroups.l0,F] at H
   replace H:=sp_ H;rcases H with ⟨c9,H⟩ | ⟨c9,H⟩
   · skip
     replace H:=np_ H;obtain ⟨c10,H⟩:=H;(try simp only [F] at c10)
     replace H:=np_ H;obtain ⟨c11,H⟩:=H;(try simp only [F] at c11)
     (first | (with_reducible replace H:=ob_ H;obtain ⟨y137,hy137,H⟩:=H;(try dsimp only at H)) | (obtain ⟨y137,hy137⟩:∃ y_:List Int,y_ = (x3_1.set (x18_1:Int).toNat (-1)):=⟨_,rfl⟩;(try rw [← hy137] at H);(try simp only [Option.bind_some] at H)));have Ny137:=Aside0.mk hy137;clear hy137
     go_wp2_with (first | ((with_reducible refine gs (t:=3) rfl (L ?_));(first | refine sb (.int _ _) S sz3 ?_ | refine ro (.int _ _) S sz3 ?_ (ho:=rfl) (hx:=rfl) (hy:=rfl));clear S F;intro W S;(try simp only [gd27] at S);(try rw [← Ny134.out] at S);(try rw [← Ny137.out] at S);have F:=S.fc) | ((with_reducible refine gs (t:=27) rfl (L ?_));(first | refine sb (.agg #[_,_]) S sz27 ?_ | refine ro (.agg #[_,_]) S sz27 ?_ (ho:=rfl) (hx:=rfl) (hy:=rfl));clear S F;intro W S;(try simp only [gd27] at S);(try rw [← Ny134.out] at S);(try rw [← Ny137.out] at S);have F:=S.fc))
     go_roundg k1
     case measure=>omega
     case rel=>exact ⟨y137,(wrap64 (x18_1 + 1)),(by first | rfl | (simp;done) | (simp [*];done) | (rw [w6_ (by omega) (by omega)])),(by first | exact H | (simp only [F];exact H)),(by first | omega | exact Nat.le_refl _),S⟩
   · skip
     go_wp2_with (first | ((with_reducible refine gs (t:=3) rfl (L ?_));(first | refine sb (.int _ _) S sz3 ?_ | refine ro (.int _ _) S sz3 ?_ (ho:=rfl) (hx:=rfl) (hy:=rfl));clear S F;intro W S;(try simp only [gd27] at S);(try rw [← Ny134.out] at S);have F:=S.fc) | ((with_reducible refine gs (t:=27) rfl (L ?_));(first | refine sb (.agg #[_,_]) S sz27 ?_ | refine ro (.agg #[_,_]) S sz27 ?_ (ho:=rfl) (hx:=rfl) (hy:=rfl));clear S F;intro W S;(try simp only [gd27] at S);(try rw [← Ny134.out] at S);have F:=S.fc))
     go_loopg [5,28] k1 (fun kq v5 v28 w'=>∃ (x3_2:List Int) (x5_2:Int) (x28_2:Int),v5 = .int .i64 x5_2∧v28 = .int .i64 x28_2∧spec_ggGroups.l1 kq x3_2 x5_2 l0_2 (l0_2.length:Int) x28_2 a0_0 a0_1 l0_2 = some r∧kq ≤ k1∧St w w (fun _=>False) [bor at27 A0_2 c0_2 l0_2] w'  [row (atI .i64) 3 Ay134 y134.length cy134 x3_2,box gb133 25 [.int .i64 a0_0,.int .i64 a0_1,.slice A0_2 l0_2.length c0_2]])
     case atStart=>exact ⟨x3_1,0,0,(by first | rfl | (simp;done) | (simp [*];done) | (rw [w6_ (by omega) (by omega)])),(by first | rfl | (simp;done) | (simp [*];done) | (rw [w6_ (by omega) (by omega)])),(by first | exact H | (simp only [F];exact H)),Nat.le_refl _,S⟩
     case round =>
      clear H S F
      obtain ⟨x3_2,x5_2,x28_2,rfl,rfl,HA,HK2,S⟩:=hrel
      have F:=S.fc
      cases gk with
      | zero=>exact absurd HA (by simp [spec_ggGroups.l1])
      | succ k2 =>
       have H:=HA;clear HA;simp only [spec_ggGroups.l1,F] at H
       replace H:=sp_ H;rcases H with ⟨c16,H⟩ | ⟨c16,H⟩
       · skip
         replace H:=np_ H;obtain ⟨c17,H⟩:=H;(try simp only [F] at c17)
         replace H:=np_ H;obtain ⟨c18,H⟩:=H;(try simp only [F] at c18)
         go_upto_region 11 with (first | ((with_reducible refine gd 7 rfl (L ?_));refine al 7 S zi27 ?_;clear S F;intro gb139 W S;have F:=S.fc) | ((with_reducible refine gs (t:=3) rfl (L ?_));(first | refine sb (.int _ _) S sz3 ?_ | refine ro (.int _ _) S sz3 ?_ (ho:=rfl) (hx:=rfl) (hy:=rfl));clear S F;intro W S;(try simp only [gd27] at S);(try rw [← Ny134.out] at S);have F:=S.fc) | ((with_reducible refine gs (t:=27) rfl (L ?_));(first | refine sb (.agg #[_,_]) S sz27 ?_ | refine ro (.agg #[_,_]) S sz27 ?_ (ho:=rfl) (hx:=rfl) (hy:=rfl));clear S F;intro W S;(try simp only [gd27] at S);(try rw [← Ny134.out] at S);have F:=S.fc))
         (try simp only [Act.put,List.setIfInBounds_toArray,List.set_cons_zero,List.set_cons_succ])
         go_cut [42] (fun v42 wc=>∃ (kq:Nat) (x42_18:Bool),v42 = .bool x42_18∧spec_ggGroups.j2 kq x3_2 x5_2 x28_2 l0_2 (l0_2.length:Int) x28_2 x42_18 a0_0 a0_1 l0_2 = some r∧kq ≤ k2∧St w w (fun _=>False) [bor at27 A0_2 c0_2 l0_2] wc  [box gb139 27 [.int .i64 ((rd_T27 l0_2 x28_2).f0),.int .i64 ((rd_T27 l0_2 x28_2).f1)],row (atI .i64) 3 Ay134 y134.length cy134 x3_2,box gb133 25 [.int .i64 a0_0,.int .i64 a0_1,.slice A0_2 l0_2.length c0_2]])
         case first =>
          replace H:=Option.bind_eq_some_iff.mp H;obtain ⟨t140,A23,H⟩:=H;(try dsimp only at H)
          replace H:=sp_ H;rcases H with ⟨c24,H⟩ | ⟨c24,H⟩
          · skip
            subst c24
            replace H:=np_ H;obtain ⟨c25,H⟩:=H;(try simp only [F] at c25)
            go_wp2_with (first | ((with_reducible refine gate_callee (f:=183) rfl (L ?_));refine cl (some 34) Try.func183 (spec_ggGear.calls _ _ _ _ A23) (hargs:=by (simp only [ma_,mb_,mc_,F] <;> rfl)) (h:=?_);rintro e W ⟨rfl,hb⟩;refine ⟨_,rfl,?_⟩;replace S:=S.go hb;clear F hb;have F:=S.fc) | ((with_reducible refine gs (t:=3) rfl (L ?_));(first | refine sb (.int _ _) S sz3 ?_ | refine ro (.int _ _) S sz3 ?_ (ho:=rfl) (hx:=rfl) (hy:=rfl));clear S F;intro W S;(try simp only [gd27] at S);(try rw [← Ny134.out] at S);have F:=S.fc) | ((with_reducible refine gs (t:=27) rfl (L ?_));(first | refine sb (.agg #[_,_]) S sz27 ?_ | refine ro (.agg #[_,_]) S sz27 ?_ (ho:=rfl) (hx:=rfl) (hy:=rfl));clear S F;intro W S;(try simp only [gd27] at S);(try rw [← Ny134.out] at S);have F:=S.fc))
            go_meet
            case rel=>exact ⟨_,(decide ((rd x3_2 x28_2) ≥ 0)),(by first | rfl | (simp;done) | (simp [*];done) | (rw [w6_ (by omega) (by omega)])),(by first | exact H | (simp only [F];exact H)),(by first | omega | exact Nat.le_refl _),S⟩
          · skip
            replace c24:=cbf c24;subst c24
            go_wp2_with (first | ((with_reducible refine gate_callee (f:=183) rfl (L ?_));refine cl (some 34) Try.func183 (spec_ggGear.calls _ _ _ _ A23) (hargs:=by (simp only [ma_,mb_,mc_,F] <;> rfl)) (h:=?_);rintro e W ⟨rfl,hb⟩;refine ⟨_,rfl,?_⟩;replace S:=S.go hb;clear F hb;have F:=S.fc) | ((with_reducible refine gs (t:=3) rfl (L ?_));(first | refine sb (.int _ _) S sz3 ?_ | refine ro (.int _ _) S sz3 ?_ (ho:=rfl) (hx:=rfl) (hy:=rfl));clear S F;intro W S;(try simp only [gd27] at S);(try rw [← Ny134.out] at S);have F:=S.fc) | ((with_reducible refine gs (t:=27) rfl (L ?_));(first | refine sb (.agg #[_,_]) S sz27 ?_ | refine ro (.agg #[_,_]) S sz27 ?_ (ho:=rfl) (hx:=rfl) (hy:=rfl));clear S F;intro W S;(try simp only [gd27] at S);(try rw [← Ny134.out] at S);have F:=S.fc))
            go_meet
            case rel=>exact ⟨_,true,(by first | rfl | (simp;done) | (simp [*];done) | (rw [w6_ (by omega) (by omega)])),(by first | exact H | (simp only [F];exact H)),(by first | omega | exact Nat.le_refl _),S⟩
         case rest =>
          clear H S F
          obtain ⟨kq,x42_18,rfl,HA,HJ18,S⟩:=hcut
          have F:=S.fc
          cases kq with
          | zero=>exact absurd HA (by simp [spec_ggGroups.j2])
          | succ kj18 =>
           have H:=HA;clear HA;simp only [spec_ggGroups.j2,F] at H
           replace H:=sp_ H;rcases H with ⟨c32,H⟩ | ⟨c32,H⟩
           · skip
             subst c32
             go_wp2_with (first | ((with_reducible refine gs (t:=3) rfl (L ?_));(first | refine sb (.int _ _) S sz3 ?_ | refine ro (.int _ _) S sz3 ?_ (ho:=rfl) (hx:=rfl) (hy:=rfl));clear S F;intro W S;(try simp only [gd27] at S);(try rw [← Ny134.out] at S);have F:=S.fc) | ((with_reducible refine gs (t:=27) rfl (L ?_));(first | refine sb (.agg #[_,_]) S sz27 ?_ | refine ro (.agg #[_,_]) S sz27 ?_ (ho:=rfl) (hx:=rfl) (hy:=rfl));clear S F;intro W S;(try simp only [gd27] at S);(try rw [← Ny134.out] at S);have F:=S.fc))
             go_roundg kj18
             case measure=>omega
             case rel=>exact ⟨x3_2,x5_2,(wrap64 (x28_2 + 1)),(by first | rfl | (simp;done) | (simp [*];done) | (rw [w6_ (by omega) (by omega)])),(by first | rfl | (simp;done) | (simp [*];done) | (rw [w6_ (by omega) (by omega)])),(by first | exact H | (simp only [F];exact H)),(by first | omega | exact Nat.le_refl _),S.tl⟩
           · skip
             replace c32:=cbf c32;subst c32
             replace H:=np_ H;obtain ⟨c33,H⟩:=H;(try simp only [F] at c33)
             replace H:=np_ H;obtain ⟨c34,H⟩:=H;(try simp only [F] at c34)
             (first | (with_reducible replace H:=ob_ H;obtain ⟨y142,hy142,H⟩:=H;(try dsimp only at H)) | (obtain ⟨y142,hy142⟩:∃ y_:List Int,y_ = (x3_2.set (x28_2:Int).toNat x5_2):=⟨_,rfl⟩;(try rw [← hy142] at H);(try simp only [Option.bind_some] at H)));have Ny142:=Aside0.mk hy142;clear hy142
             (first | (with_reducible replace H:=ob_ H;obtain ⟨y143,hy143,H⟩:=H;(try dsimp only at H)) | (obtain ⟨y143,hy143⟩:∃ y_:List Int,y_ = (([x28_2]:List Int)):=⟨_,rfl⟩;(try rw [← hy143] at H);(try simp only [Option.bind_some] at H)));have Ny143:=Aside0.mk hy143;clear hy143
             go_wp2_with (first | ((with_reducible refine gd 48 rfl (L ?_));refine lia 48 (atI .i64) 3 S ([x28_2]:List Int) (fun _ _=>(Reps.one (show Kd.M (Kd.int .i64) _ _ _ x28_2 [.int .i64 x28_2] from rfl) (Reps.none _ _))) (by first | (go_simp;done) | (go_simp;rfl)) ?_;clear S F;intro Ay143 cy143 W S;(try rw [← Ny134.out] at S ⊢);(try rw [← Ny142.out] at S ⊢);(try rw [← Ny143.out] at S ⊢);have F:=S.fc) | ((with_reducible refine gs (t:=3) rfl (L ?_));(first | refine sb (.int _ _) S sz3 ?_ | refine ro (.int _ _) S sz3 ?_ (ho:=rfl) (hx:=rfl) (hy:=rfl));clear S F;intro W S;(try simp only [gd27] at S);(try rw [← Ny134.out] at S);(try rw [← Ny142.out] at S);(try rw [← Ny143.out] at S);have F:=S.fc) | ((with_reducible refine gs (t:=27) rfl (L ?_));(first | refine sb (.agg #[_,_]) S sz27 ?_ | refine ro (.agg #[_,_]) S sz27 ?_ (ho:=rfl) (hx:=rfl) (hy:=rfl));clear S F;intro W S;(try simp only [gd27] at S);(try rw [← Ny134.out] at S);(try rw [← Ny142.out] at S);(try rw [← Ny143.out] at S);have F:=S.fc))
             go_loopg [8,9] kj18 (fun kq v8 v9 w'=>∃ (x3_4:List Int) (x8_4:List Int) (x9_4:Int) (Ax8_4:Option Addr) (cx8_4:Nat),v9 = .int .i64 x9_4∧v8 = .slice Ax8_4 x8_4.length cx8_4∧spec_ggGroups.l2 kq x3_4 x5_2 x8_4 x9_4 l0_2 (l0_2.length:Int) x28_2 a0_0 a0_1 l0_2 = some r∧kq ≤ kj18∧St w w (fun _=>False) [bor at27 A0_2 c0_2 l0_2] w'  [row (atI .i64) 3 Ax8_4 x8_4.length cx8_4 x8_4,box gb139 27 [.int .i64 ((rd_T27 l0_2 x28_2).f0),.int .i64 ((rd_T27 l0_2 x28_2).f1)],row (atI .i64) 3 Ay134 y134.length cy134 x3_4,box gb133 25 [.int .i64 a0_0,.int .i64 a0_1,.slice A0_2 l0_2.length c0_2]])
             case atStart=>exact ⟨y142,y143,0,_,_,(by first | rfl | (simp;done) | (simp [*];done) | (rw [w6_ (by omega) (by omega)])),rfl,(by first | exact H | (simp only [F];exact H)),Nat.le_refl _,S⟩
             case round =>
              clear H S F
              obtain ⟨x3_4,x8_4,x9_4,Ax8_4,cx8_4,rfl,rfl,HA,HK4,S⟩:=hrel
              have F:=S.fc
              cases gk with
              | zero=>exact absurd HA (by simp [spec_ggGroups.l2])
              | succ k4 =>
               have H:=HA;clear HA;simp only [spec_ggGroups.l2,F] at H
               replace H:=sp_ H;rcases H with ⟨c40,H⟩ | ⟨c40,H⟩
               · skip
                 replace H:=np_ H;obtain ⟨c41,H⟩:=H;(try simp only [F] at c41)
                 replace H:=Option.bind_eq_some_iff.mp H;obtain ⟨t147,A42,H⟩:=H;(try dsimp only at H)
                 go_wp2_with (first | ((with_reducible refine gs (t:=3) rfl (L ?_));(first | refine sb (.int _ _) S sz3 ?_ | refine ro (.int _ _) S sz3 ?_ (ho:=rfl) (hx:=rfl) (hy:=rfl));clear S F;intro W S;(try simp only [gd27] at S);(try rw [← Ny134.out] at S);(try rw [← Ny142.out] at S);(try rw [← Ny143.out] at S);have F:=S.fc) | ((with_reducible refine gs (t:=27) rfl (L ?_));(first | refine sb (.agg #[_,_]) S sz27 ?_ | refine ro (.agg #[_,_]) S sz27 ?_ (ho:=rfl) (hx:=rfl) (hy:=rfl));clear S F;intro W S;(try simp only [gd27] at S);(try rw [← Ny134.out] at S);(try rw [← Ny142.out] at S);(try rw [← Ny143.out] at S);have F:=S.fc))
                 refine rq S [(0,1),(0,2),(0,3),(0,7),(1,0),(1,4),(2,5),(0,6)] [] (h:=?_);clear S F;intro W S;have S0:=S;have F:=S.fc
                 repeat (first | (refine q0 (h:=?_)) | (refine q1 S0 (h:=?_)) | (refine q0n (h:=?_)) | (refine q1n S0 (h:=?_)))
                 refine lk2 (by rfl) (by exact (Eq.refl true)) ?_;refine cl (some 60) Try.func184 (spec_ggNear.calls _ _ _ _ _ _ _ _ _ S.c S.n A42) (hargs:=by (simp only [ma_,mb_,mc_,F] <;> rfl)) (h:=?_);rintro e W ⟨v148,rfl,ho0,hb⟩;refine ⟨_,rfl,?_⟩;replace S:=S.got (atI .i64) hb ho0;obtain ⟨At147,ct147,rfl,S⟩:=S;clear F hb ho0;(try rw [← Ny134.out] at S);(try rw [← Ny142.out] at S);(try rw [← Ny143.out] at S);have F:=S.fc
                 clear S0;have S0:=S.tl;refine ⟨S0,?_⟩
                 repeat (first | (refine q0 (h:=?_)) | (refine q1 S0 (h:=?_)) | (refine q0n (h:=?_)) | (refine q1n S0 (h:=?_)))
                 refine oz ?_
                 try clear S0
                 go_wp2_with (first | ((with_reducible refine gs (t:=3) rfl (L ?_));(first | refine sb (.int _ _) S sz3 ?_ | refine ro (.int _ _) S sz3 ?_ (ho:=rfl) (hx:=rfl) (hy:=rfl));clear S F;intro W S;(try simp only [gd27] at S);(try rw [← Ny134.out] at S);(try rw [← Ny142.out] at S);(try rw [← Ny143.out] at S);have F:=S.fc) | ((with_reducible refine gs (t:=27) rfl (L ?_));(first | refine sb (.agg #[_,_]) S sz27 ?_ | refine ro (.agg #[_,_]) S sz27 ?_ (ho:=rfl) (hx:=rfl) (hy:=rfl));clear S F;intro W S;(try simp only [gd27] at S);(try rw [← Ny134.out] at S);(try rw [← Ny142.out] at S);(try rw [← Ny143.out] at S);have F:=S.fc))
                 go_loopg [8,62] k4 (fun kq v8 v62 w'=>∃ (x3_5:List Int) (x8_5:List Int) (x62_5:Int) (Ax8_5:Option Addr) (cx8_5:Nat),v62 = .int .i64 x62_5∧v8 = .slice Ax8_5 x8_5.length cx8_5∧spec_ggGroups.l3 kq x3_5 x5_2 x8_5 x9_4 l0_2 (l0_2.length:Int) x28_2 t147 (t147.length:Int) x62_5 a0_0 a0_1 l0_2 = some r∧kq ≤ k4∧St w w (fun _=>False) [bor at27 A0_2 c0_2 l0_2] w'  [row (atI .i64) 3 At147 t147.length ct147 t147,row (atI .i64) 3 Ax8_5 x8_5.length cx8_5 x8_5,box gb139 27 [.int .i64 ((rd_T27 l0_2 x28_2).f0),.int .i64 ((rd_T27 l0_2 x28_2).f1)],row (atI .i64) 3 Ay134 y134.length cy134 x3_5,box gb133 25 [.int .i64 a0_0,.int .i64 a0_1,.slice A0_2 l0_2.length c0_2]])
                 case atStart=>exact ⟨x3_4,x8_4,0,_,_,(by first | rfl | (simp;done) | (simp [*];done) | (rw [w6_ (by omega) (by omega)])),rfl,(by first | exact H | (simp only [F];exact H)),Nat.le_refl _,S⟩
                 case round =>
                  clear H S F
                  obtain ⟨x3_5,x8_5,x62_5,Ax8_5,cx8_5,rfl,rfl,HA,HK5,S⟩:=hrel
                  have F:=S.fc
                  cases gk with
                  | zero=>exact absurd HA (by simp [spec_ggGroups.l3])
                  | succ k5 =>
                   have H:=HA;clear HA;simp only [spec_ggGroups.l3,F] at H
                   replace H:=sp_ H;rcases H with ⟨c47,H⟩ | ⟨c47,H⟩
                   · skip
                     replace H:=np_ H;obtain ⟨c48,H⟩:=H;(try simp only [F] at c48)
                     replace H:=np_ H;obtain ⟨c49,H⟩:=H;(try simp only [F] at c49)
                     replace H:=np_ H;obtain ⟨c50,H⟩:=H;(try simp only [F] at c50)
                     replace H:=np_ H;obtain ⟨c51,H⟩:=H;(try simp only [F] at c51)
                     replace H:=Option.bind_eq_some_iff.mp H;obtain ⟨t152,A52,H⟩:=H;(try dsimp only at H)
                     replace H:=sp_ H;rcases H with ⟨c53,H⟩ | ⟨c53,H⟩
                     · skip
                       subst c53
                       replace H:=np_ H;obtain ⟨c54,H⟩:=H;(try simp only [F] at c54)
                       replace H:=sp_ H;rcases H with ⟨c55,H⟩ | ⟨c55,H⟩
                       · skip
                         (first | (with_reducible replace H:=ob_ H;obtain ⟨y154,hy154,H⟩:=H;(try dsimp only at H)) | (obtain ⟨y154,hy154⟩:∃ y_:List Int,y_ = (x3_5.set ((rd t147 x62_5):Int).toNat x5_2):=⟨_,rfl⟩;(try rw [← hy154] at H);(try simp only [Option.bind_some] at H)));have Ny154:=Aside0.mk hy154;clear hy154
                         replace H:=np_ H;obtain ⟨c57,H⟩:=H;(try simp only [F] at c57)
                         (first | (with_reducible replace H:=ob_ H;obtain ⟨y155,hy155,H⟩:=H;(try dsimp only at H)) | (obtain ⟨y155,hy155⟩:∃ y_:List Int,y_ = (x8_5 ++ [rd t147 x62_5]):=⟨_,rfl⟩;(try rw [← hy155] at H);(try simp only [Option.bind_some] at H)));have Ny155:=Aside0.mk hy155;clear hy155
                         go_wp2_with (first | ((with_reducible refine gate_callee (f:=183) rfl (L ?_));refine cl (some 71) Try.func183 (spec_ggGear.calls _ _ _ _ A52) (hargs:=by (simp only [ma_,mb_,mc_,F] <;> rfl)) (h:=?_);rintro e W ⟨rfl,hb⟩;refine ⟨_,rfl,?_⟩;replace S:=S.go hb;clear F hb;have F:=S.fc) | ((with_reducible refine gd 86 rfl (L ?_));refine apa (A:=Ax8_5) 86 S Try.underlying35 info3 ?_ (ho:=rfl) (hs:=rfl) (hx:=rfl);clear S F;intro Ay155 cy155 W S;(try rw [← Ny134.out] at S ⊢);(try rw [← Ny142.out] at S ⊢);(try rw [← Ny143.out] at S ⊢);(try rw [← Ny154.out] at S ⊢);(try rw [← Ny155.out] at S ⊢);have F:=S.fc) | ((with_reducible refine gs (t:=3) rfl (L ?_));(first | refine sb (.int _ _) S sz3 ?_ | refine ro (.int _ _) S sz3 ?_ (ho:=rfl) (hx:=rfl) (hy:=rfl));clear S F;intro W S;(try simp only [gd27] at S);(try rw [← Ny134.out] at S);(try rw [← Ny142.out] at S);(try rw [← Ny143.out] at S);(try rw [← Ny154.out] at S);(try rw [← Ny155.out] at S);have F:=S.fc) | ((with_reducible refine gs (t:=27) rfl (L ?_));(first | refine sb (.agg #[_,_]) S sz27 ?_ | refine ro (.agg #[_,_]) S sz27 ?_ (ho:=rfl) (hx:=rfl) (hy:=rfl));clear S F;intro W S;(try simp only [gd27] at S);(try rw [← Ny134.out] at S);(try rw [← Ny142.out] at S);(try rw [← Ny143.out] at S);(try rw [← Ny154.out] at S);(try rw [← Ny155.out] at S);have F:=S.fc))
                         go_roundg k5
                         case measure=>omega
                         case rel=>first | (exact ⟨y154,y155,(wrap64 (x62_5 + 1)),_,_,(by first | rfl | (simp;done) | (simp [*];done) | (rw [w6_ (by omega) (by omega)])),rfl,(by first | exact H | (simp only [F];exact H)),(by first | omega | exact Nat.le_refl _),S⟩) | (exact ⟨y154,y155,(wrap64 (x62_5 + 1)),_,_,(by first | rfl | (simp;done) | (simp [*];done) | (rw [w6_ (by omega) (by omega)])),rfl,(by first | exact H | (simp only [F];exact H)),(by first | omega | exact Nat.le_refl _),S.tl⟩)
                       · skip
                         go_wp2_with (first | ((with_reducible refine gate_callee (f:=183) rfl (L ?_));refine cl (some 71) Try.func183 (spec_ggGear.calls _ _ _ _ A52) (hargs:=by (simp only [ma_,mb_,mc_,F] <;> rfl)) (h:=?_);rintro e W ⟨rfl,hb⟩;refine ⟨_,rfl,?_⟩;replace S:=S.go hb;clear F hb;have F:=S.fc) | ((with_reducible refine gs (t:=3) rfl (L ?_));(first | refine sb (.int _ _) S sz3 ?_ | refine ro (.int _ _) S sz3 ?_ (ho:=rfl) (hx:=rfl) (hy:=rfl));clear S F;intro W S;(try simp only [gd27] at S);(try rw [← Ny134.out] at S);(try rw [← Ny142.out] at S);(try rw [← Ny143.out] at S);have F:=S.fc) | ((with_reducible refine gs (t:=27) rfl (L ?_));(first | refine sb (.agg #[_,_]) S sz27 ?_ | refine ro (.agg #[_,_]) S sz27 ?_ (ho:=rfl) (hx:=rfl) (hy:=rfl));clear S F;intro W S;(try simp only [gd27] at S);(try rw [← Ny134.out] at S);(try rw [← Ny142.out] at S);(try rw [← Ny143.out] at S);have F:=S.fc))
                         go_roundg k5
                         case measure=>omega
                         case rel=>first | (exact ⟨x3_5,x8_5,(wrap64 (x62_5 + 1)),_,_,(by first | rfl | (simp;done) | (simp [*];done) | (rw [w6_ (by omega) (by omega)])),rfl,(by first | exact H | (simp only [F];exact H)),(by first | omega | exact Nat.le_refl _),S⟩) | (exact ⟨x3_5,x8_5,(wrap64 (x62_5 + 1)),_,_,(by first | rfl | (simp;done) | (simp [*];done) | (rw [w6_ (by omega) (by omega)])),rfl,(by first | exact H | (simp only [F];exact H)),(by first | omega | exact Nat.le_refl _),S.tl⟩)
                     · skip
                       replace c53:=cbf c53;subst c53
                       go_wp2_with (first | ((with_reducible refine gate_callee (f:=183) rfl (L ?_));refine cl (some 71) Try.func183 (spec_ggGear.calls _ _ _ _ A52) (hargs:=by (simp only [ma_,mb_,mc_,F] <;> rfl)) (h:=?_);rintro e W ⟨rfl,hb⟩;refine ⟨_,rfl,?_⟩;replace S:=S.go hb;clear F hb;have F:=S.fc) | ((with_reducible refine gs (t:=3) rfl (L ?_));(first | refine sb (.int _ _) S sz3 ?_ | refine ro (.int _ _) S sz3 ?_ (ho:=rfl) (hx:=rfl) (hy:=rfl));clear S F;intro W S;(try simp only [gd27] at S);(try rw [← Ny134.out] at S);(try rw [← Ny142.out] at S);(try rw [← Ny143.out] at S);have F:=S.fc) | ((with_reducible refine gs (t:=27) rfl (L ?_));(first | refine sb (.agg #[_,_]) S sz27 ?_ | refine ro (.agg #[_,_]) S sz27 ?_ (ho:=rfl) (hx:=rfl) (hy:=rfl));clear S F;intro W S;(try simp only [gd27] at S);(try rw [← Ny134.out] at S);(try rw [← Ny142.out] at S);(try rw [← Ny143.out] at S);have F:=S.fc))
                       go_roundg k5
                       case measure=>omega
                       case rel=>first | (exact ⟨x3_5,x8_5,(wrap64 (x62_5 + 1)),_,_,(by first | rfl | (simp;done) | (simp [*];done) | (rw [w6_ (by omega) (by omega)])),rfl,(by first | exact H | (simp only [F];exact H)),(by first | omega | exact Nat.le_refl _),S⟩) | (exact ⟨x3_5,x8_5,(wrap64 (x62_5 + 1)),_,_,(by first | rfl | (simp;done) | (simp [*];done) | (rw [w6_ (by omega) (by omega)])),rfl,(by first | exact H | (simp only [F];exact H)),(by first | omega | exact Nat.le_refl _),S.tl⟩)
                   · skip
                     go_wp2_with (first | ((with_reducible refine gs (t:=3) rfl (L ?_));(first | refine sb (.int _ _) S sz3 ?_ | refine ro (.int _ _) S sz3 ?_ (ho:=rfl) (hx:=rfl) (hy:=rfl));clear S F;intro W S;(try simp only [gd27] at S);(try rw [← Ny134.out] at S);(try rw [← Ny142.out] at S);(try rw [← Ny143.out] at S);have F:=S.fc) | ((with_reducible refine gs (t:=27) rfl (L ?_));(first | refine sb (.agg #[_,_]) S sz27 ?_ | refine ro (.agg #[_,_]) S sz27 ?_ (ho:=rfl) (hx:=rfl) (hy:=rfl));clear S F;intro W S;(try simp only [gd27] at S);(try rw [← Ny134.out] at S);(try rw [← Ny142.out] at S);(try rw [← Ny143.out] at S);have F:=S.fc))
                     go_roundg k5
                     case measure=>omega
                     case rel=>first | (exact ⟨x3_5,x8_5,(wrap64 (x9_4 + 1)),_,_,(by first | rfl | (simp;done) | (simp [*];done) | (rw [w6_ (by omega) (by omega)])),rfl,(by first | exact H | (simp only [F];exact H)),(by first | omega | exact Nat.le_refl _),S⟩) | (exact ⟨x3_5,x8_5,(wrap64 (x9_4 + 1)),_,_,(by first | rfl | (simp;done) | (simp [*];done) | (rw [w6_ (by omega) (by omega)])),rfl,(by first | exact H | (simp only [F];exact H)),(by first | omega | exact Nat.le_refl _),S.tl⟩)
               · skip
                 go_wp2_with (first | ((with_reducible refine gs (t:=3) rfl (L ?_));(first | refine sb (.int _ _) S sz3 ?_ | refine ro (.int _ _) S sz3 ?_ (ho:=rfl) (hx:=rfl) (hy:=rfl));clear S F;intro W S;(try simp only [gd27] at S);(try rw [← Ny134.out] at S);(try rw [← Ny142.out] at S);(try rw [← Ny143.out] at S);have F:=S.fc) | ((with_reducible refine gs (t:=27) rfl (L ?_));(first | refine sb (.agg #[_,_]) S sz27 ?_ | refine ro (.agg #[_,_]) S sz27 ?_ (ho:=rfl) (hx:=rfl) (hy:=rfl));clear S F;intro W S;(try simp only [gd27] at S);(try rw [← Ny134.out] at S);(try rw [← Ny142.out] at S);(try rw [← Ny143.out] at S);have F:=S.fc))
                 go_roundg k4
                 case measure=>omega
                 case rel=>exact ⟨x3_4,(wrap64 (x5_2 + 1)),(wrap64 (x28_2 + 1)),(by first | rfl | (simp;done) | (simp [*];done) | (rw [w6_ (by omega) (by omega)])),(by first | rfl | (simp;done) | (simp [*];done) | (rw [w6_ (by omega) (by omega)])),(by first | exact H | (simp only [F];exact H)),(by first | omega | exact Nat.le_refl _),S.tl.tl⟩
       · skip
         obtain rfl:=Option.some.inj H
         go_wp2_with (first | ((with_reducible refine gs (t:=3) rfl (L ?_));(first | refine sb (.int _ _) S sz3 ?_ | refine ro (.int _ _) S sz3 ?_ (ho:=rfl) (hx:=rfl) (hy:=rfl));clear S F;intro W S;(try simp only [gd27] at S);(try rw [← Ny134.out] at S);have F:=S.fc) | ((with_reducible refine gs (t:=27) rfl (L ?_));(first | refine sb (.agg #[_,_]) S sz27 ?_ | refine ro (.agg #[_,_]) S sz27 ?_ (ho:=rfl) (hx:=rfl) (hy:=rfl));clear S F;intro W S;(try simp only [gd27] at S);(try rw [← Ny134.out] at S);have F:=S.fc))
         go_ret
         exact ⟨_,(by first | rfl | (simp [e0_,e1_] <;> rfl) | (simp [*,e0_,e1_] <;> rfl)),(by first | exact S.r | exact Kd.R_nil _ _ _ _ _),S.below⟩

/-! ### spec_saUnits: function 142 -/
mutual
def spec_saUnits.l0:Nat→List Int→List Int→Int→Int→Int→Int→List (S27)→Option ((List (List Int)))
  | 0,_,_,_,_,_,_,_=>none
  | k + 1,g,x4,x16,x17,x159000,x159001,x159002=>if x17 < x16 then (if 0 ≤ x17 then (if x17 < (x4.length:Int) then (spec_saUnits.l0 k g (x4.set (x17:Int).toNat (-1)) x16 (wrap64 (x17 + 1)) x159000 x159001 x159002) else (none)) else (none)) else (spec_saUnits.l1 k g x4 ([]:List (List Int)) x159002 (x159002.length:Int) 0)
def spec_saUnits.l1:Nat→List Int→List Int→List (List Int)→List (S27)→Int→Int→Option ((List (List Int)))
  | 0,_,_,_,_,_,_=>none
  | k + 1,g,x4,x6,x25,x26,x27=>if x27 < x26 then (if 0 ≤ x27 then (if x27 < (x25.length:Int) then (if ((rd_T27 x25 x27).f0) = 3 then (if x6.length < 1000000 then (spec_saUnits.l1 k g x4 (x6 ++ [(([x27]:List Int))]) x25 x26 (wrap64 (x27 + 1))) else (none)) else (if ((rd_T27 x25 x27).f0) = 6 then (if x27 < (g.length:Int) then (if 0 ≤ rd g x27 then (if rd g x27 < (x4.length:Int) then (if rd x4 (rd g x27) < 0 then (if x6.length < 1000000 then (spec_saUnits.l1 k g (x4.set (rd g x27).toNat (x6.length:Int)) (x6 ++ [(([x27]:List Int))]) x25 x26 (wrap64 (x27 + 1))) else (none)) else (if rd x4 (rd g x27) < (x6.length:Int) then (if (rd_L3 x6 (rd x4 (rd g x27))).length < 1000000 then (spec_saUnits.l1 k g x4 (x6.set (rd x4 (rd g x27)).toNat ((rd_L3 x6 (rd x4 (rd g x27))) ++ [x27])) x25 x26 (wrap64 (x27 + 1))) else (none)) else (none))) else (none)) else (none)) else (none)) else (spec_saUnits.l1 k g x4 x6 x25 x26 (wrap64 (x27 + 1))))) else (none)) else (none)) else (some x6)
end
def spec_saUnits.f (k:Nat) (a0_0:Int) (a0_1:Int) (l0_2:List (S27)):Option ((List (List Int))):=(spec_ggGroups.f k a0_0 a0_1 l0_2).bind fun t159=>(if 0 ≤ (l0_2.length:Int) then (if ((l0_2.length:Int):Int).toNat ≤ 35184372088832 then ((some (List.replicate ((l0_2.length:Int):Int).toNat 0:List Int)).bind fun y162=>(spec_saUnits.l0 k t159 y162 (y162.length:Int) 0 a0_0 a0_1 l0_2)) else (none)) else (none))
theorem spec_saUnits.calls (k:Nat) (a0_0:Int) (a0_1:Int) (A0_2:Option Addr) (c0_2:Nat) (l0_2:List (S27)) (r:List (List Int)) (w:World) (hr0_2:Kd.C k27 w A0_2 l0_2.length l0_2) (hc0_2:l0_2.length ≤ c0_2) (h:spec_saUnits.f k a0_0 a0_1 l0_2 = some r) :
    Calls Try.prog 142 #[.agg #[.int .i64 a0_0,.int .i64 a0_1,.slice A0_2 l0_2.length c0_2]] w fun e w'=>∃ v0_:Value,e = .returned (v0_)∧Kd.R (Kd.slice 3 (Kd.int .i64)) 35 w' w.heap.size (fun _=>True) v0_ r∧Below w.heap.size w w':=by
 have S:=St.init (w:=w) (dc k27_heap at27 hr0_2 hc0_2 dn)
 clear hr0_2 hc0_2
 have F:=S.fc
 have H:=h;clear h;unfold spec_saUnits.f at H
 replace H:=Option.bind_eq_some_iff.mp H;obtain ⟨t159,A2,H⟩:=H;(try dsimp only at H)
 replace H:=np_ H;obtain ⟨c3,H⟩:=H;(try simp only [F] at c3)
 replace H:=np_ H;obtain ⟨c4,H⟩:=H;(try simp only [F] at c4)
 (first | (with_reducible replace H:=ob_ H;obtain ⟨y162,hy162,H⟩:=H;(try dsimp only at H)) | (obtain ⟨y162,hy162⟩:∃ y_:List Int,y_ = (List.replicate ((l0_2.length:Int):Int).toNat 0):=⟨_,rfl⟩;(try rw [← hy162] at H);(try simp only [Option.bind_some] at H)));have Ny162:=Aside0.mk hy162;clear hy162
 go_enter Try.func142,Try.ntmps142
 go_wp2_with (first | ((with_reducible refine gd 1 rfl (L ?_));refine bo 1 (.agg #[_,_,_]) S ?_;clear S F;intro gb158 W S;have F:=S.fc) | ((with_reducible refine gate_callee (f:=170) rfl (L ?_));refine cl (some 10) Try.func170 (spec_ggGroups.calls _ _ _ _ _ _ _ _ S.c S.n A2) (hargs:=by (simp only [ma_,mb_,mc_,F] <;> rfl)) (h:=?_);rintro e W ⟨v160,rfl,ho0,hb⟩;refine ⟨_,rfl,?_⟩;replace S:=S.got (atI .i64) hb ho0;obtain ⟨At159,ct159,rfl,S⟩:=S;clear F hb ho0;have F:=S.fc) | ((with_reducible refine gd 14 rfl (L ?_));refine mka 14 (atI .i64) S Try.underlying35 info3 ?_;clear S F;intro Ay162 cy162 W S;(try simp only [Int.reduceToNat] at S ⊢);(try rw [← Ny162.out] at S ⊢);have F:=S.fc))
 go_loopg [17] k (fun kq v17 w'=>∃ (x4_1:List Int) (x17_1:Int),v17 = .int .i64 x17_1∧spec_saUnits.l0 kq t159 x4_1 (y162.length:Int) x17_1 a0_0 a0_1 l0_2 = some r∧kq ≤ k∧St w w (fun _=>False) [bor at27 A0_2 c0_2 l0_2] w'  [row (atI .i64) 3 Ay162 y162.length cy162 x4_1,row (atI .i64) 3 At159 t159.length ct159 t159,box gb158 25 [.int .i64 a0_0,.int .i64 a0_1,.slice A0_2 l0_2.length c0_2]])
 case atStart=>exact ⟨y162,0,(by first | rfl | (simp;done) | (simp [*];done) | (rw [w6_ (by omega) (by omega)])),(by first | exact H | (simp only [F];exact H)),Nat.le_refl _,S⟩
 case round =>
  clear H S F
  obtain ⟨x4_1,x17_1,rfl,HA,HK1,S⟩:=hrel
  have F:=S.fc
  cases gk with
  | zero=>exact absurd HA (by simp [spec_saUnits.l0])
  | succ k1 =>
   have H:=HA;clear HA;simp only [spec_saUnits.l0,F] at H
   replace H:=sp_ H;rcases H with ⟨c12,H⟩ | ⟨c12,H⟩
   · skip
     replace H:=np_ H;obtain ⟨c13,H⟩:=H;(try simp only [F] at c13)
     replace H:=np_ H;obtain ⟨c14,H⟩:=H;(try simp only [F] at c14)
     go_wp2_with (first | ((with_reducible refine gs (t:=3) rfl (L ?_));(first | refine sb (.int _ _) S sz3 ?_ | refine ro (.int _ _) S sz3 ?_ (ho:=rfl) (hx:=rfl) (hy:=rfl));clear S F;intro W S;have F:=S.fc))
     go_roundg k1
     case measure=>omega
     case rel=>exact ⟨_,(wrap64 (x17_1 + 1)),(by first | rfl | (simp;done) | (simp [*];done) | (rw [w6_ (by omega) (by omega)])),(by first | exact H | (simp only [F];exact H)),(by first | omega | exact Nat.le_refl _),S⟩
   · skip
     go_wp2
     go_loopg [6,27] k1 (fun kq v6 v27 w'=>∃ (x4:List Int) (x6:List (List Int)) (i:Int) (A6:Option Addr) (c6:Nat),v27 = .int .i64 i∧v6 = .slice A6 x6.length c6∧spec_saUnits.l1 kq t159 x4 x6 l0_2 (l0_2.length:Int) i = some r∧kq ≤ k1∧St w w (fun _=>False) [bor at27 A0_2 c0_2 l0_2] w'  [srow (Kd.slice 3 (Kd.int .i64)) 35 A6 x6.length c6 x6,row (atI .i64) 3 Ay162 y162.length cy162 x4,row (atI .i64) 3 At159 t159.length ct159 t159,box gb158 25 [.int .i64 a0_0,.int .i64 a0_1,.slice A0_2 l0_2.length c0_2]])
     case atStart=>exact ⟨x4_1,[],0,none,0,(by first | rfl | (simp;done) | (simp [*];done) | (rw [w6_ (by omega) (by omega)])),rfl,(by first | exact H | (simp only [F];exact H)),Nat.le_refl _,(S.ns (Kd.slice 3 (Kd.int .i64)) 35)⟩
     case round =>
      clear H S F
      obtain ⟨x4,x6,i,A6,c6,rfl,rfl,HA,HK2,S⟩:=hrel
      have F:=S.fc
      cases gk with
      | zero=>exact absurd HA (by simp [spec_saUnits.l1])
      | succ k2 =>
       have H:=HA;clear HA;simp only [spec_saUnits.l1,F] at H
       replace H:=sp_ H;rcases H with ⟨c19,H⟩ | ⟨c19,H⟩
       · skip
         replace H:=np_ H;obtain ⟨c20,H⟩:=H
         replace H:=np_ H;obtain ⟨c21,H⟩:=H
         replace H:=sp_ H;rcases H with ⟨c22,H⟩ | ⟨c22,H⟩
         · skip
           replace c22:=ceq c22
           replace H:=np_ H;obtain ⟨c23,H⟩:=H
           go_wp2_with (first | ((with_reducible refine gd 8 rfl (L ?_));refine al 8 S zi27 ?_;clear S F;intro gb167 W S;have F:=S.fc) | ((with_reducible refine gd 38 rfl (L ?_));refine lia 38 (atI .i64) 3 S ([i]:List Int) (fun _ _=>(Reps.one (show Kd.M (Kd.int .i64) _ _ _ i [.int .i64 i] from rfl) (Reps.none _ _))) (by first | (go_simp;done) | (go_simp;rfl)) ?_;clear S F;intro Ay168 cy168 W S;have F:=S.fc) | ((with_reducible refine gd 40 rfl (L ?_));refine aps (A:=A6) (A2:=Ay168) 40 S Try.underlying114 info35 ?_ (ho:=rfl) (hs:=rfl) (hx:=rfl);clear S F;intro Ay171 cy171 W S;have F:=S.fc) | ((with_reducible refine gs (t:=27) rfl (L ?_));(first | refine sb (.agg #[_,_]) S sz27 ?_ | refine ro (.agg #[_,_]) S sz27 ?_ (ho:=rfl) (hx:=rfl) (hy:=rfl));clear S F;intro W S;have F:=S.fc))
           go_roundg k2
           case measure=>omega
           case rel=>exact ⟨x4,_,(wrap64 (i + 1)),_,_,(by first | rfl | (simp;done) | (simp [*];done) | (rw [w6_ (by omega) (by omega)])),(by first | rfl | simp),(by first | exact H | (simp only [F];exact H)),(by first | omega | exact Nat.le_refl _),S.tl.tl⟩
         · skip
           replace c22:=cne c22
           replace H:=sp_ H;rcases H with ⟨c24,H⟩ | ⟨c24,H⟩
           · skip
             replace c24:=ceq c24
             replace H:=np_ H;obtain ⟨c25,H⟩:=H
             replace H:=np_ H;obtain ⟨c26,H⟩:=H
             replace H:=np_ H;obtain ⟨c27,H⟩:=H
             replace H:=sp_ H;rcases H with ⟨c28,H⟩ | ⟨c28,H⟩
             · skip
               replace H:=np_ H;obtain ⟨c29,H⟩:=H
               go_wp2_with (first | ((with_reducible refine gd 8 rfl (L ?_));refine al 8 S zi27 ?_;clear S F;intro gb167 W S;have F:=S.fc) | ((with_reducible refine gd 65 rfl (L ?_));refine lia 65 (atI .i64) 3 S ([i]:List Int) (fun _ _=>(Reps.one (show Kd.M (Kd.int .i64) _ _ _ i [.int .i64 i] from rfl) (Reps.none _ _))) (by first | (go_simp;done) | (go_simp;rfl)) ?_;clear S F;intro Ay168 cy168 W S;have F:=S.fc) | ((with_reducible refine gd 67 rfl (L ?_));refine aps (A:=A6) (A2:=Ay168) 67 S Try.underlying114 info35 ?_ (ho:=rfl) (hs:=rfl) (hx:=rfl);clear S F;intro Ay171 cy171 W S;have F:=S.fc) | ((with_reducible refine gs (t:=3) rfl (L ?_));(first | refine sb (.int _ _) S sz3 ?_ | refine ro (.int _ _) S sz3 ?_ (ho:=rfl) (hx:=rfl) (hy:=rfl));clear S F;intro W S;have F:=S.fc) | ((with_reducible refine gs (t:=27) rfl (L ?_));(first | refine sb (.agg #[_,_]) S sz27 ?_ | refine ro (.agg #[_,_]) S sz27 ?_ (ho:=rfl) (hx:=rfl) (hy:=rfl));clear S F;intro W S;have F:=S.fc))
               go_roundg k2
               case measure=>omega
               case rel=>exact ⟨_,_,(wrap64 (i + 1)),_,_,(by first | rfl | (simp;done) | (simp [*];done) | (rw [w6_ (by omega) (by omega)])),(by first | rfl | simp),(by first | exact H | (simp only [F];exact H)),(by first | omega | exact Nat.le_refl _),S.tl.tl⟩
             · skip
               replace H:=np_ H;obtain ⟨c30,H⟩:=H
               replace H:=np_ H;obtain ⟨c31,H⟩:=H
               have c32:0 ≤ rd x4 (rd t159 i):=by omega
               obtain ⟨A7,c7,S⟩:=S.spl A6 (atI .i64) (rd x4 (rd t159 i)) (rd_L3 x6 (rd x4 (rd t159 i)))
               clear F;have F:=S.fc
               go_upto_region 18 with (first | ((with_reducible refine gd 8 rfl (L ?_));refine al 8 S zi27 ?_;clear S F;intro gb167 W S;have F:=S.fc) | ((with_reducible refine gs (t:=27) rfl (L ?_));(first | refine sb (.agg #[_,_]) S sz27 ?_ | refine ro (.agg #[_,_]) S sz27 ?_ (ho:=rfl) (hx:=rfl) (hy:=rfl));clear S F;intro W S;have F:=S.fc))
               (try simp only [Act.put,List.setIfInBounds_toArray,List.set_cons_zero,List.set_cons_succ])
               refine rgP S (fun _ S=>(S.pm [0,2,3,4,5])) [(0,0),(0,1),(0,2),(0,3),(0,4),(0,8),(0,9),(0,10),(0,11),(0,12),(0,18),(1,5),(0,6),(1,7),(1,13),(0,14),(1,15),(0,16),(1,17),(2,19),(2,20),(0,21),(3,22)] [22] (by kernel_rfl) (by kernel_rfl) (fun _ d _ _ _ h=>by cases d <;> exact h) ?_;clear S F;intro W S;have S0:=(S.pm [0,2,3,4,5]);have F:=S.fc
               repeat (first | (refine q0 (h:=?_)) | (refine q1 S0 (h:=?_)) | (refine q0n (h:=?_)) | (refine q1n S0 (h:=?_)))
               refine lk2 (by rfl) (by exact (Eq.refl true)) ?_;refine lv 91 (cs:=[.int .i64 i]) (e:=3) (by first | (go_simp;done) | (go_simp;rfl)) ?_
               clear S0;have S0:=St.al1 (S.pm [0,2,3,4,5]) (.cells (List.toArray [.int .i64 i]) 3);refine ⟨S0,?_⟩
               refine lk2 (by rfl) (by exact (Eq.refl true)) ?_;refine apa (A:=A7) 92 S Try.underlying35 info3 ?_ (ho:=rfl) (hs:=rfl) (hx:=rfl);clear S F;intro A8 c8 W S;have F:=S.fc
               clear S0;have S0:=(S.pm [0,2,3,4,5]);refine ⟨S0,?_⟩
               repeat (first | (refine q0 (h:=?_)) | (refine q1 S0 (h:=?_)) | (refine q0n (h:=?_)) | (refine q1n S0 (h:=?_)))
               refine lk3 (by rfl) (by exact (Eq.refl true)) ?_;refine sh (A:=A6) (.slice A8 _ _) S sz35 ?_;clear S F;intro W S
               replace S:=S.joi A6 A8
               have F:=S.fc
               refine oz ?_
               try clear S0
               try go_wp2
               obtain ⟨y6,hy6⟩:∃ y6,y6 = x6.set (rd x4 (rd t159 i)).toNat (rd_L3 x6 (rd x4 (rd t159 i)) ++ [i]):=⟨_,rfl⟩
               have hl:x6.length = y6.length:=by rw [hy6,List.length_set]
               rw [← hy6,hl] at S;rw [← hy6] at H
               go_roundg k2
               case measure=>omega
               case rel=>exact ⟨x4,y6,(wrap64 (i + 1)),_,_,(by first | rfl | (simp;done) | (simp [*];done) | (rw [w6_ (by omega) (by omega)])),(by rw [hl]),(by first | exact H | (simp only [F];exact H)),(by first | omega | exact Nat.le_refl _),S.tl.tl⟩
           · skip
             replace c24:=cne c24
             go_wp2_with (first | ((with_reducible refine gd 8 rfl (L ?_));refine al 8 S zi27 ?_;clear S F;intro gb167 W S;have F:=S.fc) | ((with_reducible refine gs (t:=27) rfl (L ?_));(first | refine sb (.agg #[_,_]) S sz27 ?_ | refine ro (.agg #[_,_]) S sz27 ?_ (ho:=rfl) (hx:=rfl) (hy:=rfl));clear S F;intro W S;have F:=S.fc))
             go_roundg k2
             case measure=>omega
             case rel=>exact ⟨x4,x6,(wrap64 (i + 1)),_,_,(by first | rfl | (simp;done) | (simp [*];done) | (rw [w6_ (by omega) (by omega)])),rfl,(by first | exact H | (simp only [F];exact H)),(by first | omega | exact Nat.le_refl _),S.tl⟩
       · skip
         obtain rfl:=Option.some.inj H
         go_wp2
         go_ret
         exact ⟨_,(by first | rfl | (simp [e0_,e1_] <;> rfl) | (simp [*,e0_,e1_] <;> rfl)),(S.sr A6 (atU (d:=Kd.slice 3 (Kd.int .i64)))).r,S.below⟩

/-! ### spec_rvHas: function 100 -/
def spec_rvHas.f (k:Nat) (a0_0:Int) (a0_1:Int) (l0_2:List (S27)) (a1:Int):Option (Bool):=(spec_flHas.f k a0_0 a0_1 l0_2 a1).bind fun t175=>(if t175 = true then ((spec_saUnits.f k a0_0 a0_1 l0_2).bind fun t176=>(some (decide ((t176.length:Int) ≤ 10)))) else (some false))
theorem spec_rvHas.calls (k:Nat) (a0_0:Int) (a0_1:Int) (A0_2:Option Addr) (c0_2:Nat) (l0_2:List (S27)) (a1:Int) (r:Bool) (w:World) (hr0_2:Kd.C k27 w A0_2 l0_2.length l0_2) (hc0_2:l0_2.length ≤ c0_2) (h:spec_rvHas.f k a0_0 a0_1 l0_2 a1 = some r) :
    Calls Try.prog 100 #[.agg #[.int .i64 a0_0,.int .i64 a0_1,.slice A0_2 l0_2.length c0_2],.int .i64 a1] w fun e w'=>e = .returned (.bool r)∧Below w.heap.size w w':=by
 have S:=St.init (w:=w) (dc k27_heap at27 hr0_2 hc0_2 dn)
 clear hr0_2 hc0_2
 have F:=S.fc
 have H:=h;clear h;unfold spec_rvHas.f at H
 replace H:=Option.bind_eq_some_iff.mp H;obtain ⟨t175,A3,H⟩:=H;(try dsimp only at H)
 replace H:=sp_ H;rcases H with ⟨c4,H⟩ | ⟨c4,H⟩
 · skip
   subst c4
   replace H:=Option.bind_eq_some_iff.mp H;obtain ⟨t176,A5,H⟩:=H;(try dsimp only at H)
   obtain rfl:=Option.some.inj H
   go_enter Try.func100,Try.ntmps100
   go_wp2_with (first | ((with_reducible refine gd 2 rfl (L ?_));refine bo 2 (.agg #[_,_,_]) S ?_;clear S F;intro gb174 W S;have F:=S.fc) | ((with_reducible refine gate_callee (f:=141) rfl (L ?_));refine cl (some 7) Try.func141 (spec_flHas.calls _ _ _ _ _ _ _ _ _ S.c S.n A3) (hargs:=by (simp only [ma_,mb_,mc_,F] <;> rfl)) (h:=?_);rintro e W ⟨rfl,hb⟩;refine ⟨_,rfl,?_⟩;replace S:=S.go hb;clear F hb;have F:=S.fc) | (go_at_call 142;(try simp only [F]);refine (spec_saUnits.calls _ _ _ _ _ _ _ _ S.c S.n A5).mono ?_;rintro e W ⟨v177,rfl,ho0,hb⟩;replace S:=S.got (atU (d:=Kd.slice 3 (Kd.int .i64))) hb ho0;obtain ⟨At176,ct176,rfl,S⟩:=S;clear F hb ho0;replace S:=S.fzr At176 rfl;have F:=S.fc))
   go_ret
   exact ⟨(by first | rfl | (simp [e0_,e1_] <;> rfl) | (simp [*,e0_,e1_] <;> rfl)),S.below⟩
 · skip
   replace c4:=cbf c4;subst c4
   obtain rfl:=Option.some.inj H
   go_enter Try.func100,Try.ntmps100
   go_wp2_with (first | ((with_reducible refine gd 2 rfl (L ?_));refine bo 2 (.agg #[_,_,_]) S ?_;clear S F;intro gb174 W S;have F:=S.fc) | ((with_reducible refine gate_callee (f:=141) rfl (L ?_));refine cl (some 7) Try.func141 (spec_flHas.calls _ _ _ _ _ _ _ _ _ S.c S.n A3) (hargs:=by (simp only [ma_,mb_,mc_,F] <;> rfl)) (h:=?_);rintro e W ⟨rfl,hb⟩;refine ⟨_,rfl,?_⟩;replace S:=S.go hb;clear F hb;have F:=S.fc))
   go_ret
   exact ⟨(by first | rfl | (simp [e0_,e1_] <;> rfl) | (simp [*,e0_,e1_] <;> rfl)),S.below⟩

/-! ### spec_saBits: function 153 -/
def spec_saBits.l0:Nat→List Int→List (List Int)→Int→Int→Int→Int→List (S27)→Option (List Int)
  | 0,_,_,_,_,_,_,_=>none
  | k + 1,x3,x7,x8,x9,x180000,x180001,x180002=>if x9 < x8 then (if 0 ≤ x9 then (if x9 < (x7.length:Int) then (if 0 < ((rd_L3 x7 x9).length:Int) then (if 0 ≤ (rd (rd_L3 x7 x9) 0) then (if (rd (rd_L3 x7 x9) 0) < (x180002.length:Int) then (if x3.length < 17592186044416 then (spec_saBits.l0 k (x3 ++ [(rd_T27 x180002 (rd (rd_L3 x7 x9) 0)).f1]) x7 x8 (wrap64 (x9 + 1)) x180000 x180001 x180002) else (none)) else (none)) else (none)) else (none)) else (none)) else (none)) else (some x3)
def spec_saBits.f (k:Nat) (a0_0:Int) (a0_1:Int) (l0_2:List (S27)):Option (List Int):=(spec_saUnits.f k a0_0 a0_1 l0_2).bind fun t180=>(spec_saBits.l0 k ([]:List Int) t180 (t180.length:Int) 0 a0_0 a0_1 l0_2)
theorem spec_saBits.calls (k:Nat) (a0_0:Int) (a0_1:Int) (A0_2:Option Addr) (c0_2:Nat) (l0_2:List (S27)) (r:List Int) (w:World) (hr0_2:Kd.C k27 w A0_2 l0_2.length l0_2) (hc0_2:l0_2.length ≤ c0_2) (h:spec_saBits.f k a0_0 a0_1 l0_2 = some r) :
    Calls Try.prog 153 #[.agg #[.int .i64 a0_0,.int .i64 a0_1,.slice A0_2 l0_2.length c0_2]] w fun e w'=>∃ v0_:Value,e = .returned (v0_)∧Kd.R (Kd.int .i64) 3 w' w.heap.size (fun _=>True) v0_ r∧Below w.heap.size w w':=by
 have S:=St.init (w:=w) (dc k27_heap at27 hr0_2 hc0_2 dn)
 clear hr0_2 hc0_2
 have F:=S.fc
 have H:=h;clear h;unfold spec_saBits.f at H
 replace H:=Option.bind_eq_some_iff.mp H;obtain ⟨t180,A2,H⟩:=H;(try dsimp only at H)
 go_enter Try.func153,Try.ntmps153
 go_wp2_with (first | ((with_reducible refine gd 1 rfl (L ?_));refine bo 1 (.agg #[_,_,_]) S ?_;clear S F;intro gb179 W S;have F:=S.fc) | ((with_reducible refine gate_callee (f:=142) rfl (L ?_));refine cl (some 7) Try.func142 (spec_saUnits.calls _ _ _ _ _ _ _ _ S.c S.n A2) (hargs:=by (simp only [ma_,mb_,mc_,F] <;> rfl)) (h:=?_);rintro e W ⟨v181,rfl,ho0,hb⟩;refine ⟨_,rfl,?_⟩;replace S:=S.got (atU (d:=Kd.slice 3 (Kd.int .i64))) hb ho0;obtain ⟨At180,ct180,rfl,S⟩:=S;clear F hb ho0;replace S:=S.fzr At180 rfl;have F:=S.fc))
 go_loopg [3,9] k (fun kq v3 v9 w'=>∃ (x3_1:List Int) (x9_1:Int) (Ax3_1:Option Addr) (cx3_1:Nat),v9 = .int .i64 x9_1∧v3 = .slice Ax3_1 x3_1.length cx3_1∧spec_saBits.l0 kq x3_1 t180 (t180.length:Int) x9_1 a0_0 a0_1 l0_2 = some r∧kq ≤ k∧St w w (fun _=>False) [bor (atU (d:=Kd.slice 3 (Kd.int .i64))) At180 ct180 t180,bor at27 A0_2 c0_2 l0_2] w'  [row (atI .i64) 3 Ax3_1 x3_1.length cx3_1 x3_1,box gb179 25 [.int .i64 a0_0,.int .i64 a0_1,.slice A0_2 l0_2.length c0_2]])
 case atStart=>exact ⟨_,0,_,_,(by first | rfl | (simp;done) | (simp [*];done) | (rw [w6_ (by omega) (by omega)])),rfl,H,Nat.le_refl _,((S.nl (e:=3) (atI .i64)).pm [0,2])⟩
 case round =>
  clear H S F
  obtain ⟨x3_1,x9_1,Ax3_1,cx3_1,rfl,rfl,HA,HK1,S⟩:=hrel
  have F:=S.fc
  cases gk with
  | zero=>exact absurd HA (by simp [spec_saBits.l0])
  | succ k1 =>
   have H:=HA;clear HA;simp only [spec_saBits.l0,F] at H
   replace H:=sp_ H;rcases H with ⟨c7,H⟩ | ⟨c7,H⟩
   · skip
     replace H:=np_ H;obtain ⟨c8,H⟩:=H
     replace H:=np_ H;obtain ⟨c9,H⟩:=H
     replace H:=np_ H;obtain ⟨c10,H⟩:=H
     replace H:=np_ H;obtain ⟨c11,H⟩:=H
     replace H:=np_ H;obtain ⟨c12,H⟩:=H
     replace H:=np_ H;obtain ⟨c13,H⟩:=H
     (first | (with_reducible replace H:=ob_ H;obtain ⟨y186,hy186,H⟩:=H;(try dsimp only at H)) | (obtain ⟨y186,hy186⟩:∃ y_:List Int,y_ = (x3_1 ++ [(rd_T27 l0_2 (rd (rd_L3 t180 x9_1) 0)).f1]):=⟨_,rfl⟩;(try rw [← hy186] at H);(try simp only [Option.bind_some] at H)));have Ny186:=Aside0.mk hy186;clear hy186
     (try have m0_:0 < (rd_L3 t180 x9_1).length:=by omega)
     obtain ⟨A183_0,c183_0,S⟩:=S.inn t180 (atZ .i64) x9_1 (rd_L3 t180 x9_1);clear F;have F:=S.fc
     try go_wp2
     refine rq S [(0,0),(0,1),(0,3),(0,4),(1,2),(1,5),(0,6),(0,7),(1,8),(3,9),(3,10),(0,11)] [9,10] (h:=?_);clear S F;intro W S;have S0:=S;have F:=S.fc
     repeat (first | (refine q0 (h:=?_)) | (refine q1 S0 (h:=?_)) | (refine q0n (h:=?_)) | (refine q1n S0 (h:=?_)))
     refine lk3 (by rfl) (by exact (Eq.refl true)) ?_;refine lv 22 (cs:=[.int .i64 ((rd_T27 l0_2 (rd (rd_L3 t180 x9_1) 0)).f1)]) (e:=3) (by first | (go_simp;done) | (go_simp;rfl)) ?_
     refine lk3 (by rfl) (by exact (Eq.refl true)) ?_;refine apa (A:=Ax3_1) 23 S Try.underlying35 info3 ?_ (ho:=rfl) (hs:=rfl) (hx:=rfl);clear S F;intro Ay186 cy186 W S;(try rw [← Ny186.out] at S ⊢);have F:=S.fc
     repeat (first | (refine q0 (h:=?_)) | (refine q1 S0 (h:=?_)) | (refine q0n (h:=?_)) | (refine q1n S0 (h:=?_)))
     refine oz ?_
     try clear S0
     try go_wp2
     go_roundg k1
     case measure=>omega
     case rel=>exact ⟨y186,(wrap64 (x9_1 + 1)),_,_,(by first | rfl | (simp;done) | (simp [*];done) | (rw [w6_ (by omega) (by omega)])),rfl,H,(by first | omega | exact Nat.le_refl _),(S.dk [2,3])⟩
   · skip
     obtain rfl:=Option.some.inj H
     go_wp2
     go_ret
     exact ⟨_,(by first | rfl | (simp [e0_,e1_] <;> rfl) | (simp [*,e0_,e1_] <;> rfl)),(by first | exact S.r | exact Kd.R_nil _ _ _ _ _),S.below⟩

/-! ### spec_saNumber: function 109 -/
def spec_saNumber.l0:Nat→Int→List Int→Int→Int→Option (Int)
  | 0,_,_,_,_=>none
  | k + 1,x3,x7,x8,x9=>if x9 < x8 then (if 0 ≤ x9 then (if x9 < (x7.length:Int) then (if 0 ≤ (IntKind.u64.wrap (x9)) then (spec_saNumber.l0 k (wrap64 (x3 + (shl .i64 (rd x7 x9) (IntKind.u64.wrap (x9))))) x7 x8 (wrap64 (x9 + 1))) else (none)) else (none)) else (none)) else (some x3)
def spec_saNumber.f (k:Nat) (a0_0:Int) (a0_1:Int) (l0_2:List (S27)):Option (Int):=(spec_saBits.f k a0_0 a0_1 l0_2).bind fun t190=>(spec_saNumber.l0 k 0 t190 (t190.length:Int) 0)
theorem spec_saNumber.calls (k:Nat) (a0_0:Int) (a0_1:Int) (A0_2:Option Addr) (c0_2:Nat) (l0_2:List (S27)) (r:Int) (w:World) (hr0_2:Kd.C k27 w A0_2 l0_2.length l0_2) (hc0_2:l0_2.length ≤ c0_2) (h:spec_saNumber.f k a0_0 a0_1 l0_2 = some r) :
    Calls Try.prog 109 #[.agg #[.int .i64 a0_0,.int .i64 a0_1,.slice A0_2 l0_2.length c0_2]] w fun e w'=>e = .returned (.int .i64 r)∧Below w.heap.size w w':=by
 have S:=St.init (w:=w) (dc k27_heap at27 hr0_2 hc0_2 dn)
 clear hr0_2 hc0_2
 have F:=S.fc
 have H:=h;clear h;unfold spec_saNumber.f at H
 replace H:=Option.bind_eq_some_iff.mp H;obtain ⟨t190,A2,H⟩:=H;(try dsimp only at H)
 go_enter Try.func109,Try.ntmps109
 go_wp2_with (first | ((with_reducible refine gd 1 rfl (L ?_));refine bo 1 (.agg #[_,_,_]) S ?_;clear S F;intro gb189 W S;have F:=S.fc) | ((with_reducible refine gate_callee (f:=153) rfl (L ?_));refine cl (some 7) Try.func153 (spec_saBits.calls _ _ _ _ _ _ _ _ S.c S.n A2) (hargs:=by (simp only [ma_,mb_,mc_,F] <;> rfl)) (h:=?_);rintro e W ⟨v191,rfl,ho0,hb⟩;refine ⟨_,rfl,?_⟩;replace S:=S.got (atI .i64) hb ho0;obtain ⟨At190,ct190,rfl,S⟩:=S;clear F hb ho0;have F:=S.fc))
 go_loopg [3,9] k (fun kq v3 v9 w'=>∃ (x3_1:Int) (x9_1:Int),v3 = .int .i64 x3_1∧v9 = .int .i64 x9_1∧spec_saNumber.l0 kq x3_1 t190 (t190.length:Int) x9_1 = some r∧kq ≤ k∧St w w (fun _=>False) [bor at27 A0_2 c0_2 l0_2] w'  [row (atI .i64) 3 At190 t190.length ct190 t190,box gb189 25 [.int .i64 a0_0,.int .i64 a0_1,.slice A0_2 l0_2.length c0_2]])
 case atStart=>exact ⟨0,0,(by first | rfl | (simp;done) | (simp [*];done) | (rw [w6_ (by omega) (by omega)])),(by first | rfl | (simp;done) | (simp [*];done) | (rw [w6_ (by omega) (by omega)])),H,Nat.le_refl _,S⟩
 case round =>
  clear H S F
  obtain ⟨x3_1,x9_1,rfl,rfl,HA,HK1,S⟩:=hrel
  have F:=S.fc
  cases gk with
  | zero=>exact absurd HA (by simp [spec_saNumber.l0])
  | succ k1 =>
   have H:=HA;clear HA;simp only [spec_saNumber.l0,F] at H
   replace H:=sp_ H;rcases H with ⟨c7,H⟩ | ⟨c7,H⟩
   · skip
     replace H:=np_ H;obtain ⟨c8,H⟩:=H
     replace H:=np_ H;obtain ⟨c9,H⟩:=H
     obtain ⟨ji10,hji10⟩:∃ j_:Int,(IntKind.u64.wrap (x9_1)) = j_:=⟨_,rfl⟩;simp only [hji10] at H
     replace H:=np_ H;obtain ⟨c11,H⟩:=H
     obtain ⟨ji12,hji12⟩:∃ j_:Int,(shl .i64 (rd t190 x9_1) (ji10)) = j_:=⟨_,rfl⟩;simp only [hji12] at H
     have hji12_:(IntKind.i64.wrap ((rd t190 x9_1) * 2 ^ min (ji10).toNat 64)) = ji12:=hji12
     have hji12z:(ji10) ≤ 64→(IntKind.i64.wrap ((rd t190 x9_1) * 2 ^ (ji10).toNat)) = ji12:=shl_small hji12
     have hji12y:(wrap64 ((rd t190 x9_1) * 2 ^ min (ji10).toNat 64)) = ji12:=(i64_w _).symm.trans hji12_
     have hji12x:(ji10) ≤ 64→(wrap64 ((rd t190 x9_1) * 2 ^ (ji10).toNat)) = ji12:=fun h_=>(i64_w _).symm.trans (hji12z h_)
     go_wp2
     go_roundg k1
     case measure=>omega
     case rel=>exact ⟨(wrap64 (x3_1 + (ji12))),(wrap64 (x9_1 + 1)),(by first | rfl | (simp;done) | (simp [*];done) | (rw [w6_ (by omega) (by omega)])),(by first | rfl | (simp;done) | (simp [*];done) | (rw [w6_ (by omega) (by omega)])),H,(by first | omega | exact Nat.le_refl _),S⟩
   · skip
     obtain rfl:=Option.some.inj H
     go_wp2
     go_ret
     exact ⟨(by first | rfl | (simp [e0_,e1_] <;> rfl) | (simp [*,e0_,e1_] <;> rfl)),S.below⟩

/-! ### spec_rvStates: function 143 -/
def spec_rvStates.f (k:Nat) (a0_0:Int) (a0_1:Int) (l0_2:List (S27)):Option (Int):=(spec_saUnits.f k a0_0 a0_1 l0_2).bind fun t195=>(if 0 ≤ (IntKind.u64.wrap ((t195.length:Int))) then (some (shl .i64 1 (IntKind.u64.wrap ((t195.length:Int))))) else (none))
theorem spec_rvStates.calls (k:Nat) (a0_0:Int) (a0_1:Int) (A0_2:Option Addr) (c0_2:Nat) (l0_2:List (S27)) (r:Int) (w:World) (hr0_2:Kd.C k27 w A0_2 l0_2.length l0_2) (hc0_2:l0_2.length ≤ c0_2) (h:spec_rvStates.f k a0_0 a0_1 l0_2 = some r) :
    Calls Try.prog 143 #[.agg #[.int .i64 a0_0,.int .i64 a0_1,.slice A0_2 l0_2.length c0_2]] w fun e w'=>e = .returned (.int .i64 r)∧Below w.heap.size w w':=by
 have S:=St.init (w:=w) (dc k27_heap at27 hr0_2 hc0_2 dn)
 clear hr0_2 hc0_2
 have F:=S.fc
 have H:=h;clear h;unfold spec_rvStates.f at H
 replace H:=Option.bind_eq_some_iff.mp H;obtain ⟨t195,A2,H⟩:=H;(try dsimp only at H)
 obtain ⟨ji3,hji3⟩:∃ j_:Int,(IntKind.u64.wrap ((t195.length:Int))) = j_:=⟨_,rfl⟩;simp only [hji3] at H
 (try rw [hji3] at A2)
 replace H:=np_ H;obtain ⟨c4,H⟩:=H
 obtain ⟨ji5,hji5⟩:∃ j_:Int,(shl .i64 1 (ji3)) = j_:=⟨_,rfl⟩;simp only [hji5] at H
 (try rw [hji5] at A2)
 have hji5_:(IntKind.i64.wrap (1 * 2 ^ min (ji3).toNat 64)) = ji5:=hji5
 have hji5z:(ji3) ≤ 64→(IntKind.i64.wrap (1 * 2 ^ (ji3).toNat)) = ji5:=shl_small hji5
 have hji5u:(IntKind.i64.wrap (2 ^ min (ji3).toNat 64)) = ji5:=by have h_:=hji5_;rw [Int.one_mul] at h_;exact h_
 have hji5v:(ji3) ≤ 64→(IntKind.i64.wrap (2 ^ (ji3).toNat)) = ji5:=fun hle_=>by have h_:=hji5z hle_;rw [Int.one_mul] at h_;exact h_
 have hji5y:(wrap64 (1 * 2 ^ min (ji3).toNat 64)) = ji5:=(i64_w _).symm.trans hji5_
 have hji5x:(ji3) ≤ 64→(wrap64 (1 * 2 ^ (ji3).toNat)) = ji5:=fun h_=>(i64_w _).symm.trans (hji5z h_)
 obtain rfl:=Option.some.inj H
 go_enter Try.func143,Try.ntmps143
 go_wp2_with (first | ((with_reducible refine gd 1 rfl (L ?_));refine bo 1 (.agg #[_,_,_]) S ?_;clear S F;intro gb194 W S;have F:=S.fc) | ((with_reducible refine gate_callee (f:=142) rfl (L ?_));refine cl (some 4) Try.func142 (spec_saUnits.calls _ _ _ _ _ _ _ _ S.c S.n A2) (hargs:=by (simp only [ma_,mb_,mc_,F] <;> rfl)) (h:=?_);rintro e W ⟨v196,rfl,ho0,hb⟩;refine ⟨_,rfl,?_⟩;replace S:=S.got (atU (d:=Kd.slice 3 (Kd.int .i64))) hb ho0;obtain ⟨At195,ct195,rfl,S⟩:=S;clear F hb ho0;replace S:=S.fzr At195 rfl;have F:=S.fc))
 go_ret
 exact ⟨(by first | rfl | (simp [e0_,e1_] <;> rfl) | (simp [*,e0_,e1_] <;> rfl)),S.below⟩

/-! ### spec_boOwn: function 92 -/
def spec_boOwn.f (a0_0:Int) (a0_1:Int) (l0_2:List (S27)):Option (Int × Int × (List (S27))):=(some (([]:List (S27)):List (S27))).bind fun y200=>(if y200.length + l0_2.length < 8796093022208 then (some (a0_0,a0_1,(y200 ++ l0_2))) else (none))
theorem spec_boOwn.calls (a0_0:Int) (a0_1:Int) (A0_2:Option Addr) (c0_2:Nat) (l0_2:List (S27)) (r1:Int) (r2:Int) (r3:List (S27)) (w:World) (hr0_2:Kd.C k27 w A0_2 l0_2.length l0_2) (hc0_2:l0_2.length ≤ c0_2) (h:spec_boOwn.f a0_0 a0_1 l0_2 = some (r1,r2,r3)) :
    Calls Try.prog 92 #[.agg #[.int .i64 a0_0,.int .i64 a0_1,.slice A0_2 l0_2.length c0_2]] w fun e w'=>∃ v2_:Value,e = .returned (.agg #[.int .i64 r1,.int .i64 r2,v2_])∧Kd.R k27 27 w' w.heap.size (fun _=>True) v2_ r3∧Below w.heap.size w w':=by
 have S:=St.init (w:=w) (dc k27_heap at27 hr0_2 hc0_2 dn)
 clear hr0_2 hc0_2
 have F:=S.fc
 have H:=h;clear h;unfold spec_boOwn.f at H
 (first | (with_reducible replace H:=ob_ H;obtain ⟨y200,hy200,H⟩:=H;(try dsimp only at H)) | (obtain ⟨y200,hy200⟩:∃ y_:List (S27),y_ = (([]:List (S27))):=⟨_,rfl⟩;(try rw [← hy200] at H);(try simp only [Option.bind_some] at H)));have Ny200:=Aside0.mk hy200;clear hy200
 replace H:=np_ H;obtain ⟨c2,H⟩:=H
 (first | (with_reducible replace H:=ob_ H;obtain ⟨y203,hy203,H⟩:=H;(try dsimp only at H)) | (obtain ⟨y203,hy203⟩:∃ y_:List (S27),y_ = (y200 ++ l0_2):=⟨_,rfl⟩;(try rw [← hy203] at H);(try simp only [Option.bind_some] at H)));have Ny203:=Aside0.mk hy203;clear hy203
 simp only [Option.some.injEq,Prod.mk.injEq] at H
 obtain ⟨rfl,rfl,rfl⟩:=H
 go_enter Try.func92,Try.ntmps92
 go_wp2_with (first | ((with_reducible refine gd 1 rfl (L ?_));refine bo 1 (.agg #[_,_,_]) S ?_;clear S F;intro gb198 W S;have F:=S.fc) | ((with_reducible refine gd 2 rfl (L ?_));refine al 2 S zi25 ?_;clear S F;intro gb199 W S;have F:=S.fc) | ((with_reducible refine gs (t:=25) rfl (L ?_));(first | refine sb (.agg #[_,_,_]) S sz25 ?_ | refine ro (.agg #[_,_,_]) S sz25 ?_ (ho:=rfl) (hx:=rfl) (hy:=rfl));clear S F;intro W S;(try rw [← Ny203.out] at S);have F:=S.fc))
 refine rgP S (fun _ S=>S.tl) [(0,0),(0,2),(0,5),(1,1),(1,3),(1,6),(2,4),(2,7),(0,8),(2,9)] [] (by kernel_rfl) (by kernel_rfl) (fun _ d _ _ _ h=>by cases d <;> exact h) ?_;clear S F;intro W S;have S0:=S.tl;have F:=S.fc
 repeat (first | (refine q0 (h:=?_)) | (refine q1 S0 (h:=?_)) | (refine q0n (h:=?_)) | (refine q1n S0 (h:=?_)))
 refine lk2 (by rfl) (by exact (Eq.refl true)) ?_;refine lia 7 at27 27 S ([]:List (S27)) (fun _ _=>(Reps.none _ _)) (by first | (go_simp;done) | (go_simp;rfl)) ?_;clear S F;intro Ay200 cy200 W S;(try rw [← Ny200.out] at S ⊢);(try rw [← Ny203.out] at S ⊢);have F:=S.fc
 clear S0;have S0:=S.tl.tl;refine ⟨S0,?_⟩
 refine lk2 (by rfl) (by exact (Eq.refl true)) ?_;refine apr (A:=Ay200) (ys:=l0_2) 10 S Try.underlying23 info27 S.c ?_ (ho:=rfl) (hs:=rfl) (hx:=rfl);clear S F;intro Ay203 cy203 W S;(try rw [← Ny203.out] at S ⊢);have F:=S.fc
 clear S0;have S0:=S.tl.tl;refine ⟨S0,?_⟩
 repeat (first | (refine q0 (h:=?_)) | (refine q1 S0 (h:=?_)) | (refine q0n (h:=?_)) | (refine q1n S0 (h:=?_)))
 refine lk2 (by rfl) (by exact (Eq.refl true)) ?_;(first | refine sb (.agg #[_,_,_]) S sz25 ?_ | refine ro (.agg #[_,_,_]) S sz25 ?_ (ho:=rfl) (hx:=rfl) (hy:=rfl));clear S F;intro W S;(try rw [← Ny203.out] at S);have F:=S.fc
 clear S0;have S0:=S.tl.tl;refine ⟨S0,?_⟩
 refine oz ?_
 try clear S0
 go_wp2_with (first | ((with_reducible refine gs (t:=25) rfl (L ?_));(first | refine sb (.agg #[_,_,_]) S sz25 ?_ | refine ro (.agg #[_,_,_]) S sz25 ?_ (ho:=rfl) (hx:=rfl) (hy:=rfl));clear S F;intro W S;(try rw [← Ny203.out] at S);have F:=S.fc))
 refine bodyPost_ret (results_cell_row rfl _ _ gb199 25 #[.int .i64 a0_0,.int .i64 a0_1,.slice Ay203 y203.length cy203] (0,0) _ rfl S.hb Try.underlying25 rfl (by kernel_rfl)) rfl ?_
 exact ⟨_,(by first | rfl | (simp [e0_,e1_] <;> rfl) | (simp [*,e0_,e1_] <;> rfl)),(by first | exact S.r | exact Kd.R_nil _ _ _ _ _),S.below⟩

/-! ### spec_boAt: function 97 -/
def spec_boAt.f (a0_0:Int) (a0_1:Int) (l0_2:List (S27)) (a1:Int) (a2:Int):Option (Int × Int):=if 0 ≤ (wrap64 ((wrap64 (a1 * a0_1)) + a2)) then (if (wrap64 ((wrap64 (a1 * a0_1)) + a2)) < (l0_2.length:Int) then (some ((rd_T27 l0_2 (wrap64 ((wrap64 (a1 * a0_1)) + a2))).f0,(rd_T27 l0_2 (wrap64 ((wrap64 (a1 * a0_1)) + a2))).f1)) else (none)) else (none)
theorem spec_boAt.calls (a0_0:Int) (a0_1:Int) (A0_2:Option Addr) (c0_2:Nat) (l0_2:List (S27)) (a1:Int) (a2:Int) (r1:Int) (r2:Int) (w:World) (hr0_2:Kd.C k27 w A0_2 l0_2.length l0_2) (hc0_2:l0_2.length ≤ c0_2) (h:spec_boAt.f a0_0 a0_1 l0_2 a1 a2 = some (r1,r2)) :
    Calls Try.prog 97 #[.agg #[.int .i64 a0_0,.int .i64 a0_1,.slice A0_2 l0_2.length c0_2],.int .i64 a1,.int .i64 a2] w fun e w'=>e = .returned (.agg #[.int .i64 r1,.int .i64 r2])∧Below w.heap.size w w':=by
 have S:=St.init (w:=w) (dc k27_heap at27 hr0_2 hc0_2 dn)
 clear hr0_2 hc0_2
 have F:=S.fc
 have H:=h;clear h;unfold spec_boAt.f at H
 obtain ⟨ji4,hji4⟩:∃ j_:Int,(wrap64 ((wrap64 (a1 * a0_1)) + a2)) = j_:=⟨_,rfl⟩;simp only [hji4] at H
 have hji4w:(IntKind.i64.wrap ((wrap64 (a1 * a0_1)) + a2)) = ji4:=(i64_w _).trans hji4
 replace H:=np_ H;obtain ⟨c5,H⟩:=H
 replace H:=np_ H;obtain ⟨c6,H⟩:=H
 simp only [Option.some.injEq,Prod.mk.injEq] at H
 obtain ⟨rfl,rfl⟩:=H
 go_enter Try.func97,Try.ntmps97
 go_wp2_with (first | ((with_reducible refine gd 3 rfl (L ?_));refine bo 3 (.agg #[_,_,_]) S ?_;clear S F;intro gb206 W S;have F:=S.fc) | ((with_reducible refine gd 6 rfl (L ?_));refine al 6 S zi27 ?_;clear S F;intro gb207 W S;have F:=S.fc) | ((with_reducible refine gs (t:=27) rfl (L ?_));(first | refine sb (.agg #[_,_]) S sz27 ?_ | refine ro (.agg #[_,_]) S sz27 ?_ (ho:=rfl) (hx:=rfl) (hy:=rfl));(clear S F;intro W S;have F:=S.fc)))
 refine bodyPost_ret (results_cell_row rfl _ _ gb207 27 #[.int .i64 ((rd_T27 l0_2 (ji4)).f0),.int .i64 ((rd_T27 l0_2 (ji4)).f1)] (0,0) _ rfl S.hb Try.underlying27 rfl (by kernel_rfl)) rfl ?_
 exact ⟨(by first | rfl | (simp [e0_,e1_] <;> rfl) | (simp [*,e0_,e1_] <;> rfl)),S.below⟩

/-! ### spec_paGoes: function 185 -/
def spec_paGoes.j0:Nat→Int→Int→Bool→Int→Int→Option (Int)
 | 0,_,_,_,_,_=>none
 | k + 1,x1,x6,x11,x210000,x210001=>if x11 = true then (some (wrap64 ((wrap64 (2 * x210001)) - 1))) else (if x6 = 4 then (some (wrap64 (-x1))) else (some 0))
def spec_paGoes.f (k:Nat) (a0_0:Int) (a0_1:Int) (a1:Int):Option (Int):=if a0_0 = 1 then (some (-1)) else (if a0_0 = 2 then (some 1) else (if a0_0 = 3 then (spec_paGoes.j0 k a1 a0_0 (a0_0 == 3) a0_0 a0_1) else (spec_paGoes.j0 k a1 a0_0 (a0_0 == 6) a0_0 a0_1)))
theorem spec_paGoes.calls (k:Nat) (a0_0:Int) (a0_1:Int) (a1:Int) (r:Int) (w:World) (h:spec_paGoes.f k a0_0 a0_1 a1 = some r) :
  Calls Try.prog 185 #[.agg #[.int .i64 a0_0,.int .i64 a0_1],.int .i64 a1] w fun e w'=>e = .returned (.int .i64 r)∧Below w.heap.size w w':=by
 have HB:=Aside0.mk (Below.refl w.heap.size w);have H:(if a0_0 = 1 then (some (-1)) else (if a0_0 = 2 then (some 1) else (if a0_0 = 3 then (spec_paGoes.j0 k a1 a0_0 (a0_0 == 3) a0_0 a0_1) else (spec_paGoes.j0 k a1 a0_0 (a0_0 == 6) a0_0 a0_1)))) = some r:=h;clear h;by_cases c3:a0_0 = 1
 ·rw [if_pos c3] at H;have c3b0:(a0_0 == 1) = true:=beq_iff_eq.mpr c3;have c3b1:(a0_0 != 1) = false:=bne_eq_false_iff_eq.mpr c3;clear c3;obtain rfl:=Option.some.inj H;go_enter Try.func185,Try.ntmps185;go_wp2_with (first | ((with_reducible refine gate_dst (N:=2) rfl ?_);refine box_event ?hg (N:=2) ?hd (cs:=#[.int .i64 a0_0,.int .i64 a0_1]) (t:=27) ?hr ?_;(case hd=>rfl);(case hg=>rfl);(case hr=>first | (go_simp;done) | (go_simp;rfl));intro gb209 hg w4 hbox hb;refine ev4 (bs HB hb) (hbox) (gle hg HB) (gle hg HB) ?_;clear HB;intro HB BK209 GW209 GE209;clear hb hbox hg;obtain ⟨hcz5_0,hcz5_1,hfz5_0,hfz5_1⟩:=bt2 BK209))
  go_ret;exact ⟨by first | rfl | (simp [e0_,e1_] <;> rfl) | (simp [*,e0_,e1_] <;> rfl),bm HB⟩
 ·rw [if_neg c3] at H;have c3b0:(a0_0 == 1) = false:=beq_eq_false_iff_ne.mpr c3;have c3b1:(a0_0 != 1) = true:=bne_iff_ne.mpr c3;by_cases c6:a0_0 = 2
  ·rw [if_pos c6] at H;have c6b0:(a0_0 == 2) = true:=beq_iff_eq.mpr c6;have c6b1:(a0_0 != 2) = false:=bne_eq_false_iff_eq.mpr c6;clear c6;obtain rfl:=Option.some.inj H;go_enter Try.func185,Try.ntmps185;go_wp2_with (first | ((with_reducible refine gate_dst (N:=2) rfl ?_);refine box_event ?hg (N:=2) ?hd (cs:=#[.int .i64 a0_0,.int .i64 a0_1]) (t:=27) ?hr ?_;(case hd=>rfl);(case hg=>rfl);(case hr=>first | (go_simp;done) | (go_simp;rfl));intro gb209 hg w7 hbox hb;refine ev4 (bs HB hb) (hbox) (gle hg HB) (gle hg HB) ?_;clear HB;intro HB BK209 GW209 GE209;clear hb hbox hg;obtain ⟨hcz8_0,hcz8_1,hfz8_0,hfz8_1⟩:=bt2 BK209))
   go_ret;exact ⟨by first | rfl | (simp [e0_,e1_] <;> rfl) | (simp [*,e0_,e1_] <;> rfl),bm HB⟩
  ·rw [if_neg c6] at H;have c6b0:(a0_0 == 2) = false:=beq_eq_false_iff_ne.mpr c6;have c6b1:(a0_0 != 2) = true:=bne_iff_ne.mpr c6;have HC9:=Aside0.mk H;clear H;go_enter Try.func185,Try.ntmps185;go_upto_if 11 with (first | ((with_reducible refine gate_dst (N:=2) rfl ?_);refine box_event ?hg (N:=2) ?hd (cs:=#[.int .i64 a0_0,.int .i64 a0_1]) (t:=27) ?hr ?_;(case hd=>rfl);(case hg=>rfl);(case hr=>first | (go_simp;done) | (go_simp;rfl));intro gb209 hg w10 hbox hb;refine ev4 (bs HB hb) (hbox) (gle hg HB) (gle hg HB) ?_;clear HB;intro HB BK209 GW209 GE209;clear hb hbox hg;obtain ⟨hcz11_0,hcz11_1,hfz11_0,hfz11_1⟩:=bt2 BK209))
   (try simp only [Act.put,za_,zb_,zc_])
   go_cut [11] (fun v11 wc=>∃ (kq:Nat) (x11_8:Bool),v11 = .bool x11_8∧Aside0 (spec_paGoes.j0 kq a1 a0_0 x11_8 a0_0 a0_1 = some r)∧Aside0 (kq ≤ k)∧Aside0 (wc.heap[gb209]? = some (.cells #[.int .i64 a0_0,.int .i64 a0_1] 27 (0,0)))∧Aside0 (Below w.heap.size w wc))
   case first =>
    have H:=HC9.out;clear HC9;by_cases c12:a0_0 = 3
    ·rw [if_pos c12] at H;have c12b0:(a0_0 == 3) = true:=beq_iff_eq.mpr c12;have c12b1:(a0_0 != 3) = false:=bne_eq_false_iff_eq.mpr c12;clear c12;(first | rw [c12b0] | (simp only [i64_w,i32_w];rw [c12b0]) | skip)
     have H':=Aside0.mk H;clear H;go_wp2;go_meet
     case rel=>exact ⟨_,((a0_0 == 3)),(by first | rfl | (simp;done) | (simp [*];done)),H',⟨by first | omega | exact Nat.le_refl _⟩,⟨km_ BK209⟩,⟨bm HB⟩⟩
    ·rw [if_neg c12] at H;have c12b0:(a0_0 == 3) = false:=beq_eq_false_iff_ne.mpr c12;have c12b1:(a0_0 != 3) = true:=bne_iff_ne.mpr c12;(first | rw [c12b0] | (simp only [i64_w,i32_w];rw [c12b0]) | skip)
     have H':=Aside0.mk H;clear H;go_wp2;go_meet
     case rel=>exact ⟨_,((a0_0 == 6)),(by first | rfl | (simp;done) | (simp [*];done)),H',⟨by first | omega | exact Nat.le_refl _⟩,⟨km_ BK209⟩,⟨bm HB⟩⟩
   case rest =>
    clear HC9;(try clear c1);(try clear c3);(try clear c3b0);(try clear c3b1);(try clear c6);(try clear c6b0);(try clear c6b1);(try clear hcz11_0 hcz11_1 hfz11_0 hfz11_1);obtain ⟨kq,x11_8,rfl,HA,HJ8,BK209,HB⟩:=hcut;cases kq with
    | zero=>exact absurd HA.out (by simp [spec_paGoes.j0])
    | succ kj8 =>
     have H:=HA.out;clear HA;simp only [spec_paGoes.j0] at H;by_cases c13:x11_8 = true
     ·subst c13;have H1:(some (wrap64 ((wrap64 (2 * a0_1)) - 1))) = some r:=by rw [if_pos rfl] at H;exact H
      clear H;have H:=H1;clear H1;obtain rfl:=Option.some.inj H;obtain ⟨hcz14_0,hcz14_1,hfz14_0,hfz14_1⟩:=bt2 BK209;go_wp2;go_ret;exact ⟨by first | rfl | (simp [e0_,e1_] <;> rfl) | (simp [*,e0_,e1_] <;> rfl),bm HB⟩
     ·replace c13:=Bool.eq_false_iff.mpr c13;subst c13;have H1:(if a0_0 = 4 then (some (wrap64 (-a1))) else (some 0)) = some r:=by rw [if_neg (show ¬ (false = true) by decide)] at H;exact H
      clear H;have H:=H1;clear H1;by_cases c15:a0_0 = 4
      ·rw [if_pos c15] at H;have c15b0:(a0_0 == 4) = true:=beq_iff_eq.mpr c15;have c15b1:(a0_0 != 4) = false:=bne_eq_false_iff_eq.mpr c15;clear c15;obtain rfl:=Option.some.inj H;go_wp2;go_ret;exact ⟨by first | rfl | (simp [e0_,e1_] <;> rfl) | (simp [*,e0_,e1_] <;> rfl),bm HB⟩
      ·rw [if_neg c15] at H;have c15b0:(a0_0 == 4) = false:=beq_eq_false_iff_ne.mpr c15;have c15b1:(a0_0 != 4) = true:=bne_iff_ne.mpr c15;obtain rfl:=Option.some.inj H;go_wp2;go_ret;exact ⟨by first | rfl | (simp [e0_,e1_] <;> rfl) | (simp [*,e0_,e1_] <;> rfl),bm HB⟩

/-! ### spec_paTurn: function 188 -/
def spec_paTurn.f (a0_0:Int) (a0_1:Int):Option (Int × Int):=some (a0_0,wrap64 (1 - a0_1))
theorem spec_paTurn.calls (a0_0:Int) (a0_1:Int) (r1:Int) (r2:Int) (w:World) (h:spec_paTurn.f a0_0 a0_1 = some (r1,r2)) :
    Calls Try.prog 188 #[.agg #[.int .i64 a0_0,.int .i64 a0_1]] w fun e w'=>e = .returned (.agg #[.int .i64 r1,.int .i64 r2])∧Below w.heap.size w w':=by
 have S:=St.init (w:=w) dn
 have F:=S.fc
 have H:=h;clear h;unfold spec_paTurn.f at H
 simp only [Option.some.injEq,Prod.mk.injEq] at H
 obtain ⟨rfl,rfl⟩:=H
 go_enter Try.func188,Try.ntmps188
 go_wp2_with (first | ((with_reducible refine gd 1 rfl (L ?_));refine bo 1 (.agg #[_,_]) S ?_;clear S F;intro gb210 W S;have F:=S.fc) | ((with_reducible refine gd 2 rfl (L ?_));refine al 2 S zi27 ?_;clear S F;intro gb211 W S;have F:=S.fc) | ((with_reducible refine gs (t:=27) rfl (L ?_));(first | refine sb (.agg #[_,_]) S sz27 ?_ | refine ro (.agg #[_,_]) S sz27 ?_ (ho:=rfl) (hx:=rfl) (hy:=rfl));(clear S F;intro W S;have F:=S.fc)))
 refine bodyPost_ret (results_cell_row rfl _ _ gb211 27 #[.int .i64 a0_0,.int .i64 (wrap64 (1 - a0_1))] (0,0) _ rfl S.hb Try.underlying27 rfl (by kernel_rfl)) rfl ?_
 exact ⟨(by first | rfl | (simp [e0_,e1_] <;> rfl) | (simp [*,e0_,e1_] <;> rfl)),S.below⟩

/-! ### spec_flPass: function 186 -/
def spec_flPass.l0:Nat→List Int→Int→Int→Int→Int→Int→List (S27)→Option ((List (S27)))
  | 0,_,_,_,_,_,_,_=>none
  | k + 1,x1,x2,x28,x29,x213000,x213001,x213002=>if x29 < x28 then (if 0 ≤ x29 then (if x29 < (x213002.length:Int) then (if ((rd_T27 x213002 x29).f0) = 6 then (if x29 < (x1.length:Int) then (if 0 ≤ x2 then (if x2 < (x1.length:Int) then (if (rd x1 x29) = (rd x1 x2) then ((spec_paTurn.f ((rd_T27 x213002 x29).f0) ((rd_T27 x213002 x29).f1)).bind fun bt222=>(spec_flPass.l0 k x1 x2 x28 (wrap64 (x29 + 1)) x213000 x213001 (x213002.set (x29:Int).toNat (⟨bt222.1,bt222.2⟩:S27)))) else (spec_flPass.l0 k x1 x2 x28 (wrap64 (x29 + 1)) x213000 x213001 x213002)) else (none)) else (none)) else (none)) else (spec_flPass.l0 k x1 x2 x28 (wrap64 (x29 + 1)) x213000 x213001 x213002)) else (none)) else (none)) else (some x213002)
def spec_flPass.f (k:Nat) (a0_0:Int) (a0_1:Int) (l0_2:List (S27)) (l1:List Int) (a2:Int):Option ((List (S27))):=if 0 ≤ a2 then (if a2 < (l0_2.length:Int) then (if ((rd_T27 l0_2 a2).f0) = 3 then ((spec_paTurn.f ((rd_T27 l0_2 a2).f0) ((rd_T27 l0_2 a2).f1)).bind fun bt215=>(some (l0_2.set (a2:Int).toNat (⟨bt215.1,bt215.2⟩:S27)))) else (if ((rd_T27 l0_2 a2).f0) = 6 then (spec_flPass.l0 k l1 a2 (l0_2.length:Int) 0 a0_0 a0_1 l0_2) else (some l0_2))) else (none)) else (none)
theorem spec_flPass.calls (k:Nat) (a0_0:Int) (a0_1:Int) (P0_2_:Nat→Prop) (u9000_:Value) (l0_2:List (S27)) (A1:Option Addr) (c1:Nat) (l1:List Int) (a2:Int) (r:List (S27)) (w0 w:World) (hB:Below w0.heap.size w0 w) (ho0_2:Kd.R k27 27 w w0.heap.size P0_2_ u9000_ l0_2) (hr1:∀ W_,Kept w W_ (fun k_=>P0_2_ k_)→Kd.C (Kd.int .i64) W_ A1 l1.length l1) (hc1:l1.length ≤ c1) (h:spec_flPass.f k a0_0 a0_1 l0_2 l1 a2 = some r) :
    Calls Try.prog 186 #[.agg #[.int .i64 a0_0,.int .i64 a0_1,u9000_],.slice A1 l1.length c1,.int .i64 a2] w fun e w'=>e = .returned (.tuple #[])∧Kd.R k27 27 w' w0.heap.size (fun k_=>(P0_2_ k_∨w.heap.size ≤ k_)) u9000_ r∧Below w0.heap.size w0 w'∧Kept w w' (fun k_=>P0_2_ k_):=by
 obtain ⟨Al0_2,cl0_2,rfl⟩:=Kd.R_slice ho0_2
 have S:=St.own1 at27 hB ho0_2 (dk (atI .i64) hr1 hc1 dn)
 clear hB ho0_2 hr1 hc1
 have F:=S.fc
 have H:=h;clear h;unfold spec_flPass.f at H
 replace H:=np_ H;obtain ⟨c4,H⟩:=H;(try simp only [F] at c4)
 replace H:=np_ H;obtain ⟨c5,H⟩:=H;(try simp only [F] at c5)
 replace H:=sp_ H;rcases H with ⟨c6,H⟩ | ⟨c6,H⟩
 · skip
   replace c6:=ceq c6
   replace H:=Option.bind_eq_some_iff.mp H;obtain ⟨⟨t215,t216⟩,A7,H⟩:=H;(try dsimp only at H)
   (first | (with_reducible replace H:=ob_ H;obtain ⟨y217,hy217,H⟩:=H;(try dsimp only at H)) | (obtain ⟨y217,hy217⟩:∃ y_:List (S27),y_ = (l0_2.set (a2:Int).toNat (⟨t215,t216⟩:S27)):=⟨_,rfl⟩;(try rw [← hy217] at H);(try simp only [Option.bind_some] at H)));have Ny217:=Aside0.mk hy217;clear hy217
   obtain rfl:=Option.some.inj H
   go_enter Try.func186,Try.ntmps186
   go_wp2_with (first | ((with_reducible refine gd 3 rfl (L ?_));refine bo 3 (.agg #[_,_,_]) S ?_;clear S F;intro gb212 W S;have F:=S.fc) | ((with_reducible refine gd 6 rfl (L ?_));refine al 6 S zi27 ?_;clear S F;intro gb214 W S;have F:=S.fc) | ((with_reducible refine gs (t:=27) rfl (L ?_));(first | refine sb (.agg #[_,_]) S sz27 ?_ | refine ro (.agg #[_,_]) S sz27 ?_ (ho:=rfl) (hx:=rfl) (hy:=rfl));clear S F;intro W S;(try simp only [gd27] at S);(try rw [← Ny217.out] at S);have F:=S.fc))
   refine rq S [(0,0),(0,2),(1,1),(1,3),(2,4),(0,5),(3,6)] [6] (h:=?_);clear S F;intro W S;have S0:=S;have F:=S.fc
   repeat (first | (refine q0 (h:=?_)) | (refine q1 S0 (h:=?_)) | (refine q0n (h:=?_)) | (refine q1n S0 (h:=?_)))
   refine lk2 (by rfl) (by exact (Eq.refl true)) ?_;refine cl (some 22) Try.func188 (spec_paTurn.calls _ _ _ _ _ A7) (hargs:=by (simp only [ma_,mb_,mc_,F] <;> rfl)) (h:=?_);rintro e W ⟨rfl,hb⟩;refine ⟨_,rfl,?_⟩;replace S:=S.go hb;clear F hb;have F:=S.fc
   clear S0;have S0:=S;refine ⟨S0,?_⟩
   repeat (first | (refine q0 (h:=?_)) | (refine q1 S0 (h:=?_)) | (refine q0n (h:=?_)) | (refine q1n S0 (h:=?_)))
   refine lk3 (by rfl) (by exact (Eq.refl true)) ?_;(first | refine sb (.agg #[_,_]) S sz27 ?_ | refine ro (.agg #[_,_]) S sz27 ?_ (ho:=rfl) (hx:=rfl) (hy:=rfl));clear S F;intro W S;(try simp only [gd27] at S);(try rw [← Ny217.out] at S);have F:=S.fc
   refine oz ?_
   try clear S0
   go_wp2_with (first | ((with_reducible refine gs (t:=27) rfl (L ?_));(first | refine sb (.agg #[_,_]) S sz27 ?_ | refine ro (.agg #[_,_]) S sz27 ?_ (ho:=rfl) (hx:=rfl) (hy:=rfl));clear S F;intro W S;(try simp only [gd27] at S);(try rw [← Ny217.out] at S);have F:=S.fc))
   first | go_end0 | ((try simp only [Exit.inBlock,Exit.then]);refine bodyPost_ret (results_none rfl _ _ _) rfl ?_)
   exact ⟨(by first | rfl | (simp [e0_,e1_] <;> rfl) | (simp [*,e0_,e1_] <;> rfl)),(by first | exact S.rp | exact Kd.R_nil _ _ _ _ _),S.below,S.kept⟩
 · skip
   replace c6:=cne c6
   replace H:=sp_ H;rcases H with ⟨c19,H⟩ | ⟨c19,H⟩
   · skip
     replace c19:=ceq c19
     go_enter Try.func186,Try.ntmps186
     go_wp2_with (first | ((with_reducible refine gd 3 rfl (L ?_));refine bo 3 (.agg #[_,_,_]) S ?_;clear S F;intro gb212 W S;have F:=S.fc) | ((with_reducible refine gd 6 rfl (L ?_));refine al 6 S zi27 ?_;clear S F;intro gb214 W S;have F:=S.fc) | ((with_reducible refine gs (t:=27) rfl (L ?_));(first | refine sb (.agg #[_,_]) S sz27 ?_ | refine ro (.agg #[_,_]) S sz27 ?_ (ho:=rfl) (hx:=rfl) (hy:=rfl));clear S F;intro W S;(try simp only [gd27] at S);have F:=S.fc))
     go_loopg [29] k (fun kq v29 w'=>∃ (x29_1:Int) (x213002_1:List (S27)) (x215000_1:Int) (x215001_1:Int),v29 = .int .i64 x29_1∧spec_flPass.l0 kq l1 a2 (l0_2.length:Int) x29_1 a0_0 a0_1 x213002_1 = some r∧kq ≤ k∧St w0 w P0_2_ [bor (atI .i64) A1 c1 l1] w'  [box gb214 27 [.int .i64 x215000_1,.int .i64 x215001_1],box gb212 25 [.int .i64 a0_0,.int .i64 a0_1,.slice Al0_2 l0_2.length cl0_2],row at27 27 Al0_2 l0_2.length cl0_2 x213002_1])
     case atStart=>exact ⟨0,l0_2,((rd_T27 l0_2 a2).f0),((rd_T27 l0_2 a2).f1),(by first | rfl | (simp;done) | (simp [*];done) | (rw [w6_ (by omega) (by omega)])),(by first | exact H | (simp only [F];exact H)),Nat.le_refl _,S⟩
     case round =>
      clear H S F
      obtain ⟨x29_1,x213002_1,x215000_1,x215001_1,rfl,HA,HK1,S⟩:=hrel
      have F:=S.fc
      cases gk with
      | zero=>exact absurd HA (by simp [spec_flPass.l0])
      | succ k1 =>
       have H:=HA;clear HA;simp only [spec_flPass.l0,F] at H
       replace H:=sp_ H;rcases H with ⟨c27,H⟩ | ⟨c27,H⟩
       · skip
         replace H:=np_ H;obtain ⟨c28,H⟩:=H;(try simp only [F] at c28)
         replace H:=np_ H;obtain ⟨c29,H⟩:=H;(try simp only [F] at c29)
         replace H:=sp_ H;rcases H with ⟨c30,H⟩ | ⟨c30,H⟩
         · skip
           replace c30:=ceq c30
           replace H:=np_ H;obtain ⟨c31,H⟩:=H;(try simp only [F] at c31)
           replace H:=np_ H;obtain ⟨c32,H⟩:=H;(try simp only [F] at c32)
           replace H:=np_ H;obtain ⟨c33,H⟩:=H;(try simp only [F] at c33)
           replace H:=sp_ H;rcases H with ⟨c34,H⟩ | ⟨c34,H⟩
           · skip
             replace c34:=ceq c34
             replace H:=Option.bind_eq_some_iff.mp H;obtain ⟨⟨t222,t223⟩,A35,H⟩:=H;(try dsimp only at H)
             (first | (with_reducible replace H:=ob_ H;obtain ⟨y224,hy224,H⟩:=H;(try dsimp only at H)) | (obtain ⟨y224,hy224⟩:∃ y_:List (S27),y_ = (x213002_1.set (x29_1:Int).toNat (⟨t222,t223⟩:S27)):=⟨_,rfl⟩;(try rw [← hy224] at H);(try simp only [Option.bind_some] at H)));have Ny224:=Aside0.mk hy224;clear hy224
             go_wp2_with (first | ((with_reducible refine gd 8 rfl (L ?_));refine al 8 S zi27 ?_;clear S F;intro gb219 W S;have F:=S.fc) | ((with_reducible refine gs (t:=27) rfl (L ?_));(first | refine sb (.agg #[_,_]) S sz27 ?_ | refine ro (.agg #[_,_]) S sz27 ?_ (ho:=rfl) (hx:=rfl) (hy:=rfl));clear S F;intro W S;(try simp only [gd27] at S);(try rw [← Ny224.out] at S);have F:=S.fc))
             refine rq S [(0,0),(1,1),(0,2),(0,3),(0,4),(0,5),(0,6),(0,8),(0,9),(0,10),(1,7),(1,11),(0,12),(0,13)] [] (h:=?_);clear S F;intro W S;have S0:=S;have F:=S.fc
             repeat (first | (refine q0 (h:=?_)) | (refine q1 S0 (h:=?_)) | (refine q0n (h:=?_)) | (refine q1n S0 (h:=?_)))
             refine oz ?_
             try clear S0
             go_wp2_with (first | ((with_reducible refine gs (t:=27) rfl (L ?_));(first | refine sb (.agg #[_,_]) S sz27 ?_ | refine ro (.agg #[_,_]) S sz27 ?_ (ho:=rfl) (hx:=rfl) (hy:=rfl));clear S F;intro W S;(try simp only [gd27] at S);(try rw [← Ny224.out] at S);have F:=S.fc))
             refine rq S [(0,0),(0,2),(1,1),(1,3),(2,4),(0,5),(3,6)] [6] (h:=?_);clear S F;intro W S;have S0:=S;have F:=S.fc
             repeat (first | (refine q0 (h:=?_)) | (refine q1 S0 (h:=?_)) | (refine q0n (h:=?_)) | (refine q1n S0 (h:=?_)))
             refine lk2 (by rfl) (by exact (Eq.refl true)) ?_;refine cl (some 52) Try.func188 (spec_paTurn.calls _ _ _ _ _ A35) (hargs:=by (simp only [ma_,mb_,mc_,F] <;> rfl)) (h:=?_);rintro e W ⟨rfl,hb⟩;refine ⟨_,rfl,?_⟩;replace S:=S.go hb;clear F hb;have F:=S.fc
             clear S0;have S0:=S;refine ⟨S0,?_⟩
             repeat (first | (refine q0 (h:=?_)) | (refine q1 S0 (h:=?_)) | (refine q0n (h:=?_)) | (refine q1n S0 (h:=?_)))
             refine lk3 (by rfl) (by exact (Eq.refl true)) ?_;(first | refine sb (.agg #[_,_]) S sz27 ?_ | refine ro (.agg #[_,_]) S sz27 ?_ (ho:=rfl) (hx:=rfl) (hy:=rfl));clear S F;intro W S;(try simp only [gd27] at S);(try rw [← Ny224.out] at S);have F:=S.fc
             refine oz ?_
             try clear S0
             go_wp2_with (first | ((with_reducible refine gs (t:=27) rfl (L ?_));(first | refine sb (.agg #[_,_]) S sz27 ?_ | refine ro (.agg #[_,_]) S sz27 ?_ (ho:=rfl) (hx:=rfl) (hy:=rfl));clear S F;intro W S;(try simp only [gd27] at S);(try rw [← Ny224.out] at S);have F:=S.fc))
             go_roundg k1
             case measure=>omega
             case rel=>exact ⟨(wrap64 (x29_1 + 1)),y224,x215000_1,x215001_1,(by first | rfl | (simp;done) | (simp [*];done) | (rw [w6_ (by omega) (by omega)])),(by first | exact H | (simp only [F];exact H)),(by first | omega | exact Nat.le_refl _),S.tl⟩
           · skip
             replace c34:=cne c34
             go_wp2_with (first | ((with_reducible refine gd 8 rfl (L ?_));refine al 8 S zi27 ?_;clear S F;intro gb219 W S;have F:=S.fc) | ((with_reducible refine gs (t:=27) rfl (L ?_));(first | refine sb (.agg #[_,_]) S sz27 ?_ | refine ro (.agg #[_,_]) S sz27 ?_ (ho:=rfl) (hx:=rfl) (hy:=rfl));clear S F;intro W S;(try simp only [gd27] at S);have F:=S.fc))
             refine rq S [(0,0),(1,1),(0,2),(0,3),(0,4),(0,5),(0,6),(0,8),(0,9),(0,10),(1,7),(1,11),(0,12),(0,13)] [] (h:=?_);clear S F;intro W S;have S0:=S;have F:=S.fc
             repeat (first | (refine q0 (h:=?_)) | (refine q1 S0 (h:=?_)) | (refine q0n (h:=?_)) | (refine q1n S0 (h:=?_)))
             refine oz ?_
             try clear S0
             go_wp2_with (first | ((with_reducible refine gs (t:=27) rfl (L ?_));(first | refine sb (.agg #[_,_]) S sz27 ?_ | refine ro (.agg #[_,_]) S sz27 ?_ (ho:=rfl) (hx:=rfl) (hy:=rfl));clear S F;intro W S;(try simp only [gd27] at S);have F:=S.fc))
             go_roundg k1
             case measure=>omega
             case rel=>exact ⟨(wrap64 (x29_1 + 1)),x213002_1,x215000_1,x215001_1,(by first | rfl | (simp;done) | (simp [*];done) | (rw [w6_ (by omega) (by omega)])),(by first | exact H | (simp only [F];exact H)),(by first | omega | exact Nat.le_refl _),S.tl⟩
         · skip
           replace c30:=cne c30
           go_wp2_with (first | ((with_reducible refine gd 8 rfl (L ?_));refine al 8 S zi27 ?_;clear S F;intro gb219 W S;have F:=S.fc) | ((with_reducible refine gs (t:=27) rfl (L ?_));(first | refine sb (.agg #[_,_]) S sz27 ?_ | refine ro (.agg #[_,_]) S sz27 ?_ (ho:=rfl) (hx:=rfl) (hy:=rfl));clear S F;intro W S;(try simp only [gd27] at S);have F:=S.fc))
           refine rq S [(0,0),(1,1),(0,2),(0,3),(0,4),(0,5),(0,6),(0,7),(0,8),(0,9),(0,10),(0,11),(0,12),(0,13)] [] (h:=?_);clear S F;intro W S;have S0:=S;have F:=S.fc
           repeat (first | (refine q0 (h:=?_)) | (refine q1 S0 (h:=?_)) | (refine q0n (h:=?_)) | (refine q1n S0 (h:=?_)))
           refine oz ?_
           try clear S0
           go_wp2_with (first | ((with_reducible refine gs (t:=27) rfl (L ?_));(first | refine sb (.agg #[_,_]) S sz27 ?_ | refine ro (.agg #[_,_]) S sz27 ?_ (ho:=rfl) (hx:=rfl) (hy:=rfl));clear S F;intro W S;(try simp only [gd27] at S);have F:=S.fc))
           go_roundg k1
           case measure=>omega
           case rel=>exact ⟨(wrap64 (x29_1 + 1)),x213002_1,x215000_1,x215001_1,(by first | rfl | (simp;done) | (simp [*];done) | (rw [w6_ (by omega) (by omega)])),(by first | exact H | (simp only [F];exact H)),(by first | omega | exact Nat.le_refl _),S.tl⟩
       · skip
         obtain rfl:=Option.some.inj H
         go_wp2_with (first | ((with_reducible refine gs (t:=27) rfl (L ?_));(first | refine sb (.agg #[_,_]) S sz27 ?_ | refine ro (.agg #[_,_]) S sz27 ?_ (ho:=rfl) (hx:=rfl) (hy:=rfl));clear S F;intro W S;(try simp only [gd27] at S);have F:=S.fc))
         first | go_end0 | ((try simp only [Exit.inBlock,Exit.then]);refine bodyPost_ret (results_none rfl _ _ _) rfl ?_)
         exact ⟨(by first | rfl | (simp [e0_,e1_] <;> rfl) | (simp [*,e0_,e1_] <;> rfl)),(by first | exact S.rp | exact Kd.R_nil _ _ _ _ _),S.below,S.kept⟩
   · skip
     replace c19:=cne c19
     obtain rfl:=Option.some.inj H
     go_enter Try.func186,Try.ntmps186
     go_wp2_with (first | ((with_reducible refine gd 3 rfl (L ?_));refine bo 3 (.agg #[_,_,_]) S ?_;clear S F;intro gb212 W S;have F:=S.fc) | ((with_reducible refine gd 6 rfl (L ?_));refine al 6 S zi27 ?_;clear S F;intro gb214 W S;have F:=S.fc) | ((with_reducible refine gs (t:=27) rfl (L ?_));(first | refine sb (.agg #[_,_]) S sz27 ?_ | refine ro (.agg #[_,_]) S sz27 ?_ (ho:=rfl) (hx:=rfl) (hy:=rfl));clear S F;intro W S;(try simp only [gd27] at S);have F:=S.fc))
     first | go_end0 | ((try simp only [Exit.inBlock,Exit.then]);refine bodyPost_ret (results_none rfl _ _ _) rfl ?_)
     exact ⟨(by first | rfl | (simp [e0_,e1_] <;> rfl) | (simp [*,e0_,e1_] <;> rfl)),(by first | exact S.rp | exact Kd.R_nil _ _ _ _ _),S.below,S.kept⟩

/-! ### spec_flGo: function 171 -/
def spec_flGo.l0:Nat→List Int→Int→List (List Int)→Int→Int→Int→Int→List (S27)→Int→Int→List (S27)→Option (Int × Int × Int × Int × Int × (List (S27)) × (List (List Int)))
  | 0,_,_,_,_,_,_,_,_,_,_,_=>none
  | k + 1,x1,x2,x10,x11,x12,x226000,x226001,x226002,x234000,x234001,x234002=>if x12 < x226000 then (if x10.length < 5864062014805 then ((some (x10 ++ [(([x12,x2]:List Int))]:List (List Int))).bind fun y237=>((spec_boAt.f x234000 x234001 x234002 x12 x2).bind fun bt240=>(if bt240.1 = 5 then (some (2,x12,x2,x234000,x234001,x234002,y237)) else ((spec_paGoes.f k bt240.1 bt240.2 x11).bind fun t243=>((spec_flPass.f k x234000 x234001 x234002 x1 (wrap64 ((wrap64 (x12 * x226001)) + x2))).bind fun t244=>((spec_l1In.f (wrap64 (x2 + t243)) 0 (wrap64 (x226001 - 1))).bind fun t245=>(if t245 = true then (spec_flGo.l0 k x1 (wrap64 (x2 + t243)) y237 (wrap64 (-t243)) (wrap64 (x12 + 1)) x226000 x226001 x226002 x234000 x234001 t244) else (some (3,x12,wrap64 (x2 + t243),x234000,x234001,t244,y237))))))))) else (none)) else (some (1,x226000,x2,x234000,x234001,x234002,x10))
def spec_flGo.f (k:Nat) (a0_0:Int) (a0_1:Int) (l0_2:List (S27)) (l1:List Int) (a2:Int):Option (Int × Int × Int × Int × Int × (List (S27)) × (List (List Int))):=(spec_boOwn.f a0_0 a0_1 l0_2).bind fun bt228=>(spec_flGo.l0 k l1 a2 ([]:List (List Int)) 0 0 a0_0 a0_1 l0_2 bt228.1 bt228.2.1 bt228.2.2)
theorem spec_flGo.calls (k:Nat) (a0_0:Int) (a0_1:Int) (A0_2:Option Addr) (c0_2:Nat) (l0_2:List (S27)) (A1:Option Addr) (c1:Nat) (l1:List Int) (a2:Int) (r1:Int) (r2:Int) (r3:Int) (r4:Int) (r5:Int) (r6:List (S27)) (r7:List (List Int)) (w:World) (hr0_2:Kd.C k27 w A0_2 l0_2.length l0_2) (hc0_2:l0_2.length ≤ c0_2) (hr1:Kd.C (Kd.int .i64) w A1 l1.length l1) (hc1:l1.length ≤ c1) (h:spec_flGo.f k a0_0 a0_1 l0_2 l1 a2 = some (r1,r2,r3,r4,r5,r6,r7)) :
    Calls Try.prog 171 #[.agg #[.int .i64 a0_0,.int .i64 a0_1,.slice A0_2 l0_2.length c0_2],.slice A1 l1.length c1,.int .i64 a2] w fun e w'=>∃ v5_ v6_:Value,e = .returned (.tuple #[.agg #[.int .i64 r1,.int .i64 r2,.int .i64 r3],.agg #[.int .i64 r4,.int .i64 r5,v5_],v6_])∧Kd.R k27 27 w' w.heap.size (fun _=>True) v5_ r6∧Kd.R (Kd.slice 3 (Kd.int .i64)) 35 w' w.heap.size (fun _=>True) v6_ r7∧Below w.heap.size w w':=by
 have S:=St.init (w:=w) (dc k27_heap at27 hr0_2 hc0_2 (dc (Kd.heap_int .i64) (atI .i64) hr1 hc1 dn))
 clear hr0_2 hc0_2 hr1 hc1
 have F:=S.fc
 have H:=h;clear h;unfold spec_flGo.f at H
 replace H:=Option.bind_eq_some_iff.mp H;obtain ⟨⟨t228,t229,t230⟩,A4,H⟩:=H;(try dsimp only at H)
 go_enter Try.func171,Try.ntmps171
 go_wp2_with (first | ((with_reducible refine gd 3 rfl (L ?_));refine bo 3 (.agg #[_,_,_]) S ?_;clear S F;intro gb225 W S;have F:=S.fc) | ((with_reducible refine gd 6 rfl (L ?_));refine al 6 S zi137 ?_;clear S F;intro gb226 W S;have F:=S.fc) | ((with_reducible refine gd 7 rfl (L ?_));refine al 7 S zi25 ?_;clear S F;intro gb227 W S;have F:=S.fc) | ((with_reducible refine gate_callee (f:=92) rfl (L ?_));refine cl (some 16) Try.func92 (spec_boOwn.calls _ _ _ _ _ _ _ _ _ S.c S.n A4) (hargs:=by (simp only [ma_,mb_,mc_,F] <;> rfl)) (h:=?_);rintro e W ⟨v231,rfl,ho0,hb⟩;refine ⟨_,rfl,?_⟩;replace S:=S.got at27 hb ho0;obtain ⟨At230,ct230,rfl,S⟩:=S;clear F hb ho0;have F:=S.fc) | ((with_reducible refine gd 9 rfl (L ?_));refine al 9 S zi25 ?_;clear S F;intro gb233 W S;have F:=S.fc) | ((with_reducible refine gs (t:=25) rfl (L ?_));(first | refine sb (.agg #[_,_,_]) S sz25 ?_ | refine ro (.agg #[_,_,_]) S sz25 ?_ (ho:=rfl) (hx:=rfl) (hy:=rfl));(clear S F;intro W S;have F:=S.fc)) | ((with_reducible refine gs (t:=27) rfl (L ?_));(first | refine sb (.agg #[_,_]) S sz27 ?_ | refine ro (.agg #[_,_]) S sz27 ?_ (ho:=rfl) (hx:=rfl) (hy:=rfl));(clear S F;intro W S;have F:=S.fc)) | ((with_reducible refine gs (t:=137) rfl (L ?_));(first | refine sb (.agg #[_,_,_]) S sz137 ?_ | refine ro (.agg #[_,_,_]) S sz137 ?_ (ho:=rfl) (hx:=rfl) (hy:=rfl));(clear S F;intro W S;have F:=S.fc)))
 go_loopg [2,10,11,12] k (fun kq v2 v10 v11 v12 w'=>∃ (x2_1:Int) (x10_1:List (List Int)) (x11_1:Int) (x12_1:Int) (x227000_1:Int) (x227001_1:Int) (x227002_1:Int) (x228000_1:Int) (x228001_1:Int) (x234002_1:List (S27)) (Ax10_1:Option Addr) (cx10_1:Nat) (Ax234002_1:Option Addr) (cx234002_1:Nat),v2 = .int .i64 x2_1∧v11 = .int .i64 x11_1∧v12 = .int .i64 x12_1∧v10 = .slice Ax10_1 x10_1.length cx10_1∧spec_flGo.l0 kq l1 x2_1 x10_1 x11_1 x12_1 a0_0 a0_1 l0_2 t228 t229 x234002_1 = some (r1,r2,r3,r4,r5,r6,r7)∧kq ≤ k∧St w w (fun _=>False) [bor at27 A0_2 c0_2 l0_2,bor (atI .i64) A1 c1 l1] w'  [row (atU (d:=Kd.slice 3 (Kd.int .i64))) 35 Ax10_1 x10_1.length cx10_1 x10_1,box gb233 25 [.int .i64 t228,.int .i64 t229,.slice Ax234002_1 x234002_1.length cx234002_1],row at27 27 Ax234002_1 x234002_1.length cx234002_1 x234002_1,box gb227 25 [.int .i64 x228000_1,.int .i64 x228001_1,.slice none 0 0],box gb226 137 [.int .i64 x227000_1,.int .i64 x227001_1,.int .i64 x227002_1],box gb225 25 [.int .i64 a0_0,.int .i64 a0_1,.slice A0_2 l0_2.length c0_2]])
 case atStart=>exact ⟨a2,_,0,0,0,0,0,0,0,t230,_,_,_,_,(by first | rfl | (simp;done) | (simp [*];done) | (rw [w6_ (by omega) (by omega)])),(by first | rfl | (simp;done) | (simp [*];done) | (rw [w6_ (by omega) (by omega)])),(by first | rfl | (simp;done) | (simp [*];done) | (rw [w6_ (by omega) (by omega)])),rfl,H,Nat.le_refl _,(S.nl (e:=35) (atU (d:=Kd.slice 3 (Kd.int .i64))))⟩
 case round =>
  clear H S F
  obtain ⟨x2_1,x10_1,x11_1,x12_1,x227000_1,x227001_1,x227002_1,x228000_1,x228001_1,x234002_1,Ax10_1,cx10_1,Ax234002_1,cx234002_1,rfl,rfl,rfl,rfl,HA,HK1,S⟩:=hrel
  have F:=S.fc
  cases gk with
  | zero=>exact absurd HA (by simp [spec_flGo.l0])
  | succ k1 =>
   have H:=HA;clear HA;simp only [spec_flGo.l0,F] at H
   replace H:=sp_ H;rcases H with ⟨c18,H⟩ | ⟨c18,H⟩
   · skip
     (first | (with_reducible replace H:=ob_ H;obtain ⟨y234,hy234,H⟩:=H;(try dsimp only at H)) | (obtain ⟨y234,hy234⟩:∃ y_:List Int,y_ = (([x12_1,x2_1]:List Int)):=⟨_,rfl⟩;(try rw [← hy234] at H);(try simp only [Option.bind_some] at H)));have Ny234:=Aside0.mk hy234;clear hy234
     replace H:=np_ H;obtain ⟨c19,H⟩:=H
     (first | (with_reducible replace H:=ob_ H;obtain ⟨y237,hy237,H⟩:=H;(try dsimp only at H)) | (obtain ⟨y237,hy237⟩:∃ y_:List (List Int),y_ = (x10_1 ++ [y234]):=⟨_,rfl⟩;(try rw [← hy237] at H);(try simp only [Option.bind_some] at H)));have Ny237:=Aside0.mk hy237;clear hy237
     replace H:=Option.bind_eq_some_iff.mp H;obtain ⟨⟨t240,t241⟩,A20,H⟩:=H;(try dsimp only at H)
     replace H:=sp_ H;rcases H with ⟨c21,H⟩ | ⟨c21,H⟩
     · skip
       replace c21:=ceq c21
       simp only [Option.some.injEq,Prod.mk.injEq] at H
       obtain ⟨rfl,rfl,rfl,rfl,rfl,rfl,rfl⟩:=H
       go_wp2_with (first | ((with_reducible refine gd 26 rfl (L ?_));refine lia 26 (atI .i64) 3 S ([x12_1,x2_1]:List Int) (fun _ _=>(Reps.one (show Kd.M (Kd.int .i64) _ _ _ x12_1 [.int .i64 x12_1] from rfl) (Reps.one (show Kd.M (Kd.int .i64) _ _ _ x2_1 [.int .i64 x2_1] from rfl) (Reps.none _ _)))) (by first | (go_simp;done) | (go_simp;rfl)) ?_;clear S F;intro Ay234 cy234 W S;(try rw [← Ny234.out] at S ⊢);(try rw [← Ny237.out] at S ⊢);have F:=S.fc) | ((with_reducible refine gd 28 rfl (L ?_));refine apm (A:=Ax10_1) (A2:=Ay234) 28 S Try.underlying114 info35 ?_ (ho:=rfl) (hs:=rfl) (hx:=rfl);clear S F;intro Ay237 cy237 W S;(try rw [← Ny234.out] at S ⊢);(try rw [← Ny237.out] at S ⊢);have F:=S.fc) | ((with_reducible refine gate_callee (f:=97) rfl (L ?_));refine cl (some 32) Try.func97 (spec_boAt.calls _ _ _ _ _ _ _ _ _ _ S.c S.n A20) (hargs:=by (simp only [ma_,mb_,mc_,F] <;> rfl)) (h:=?_);rintro e W ⟨rfl,hb⟩;refine ⟨_,rfl,?_⟩;replace S:=S.go hb;clear F hb;have F:=S.fc) | ((with_reducible refine gd 13 rfl (L ?_));refine al 13 S zi27 ?_;clear S F;intro gb242 W S;have F:=S.fc) | ((with_reducible refine gs (t:=25) rfl (L ?_));(first | refine sb (.agg #[_,_,_]) S sz25 ?_ | refine ro (.agg #[_,_,_]) S sz25 ?_ (ho:=rfl) (hx:=rfl) (hy:=rfl));clear S F;intro W S;(try rw [← Ny234.out] at S);(try rw [← Ny237.out] at S);have F:=S.fc) | ((with_reducible refine gs (t:=27) rfl (L ?_));(first | refine sb (.agg #[_,_]) S sz27 ?_ | refine ro (.agg #[_,_]) S sz27 ?_ (ho:=rfl) (hx:=rfl) (hy:=rfl));clear S F;intro W S;(try rw [← Ny234.out] at S);(try rw [← Ny237.out] at S);have F:=S.fc) | ((with_reducible refine gs (t:=137) rfl (L ?_));(first | refine sb (.agg #[_,_,_]) S sz137 ?_ | refine ro (.agg #[_,_,_]) S sz137 ?_ (ho:=rfl) (hx:=rfl) (hy:=rfl));clear S F;intro W S;(try rw [← Ny234.out] at S);(try rw [← Ny237.out] at S);have F:=S.fc))
       refine rgP S (fun _ S=>(S.ms [1,1,1,1,1,0,0])) [(0,0),(0,1),(0,2),(0,4),(1,3),(2,5),(2,6),(0,7)] [] (by kernel_rfl) (by kernel_rfl) (fun _ d _ _ _ h=>by cases d <;> exact h) ?_;clear S F;intro W S;have S0:=(S.ms [1,1,1,1,1,0,0]);have F:=S.fc
       repeat (first | (refine q0 (h:=?_)) | (refine q1 S0 (h:=?_)) | (refine q0n (h:=?_)) | (refine q1n S0 (h:=?_)))
       refine lk2 (by rfl) (by exact (Eq.refl true)) ?_;(first | refine sb (.agg #[_,_,_]) S sz25 ?_ | refine ro (.agg #[_,_,_]) S sz25 ?_ (ho:=rfl) (hx:=rfl) (hy:=rfl) | refine sb (.agg #[_,_]) S sz27 ?_ | refine ro (.agg #[_,_]) S sz27 ?_ (ho:=rfl) (hx:=rfl) (hy:=rfl) | refine sb (.agg #[_,_,_]) S sz137 ?_ | refine ro (.agg #[_,_,_]) S sz137 ?_ (ho:=rfl) (hx:=rfl) (hy:=rfl));clear S F;intro W S;(try rw [← Ny234.out] at S);(try rw [← Ny237.out] at S);have F:=S.fc
       clear S0;have S0:=(S.ms [1,1,1,1,1,0,0]);refine ⟨S0,?_⟩
       refine lk2 (by rfl) (by exact (Eq.refl true)) ?_;(first | refine sb (.agg #[_,_,_]) S sz25 ?_ | refine ro (.agg #[_,_,_]) S sz25 ?_ (ho:=rfl) (hx:=rfl) (hy:=rfl) | refine sb (.agg #[_,_]) S sz27 ?_ | refine ro (.agg #[_,_]) S sz27 ?_ (ho:=rfl) (hx:=rfl) (hy:=rfl) | refine sb (.agg #[_,_,_]) S sz137 ?_ | refine ro (.agg #[_,_,_]) S sz137 ?_ (ho:=rfl) (hx:=rfl) (hy:=rfl));clear S F;intro W S;(try rw [← Ny234.out] at S);(try rw [← Ny237.out] at S);have F:=S.fc
       clear S0;have S0:=(S.ms [1,1,1,1,1,0,0]);refine ⟨S0,?_⟩
       repeat (first | (refine q0 (h:=?_)) | (refine q1 S0 (h:=?_)) | (refine q0n (h:=?_)) | (refine q1n S0 (h:=?_)))
       refine oz ?_
       try clear S0
       go_wp2_with (first | ((with_reducible refine gs (t:=25) rfl (L ?_));(first | refine sb (.agg #[_,_,_]) S sz25 ?_ | refine ro (.agg #[_,_,_]) S sz25 ?_ (ho:=rfl) (hx:=rfl) (hy:=rfl));clear S F;intro W S;(try rw [← Ny234.out] at S);(try rw [← Ny237.out] at S);have F:=S.fc) | ((with_reducible refine gs (t:=27) rfl (L ?_));(first | refine sb (.agg #[_,_]) S sz27 ?_ | refine ro (.agg #[_,_]) S sz27 ?_ (ho:=rfl) (hx:=rfl) (hy:=rfl));clear S F;intro W S;(try rw [← Ny234.out] at S);(try rw [← Ny237.out] at S);have F:=S.fc) | ((with_reducible refine gs (t:=137) rfl (L ?_));(first | refine sb (.agg #[_,_,_]) S sz137 ?_ | refine ro (.agg #[_,_,_]) S sz137 ?_ (ho:=rfl) (hx:=rfl) (hy:=rfl));clear S F;intro W S;(try rw [← Ny234.out] at S);(try rw [← Ny237.out] at S);have F:=S.fc))
       refine bodyPost_ret (results_list (rs:=[.cell 6 137,.cell 7 25,.tmp 8]) rfl (by simp) (.cell gb226 137 #[.int .i64 2,.int .i64 x12_1,.int .i64 x2_1] (0,0) _ rfl S.hb Try.underlying137 rfl (by kernel_rfl) (.cell gb227 25 #[.int .i64 t228,.int .i64 t229,.slice Ax234002_1 x234002_1.length cx234002_1] (0,0) _ rfl S.hb Try.underlying25 rfl (by kernel_rfl) (.tmp .nil)))) rfl ?_
       exact ⟨_,_,(by first | rfl | (simp [e0_,e1_] <;> rfl) | (simp [*,e0_,e1_] <;> rfl)),(by first | exact S.r | exact Kd.R_nil _ _ _ _ _),(by first | exact S.r | exact Kd.R_nil _ _ _ _ _),S.below⟩
     · skip
       replace c21:=cne c21
       replace H:=Option.bind_eq_some_iff.mp H;obtain ⟨t243,A49,H⟩:=H;(try dsimp only at H)
       replace H:=Option.bind_eq_some_iff.mp H;obtain ⟨t244,A50,H⟩:=H;(try dsimp only at H)
       replace H:=Option.bind_eq_some_iff.mp H;obtain ⟨t245,A51,H⟩:=H;(try dsimp only at H)
       replace H:=sp_ H;rcases H with ⟨c52,H⟩ | ⟨c52,H⟩
       · skip
         subst c52
         go_wp2_with (first | ((with_reducible refine gd 26 rfl (L ?_));refine lia 26 (atI .i64) 3 S ([x12_1,x2_1]:List Int) (fun _ _=>(Reps.one (show Kd.M (Kd.int .i64) _ _ _ x12_1 [.int .i64 x12_1] from rfl) (Reps.one (show Kd.M (Kd.int .i64) _ _ _ x2_1 [.int .i64 x2_1] from rfl) (Reps.none _ _)))) (by first | (go_simp;done) | (go_simp;rfl)) ?_;clear S F;intro Ay234 cy234 W S;(try rw [← Ny234.out] at S ⊢);(try rw [← Ny237.out] at S ⊢);have F:=S.fc) | ((with_reducible refine gd 28 rfl (L ?_));refine apm (A:=Ax10_1) (A2:=Ay234) 28 S Try.underlying114 info35 ?_ (ho:=rfl) (hs:=rfl) (hx:=rfl);clear S F;intro Ay237 cy237 W S;(try rw [← Ny234.out] at S ⊢);(try rw [← Ny237.out] at S ⊢);have F:=S.fc) | ((with_reducible refine gate_callee (f:=97) rfl (L ?_));refine cl (some 32) Try.func97 (spec_boAt.calls _ _ _ _ _ _ _ _ _ _ S.c S.n A20) (hargs:=by (simp only [ma_,mb_,mc_,F] <;> rfl)) (h:=?_);rintro e W ⟨rfl,hb⟩;refine ⟨_,rfl,?_⟩;replace S:=S.go hb;clear F hb;have F:=S.fc) | ((with_reducible refine gd 13 rfl (L ?_));refine al 13 S zi27 ?_;clear S F;intro gb242 W S;have F:=S.fc) | ((with_reducible refine gate_callee (f:=185) rfl (L ?_));refine cl (some 43) Try.func185 (spec_paGoes.calls _ _ _ _ _ _ A49) (hargs:=by (simp only [ma_,mb_,mc_,F] <;> rfl)) (h:=?_);rintro e W ⟨rfl,hb⟩;refine ⟨_,rfl,?_⟩;replace S:=S.go hb;clear F hb;have F:=S.fc) | ((with_reducible refine gate_callee (f:=186) rfl (L ?_));obtain ⟨ok_,k_⟩:=S.lend (A:=Ax234002_1);refine cl (some 52) Try.func186 (spec_flPass.calls _ _ _ ok_ _ _ _ _ _ _ _ _ _ k_.below k_.own k_.c k_.n A50) (hargs:=by (simp only [ma_,mb_,mc_,F] <;> rfl)) (h:=?_);rintro e W ⟨rfl,hy,hb,hk⟩;refine ⟨_,rfl,?_⟩;clear S F;have S:=k_.back _ _ hy hb hk;clear k_ hy hb hk ok_;have F:=S.fc) | ((with_reducible refine gate_callee (f:=96) rfl (L ?_));refine cl (some 62) Try.func96 (spec_l1In.calls _ _ _ _ _ A51) (hargs:=by (simp only [ma_,mb_,mc_,F] <;> rfl)) (h:=?_);rintro e W ⟨rfl,hb⟩;refine ⟨_,rfl,?_⟩;replace S:=S.gw hb;clear F hb;have F:=S.fc) | ((with_reducible refine gs (t:=25) rfl (L ?_));(first | refine sb (.agg #[_,_,_]) S sz25 ?_ | refine ro (.agg #[_,_,_]) S sz25 ?_ (ho:=rfl) (hx:=rfl) (hy:=rfl));clear S F;intro W S;(try rw [← Ny234.out] at S);(try rw [← Ny237.out] at S);have F:=S.fc) | ((with_reducible refine gs (t:=27) rfl (L ?_));(first | refine sb (.agg #[_,_]) S sz27 ?_ | refine ro (.agg #[_,_]) S sz27 ?_ (ho:=rfl) (hx:=rfl) (hy:=rfl));clear S F;intro W S;(try rw [← Ny234.out] at S);(try rw [← Ny237.out] at S);have F:=S.fc) | ((with_reducible refine gs (t:=137) rfl (L ?_));(first | refine sb (.agg #[_,_,_]) S sz137 ?_ | refine ro (.agg #[_,_,_]) S sz137 ?_ (ho:=rfl) (hx:=rfl) (hy:=rfl));clear S F;intro W S;(try rw [← Ny234.out] at S);(try rw [← Ny237.out] at S);have F:=S.fc))
         go_roundg k1
         case measure=>omega
         case rel=>(try rw [← (show t244.length = x234002_1.length by simp only [F])] at S);exact ⟨(wrap64 (x2_1 + t243)),y237,(wrap64 (-t243)),(wrap64 (x12_1 + 1)),x227000_1,x227001_1,x227002_1,x228000_1,x228001_1,t244,_,_,_,_,(by first | rfl | (simp;done) | (simp [*];done) | (rw [w6_ (by omega) (by omega)])),(by first | rfl | (simp;done) | (simp [*];done) | (rw [w6_ (by omega) (by omega)])),(by first | rfl | (simp;done) | (simp [*];done) | (rw [w6_ (by omega) (by omega)])),(by first | rfl | simp only [F]),H,(by first | omega | exact Nat.le_refl _),S.tl.tl⟩
       · skip
         replace c52:=cbf c52;subst c52
         simp only [Option.some.injEq,Prod.mk.injEq] at H
         obtain ⟨rfl,rfl,rfl,rfl,rfl,rfl,rfl⟩:=H
         go_wp2_with (first | ((with_reducible refine gd 26 rfl (L ?_));refine lia 26 (atI .i64) 3 S ([x12_1,x2_1]:List Int) (fun _ _=>(Reps.one (show Kd.M (Kd.int .i64) _ _ _ x12_1 [.int .i64 x12_1] from rfl) (Reps.one (show Kd.M (Kd.int .i64) _ _ _ x2_1 [.int .i64 x2_1] from rfl) (Reps.none _ _)))) (by first | (go_simp;done) | (go_simp;rfl)) ?_;clear S F;intro Ay234 cy234 W S;(try rw [← Ny234.out] at S ⊢);(try rw [← Ny237.out] at S ⊢);have F:=S.fc) | ((with_reducible refine gd 28 rfl (L ?_));refine apm (A:=Ax10_1) (A2:=Ay234) 28 S Try.underlying114 info35 ?_ (ho:=rfl) (hs:=rfl) (hx:=rfl);clear S F;intro Ay237 cy237 W S;(try rw [← Ny234.out] at S ⊢);(try rw [← Ny237.out] at S ⊢);have F:=S.fc) | ((with_reducible refine gate_callee (f:=97) rfl (L ?_));refine cl (some 32) Try.func97 (spec_boAt.calls _ _ _ _ _ _ _ _ _ _ S.c S.n A20) (hargs:=by (simp only [ma_,mb_,mc_,F] <;> rfl)) (h:=?_);rintro e W ⟨rfl,hb⟩;refine ⟨_,rfl,?_⟩;replace S:=S.go hb;clear F hb;have F:=S.fc) | ((with_reducible refine gd 13 rfl (L ?_));refine al 13 S zi27 ?_;clear S F;intro gb242 W S;have F:=S.fc) | ((with_reducible refine gate_callee (f:=185) rfl (L ?_));refine cl (some 43) Try.func185 (spec_paGoes.calls _ _ _ _ _ _ A49) (hargs:=by (simp only [ma_,mb_,mc_,F] <;> rfl)) (h:=?_);rintro e W ⟨rfl,hb⟩;refine ⟨_,rfl,?_⟩;replace S:=S.go hb;clear F hb;have F:=S.fc) | ((with_reducible refine gate_callee (f:=186) rfl (L ?_));obtain ⟨ok_,k_⟩:=S.lend (A:=Ax234002_1);refine cl (some 52) Try.func186 (spec_flPass.calls _ _ _ ok_ _ _ _ _ _ _ _ _ _ k_.below k_.own k_.c k_.n A50) (hargs:=by (simp only [ma_,mb_,mc_,F] <;> rfl)) (h:=?_);rintro e W ⟨rfl,hy,hb,hk⟩;refine ⟨_,rfl,?_⟩;clear S F;have S:=k_.back _ _ hy hb hk;clear k_ hy hb hk ok_;have F:=S.fc) | ((with_reducible refine gate_callee (f:=96) rfl (L ?_));refine cl (some 62) Try.func96 (spec_l1In.calls _ _ _ _ _ A51) (hargs:=by (simp only [ma_,mb_,mc_,F] <;> rfl)) (h:=?_);rintro e W ⟨rfl,hb⟩;refine ⟨_,rfl,?_⟩;replace S:=S.gw hb;clear F hb;have F:=S.fc) | ((with_reducible refine gs (t:=25) rfl (L ?_));(first | refine sb (.agg #[_,_,_]) S sz25 ?_ | refine ro (.agg #[_,_,_]) S sz25 ?_ (ho:=rfl) (hx:=rfl) (hy:=rfl));clear S F;intro W S;(try rw [← Ny234.out] at S);(try rw [← Ny237.out] at S);have F:=S.fc) | ((with_reducible refine gs (t:=27) rfl (L ?_));(first | refine sb (.agg #[_,_]) S sz27 ?_ | refine ro (.agg #[_,_]) S sz27 ?_ (ho:=rfl) (hx:=rfl) (hy:=rfl));clear S F;intro W S;(try rw [← Ny234.out] at S);(try rw [← Ny237.out] at S);have F:=S.fc) | ((with_reducible refine gs (t:=137) rfl (L ?_));(first | refine sb (.agg #[_,_,_]) S sz137 ?_ | refine ro (.agg #[_,_,_]) S sz137 ?_ (ho:=rfl) (hx:=rfl) (hy:=rfl));clear S F;intro W S;(try rw [← Ny234.out] at S);(try rw [← Ny237.out] at S);have F:=S.fc))
         refine rgP S (fun _ S=>(S.ms [1,1,1,1,1,0,0])) [(0,0),(0,1),(0,2),(0,4),(1,3),(2,5),(2,6),(0,7)] [] (by kernel_rfl) (by kernel_rfl) (fun _ d _ _ _ h=>by cases d <;> exact h) ?_;clear S F;intro W S;have S0:=(S.ms [1,1,1,1,1,0,0]);have F:=S.fc
         repeat (first | (refine q0 (h:=?_)) | (refine q1 S0 (h:=?_)) | (refine q0n (h:=?_)) | (refine q1n S0 (h:=?_)))
         refine lk2 (by rfl) (by exact (Eq.refl true)) ?_;(first | refine sb (.agg #[_,_,_]) S sz25 ?_ | refine ro (.agg #[_,_,_]) S sz25 ?_ (ho:=rfl) (hx:=rfl) (hy:=rfl) | refine sb (.agg #[_,_]) S sz27 ?_ | refine ro (.agg #[_,_]) S sz27 ?_ (ho:=rfl) (hx:=rfl) (hy:=rfl) | refine sb (.agg #[_,_,_]) S sz137 ?_ | refine ro (.agg #[_,_,_]) S sz137 ?_ (ho:=rfl) (hx:=rfl) (hy:=rfl));clear S F;intro W S;(try rw [← Ny234.out] at S);(try rw [← Ny237.out] at S);have F:=S.fc
         clear S0;have S0:=(S.ms [1,1,1,1,1,0,0]);refine ⟨S0,?_⟩
         refine lk2 (by rfl) (by exact (Eq.refl true)) ?_;(first | refine sb (.agg #[_,_,_]) S sz25 ?_ | refine ro (.agg #[_,_,_]) S sz25 ?_ (ho:=rfl) (hx:=rfl) (hy:=rfl) | refine sb (.agg #[_,_]) S sz27 ?_ | refine ro (.agg #[_,_]) S sz27 ?_ (ho:=rfl) (hx:=rfl) (hy:=rfl) | refine sb (.agg #[_,_,_]) S sz137 ?_ | refine ro (.agg #[_,_,_]) S sz137 ?_ (ho:=rfl) (hx:=rfl) (hy:=rfl));clear S F;intro W S;(try rw [← Ny234.out] at S);(try rw [← Ny237.out] at S);have F:=S.fc
         clear S0;have S0:=(S.ms [1,1,1,1,1,0,0]);refine ⟨S0,?_⟩
         repeat (first | (refine q0 (h:=?_)) | (refine q1 S0 (h:=?_)) | (refine q0n (h:=?_)) | (refine q1n S0 (h:=?_)))
         refine oz ?_
         try clear S0
         go_wp2_with (first | ((with_reducible refine gs (t:=25) rfl (L ?_));(first | refine sb (.agg #[_,_,_]) S sz25 ?_ | refine ro (.agg #[_,_,_]) S sz25 ?_ (ho:=rfl) (hx:=rfl) (hy:=rfl));clear S F;intro W S;(try rw [← Ny234.out] at S);(try rw [← Ny237.out] at S);have F:=S.fc) | ((with_reducible refine gs (t:=27) rfl (L ?_));(first | refine sb (.agg #[_,_]) S sz27 ?_ | refine ro (.agg #[_,_]) S sz27 ?_ (ho:=rfl) (hx:=rfl) (hy:=rfl));clear S F;intro W S;(try rw [← Ny234.out] at S);(try rw [← Ny237.out] at S);have F:=S.fc) | ((with_reducible refine gs (t:=137) rfl (L ?_));(first | refine sb (.agg #[_,_,_]) S sz137 ?_ | refine ro (.agg #[_,_,_]) S sz137 ?_ (ho:=rfl) (hx:=rfl) (hy:=rfl));clear S F;intro W S;(try rw [← Ny234.out] at S);(try rw [← Ny237.out] at S);have F:=S.fc))
         refine bodyPost_ret (results_list (rs:=[.cell 6 137,.cell 7 25,.tmp 8]) rfl (by simp) (.cell gb226 137 #[.int .i64 3,.int .i64 x12_1,.int .i64 (wrap64 (x2_1 + t243))] (0,0) _ rfl S.hb Try.underlying137 rfl (by kernel_rfl) (.cell gb227 25 #[.int .i64 t228,.int .i64 t229,.slice Ax234002_1 x234002_1.length cx234002_1] (0,0) _ rfl S.hb Try.underlying25 rfl (by kernel_rfl) (.tmp .nil)))) rfl ?_
         exact ⟨_,_,(by first | rfl | (simp [e0_,e1_] <;> rfl) | (simp [*,e0_,e1_] <;> rfl)),(by first | exact S.r | exact Kd.R_nil _ _ _ _ _),(by first | exact S.r | exact Kd.R_nil _ _ _ _ _),S.below⟩
   · skip
     simp only [Option.some.injEq,Prod.mk.injEq] at H
     obtain ⟨rfl,rfl,rfl,rfl,rfl,rfl,rfl⟩:=H
     go_wp2_with (first | ((with_reducible refine gs (t:=25) rfl (L ?_));(first | refine sb (.agg #[_,_,_]) S sz25 ?_ | refine ro (.agg #[_,_,_]) S sz25 ?_ (ho:=rfl) (hx:=rfl) (hy:=rfl));(clear S F;intro W S;have F:=S.fc)) | ((with_reducible refine gs (t:=27) rfl (L ?_));(first | refine sb (.agg #[_,_]) S sz27 ?_ | refine ro (.agg #[_,_]) S sz27 ?_ (ho:=rfl) (hx:=rfl) (hy:=rfl));(clear S F;intro W S;have F:=S.fc)) | ((with_reducible refine gs (t:=137) rfl (L ?_));(first | refine sb (.agg #[_,_,_]) S sz137 ?_ | refine ro (.agg #[_,_,_]) S sz137 ?_ (ho:=rfl) (hx:=rfl) (hy:=rfl));(clear S F;intro W S;have F:=S.fc)))
     refine rgP S (fun _ S=>(S.pm [0,1,2,5])) [(0,0),(0,2),(0,5),(1,1),(0,3),(1,4),(2,6),(2,7),(0,8)] [] (by kernel_rfl) (by kernel_rfl) (fun _ d _ _ _ h=>by cases d <;> exact h) ?_;clear S F;intro W S;have S0:=(S.pm [0,1,2,5]);have F:=S.fc
     repeat (first | (refine q0 (h:=?_)) | (refine q1 S0 (h:=?_)) | (refine q0n (h:=?_)) | (refine q1n S0 (h:=?_)))
     refine lk2 (by rfl) (by exact (Eq.refl true)) ?_;(first | refine sb (.agg #[_,_,_]) S sz25 ?_ | refine ro (.agg #[_,_,_]) S sz25 ?_ (ho:=rfl) (hx:=rfl) (hy:=rfl) | refine sb (.agg #[_,_]) S sz27 ?_ | refine ro (.agg #[_,_]) S sz27 ?_ (ho:=rfl) (hx:=rfl) (hy:=rfl) | refine sb (.agg #[_,_,_]) S sz137 ?_ | refine ro (.agg #[_,_,_]) S sz137 ?_ (ho:=rfl) (hx:=rfl) (hy:=rfl));(clear S F;intro W S;have F:=S.fc)
     clear S0;have S0:=(S.pm [0,1,2,5]);refine ⟨S0,?_⟩
     refine lk2 (by rfl) (by exact (Eq.refl true)) ?_;(first | refine sb (.agg #[_,_,_]) S sz25 ?_ | refine ro (.agg #[_,_,_]) S sz25 ?_ (ho:=rfl) (hx:=rfl) (hy:=rfl) | refine sb (.agg #[_,_]) S sz27 ?_ | refine ro (.agg #[_,_]) S sz27 ?_ (ho:=rfl) (hx:=rfl) (hy:=rfl) | refine sb (.agg #[_,_,_]) S sz137 ?_ | refine ro (.agg #[_,_,_]) S sz137 ?_ (ho:=rfl) (hx:=rfl) (hy:=rfl));(clear S F;intro W S;have F:=S.fc)
     clear S0;have S0:=(S.pm [0,1,2,5]);refine ⟨S0,?_⟩
     repeat (first | (refine q0 (h:=?_)) | (refine q1 S0 (h:=?_)) | (refine q0n (h:=?_)) | (refine q1n S0 (h:=?_)))
     refine oz ?_
     try clear S0
     go_wp2_with (first | ((with_reducible refine gs (t:=25) rfl (L ?_));(first | refine sb (.agg #[_,_,_]) S sz25 ?_ | refine ro (.agg #[_,_,_]) S sz25 ?_ (ho:=rfl) (hx:=rfl) (hy:=rfl));(clear S F;intro W S;have F:=S.fc)) | ((with_reducible refine gs (t:=27) rfl (L ?_));(first | refine sb (.agg #[_,_]) S sz27 ?_ | refine ro (.agg #[_,_]) S sz27 ?_ (ho:=rfl) (hx:=rfl) (hy:=rfl));(clear S F;intro W S;have F:=S.fc)) | ((with_reducible refine gs (t:=137) rfl (L ?_));(first | refine sb (.agg #[_,_,_]) S sz137 ?_ | refine ro (.agg #[_,_,_]) S sz137 ?_ (ho:=rfl) (hx:=rfl) (hy:=rfl));(clear S F;intro W S;have F:=S.fc)))
     refine bodyPost_ret (results_list (rs:=[.cell 6 137,.cell 7 25,.tmp 8]) rfl (by simp) (.cell gb226 137 #[.int .i64 1,.int .i64 a0_0,.int .i64 x2_1] (0,0) _ rfl S.hb Try.underlying137 rfl (by kernel_rfl) (.cell gb227 25 #[.int .i64 t228,.int .i64 t229,.slice Ax234002_1 x234002_1.length cx234002_1] (0,0) _ rfl S.hb Try.underlying25 rfl (by kernel_rfl) (.tmp .nil)))) rfl ?_
     exact ⟨_,_,(by first | rfl | (simp [e0_,e1_] <;> rfl) | (simp [*,e0_,e1_] <;> rfl)),(by first | exact S.r | exact Kd.R_nil _ _ _ _ _),(by first | exact S.r | exact Kd.R_nil _ _ _ _ _),S.below⟩

/-! ### spec_flRun: function 144 -/
def spec_flRun.f (k:Nat) (a0_0:Int) (a0_1:Int) (l0_2:List (S27)) (a1:Int):Option (Int × Int × Int × Int × Int × (List (S27))):=(spec_ggGroups.f k a0_0 a0_1 l0_2).bind fun t249=>((spec_flGo.f k a0_0 a0_1 l0_2 t249 a1).bind fun bt252=>(some (bt252.1,bt252.2.1,bt252.2.2.1,bt252.2.2.2.1,bt252.2.2.2.2.1,bt252.2.2.2.2.2.1)))
theorem spec_flRun.calls (k:Nat) (a0_0:Int) (a0_1:Int) (A0_2:Option Addr) (c0_2:Nat) (l0_2:List (S27)) (a1:Int) (r1:Int) (r2:Int) (r3:Int) (r4:Int) (r5:Int) (r6:List (S27)) (w:World) (hr0_2:Kd.C k27 w A0_2 l0_2.length l0_2) (hc0_2:l0_2.length ≤ c0_2) (h:spec_flRun.f k a0_0 a0_1 l0_2 a1 = some (r1,r2,r3,r4,r5,r6)) :
    Calls Try.prog 144 #[.agg #[.int .i64 a0_0,.int .i64 a0_1,.slice A0_2 l0_2.length c0_2],.int .i64 a1] w fun e w'=>∃ v5_:Value,e = .returned (.tuple #[.agg #[.int .i64 r1,.int .i64 r2,.int .i64 r3],.agg #[.int .i64 r4,.int .i64 r5,v5_]])∧Kd.R k27 27 w' w.heap.size (fun _=>True) v5_ r6∧Below w.heap.size w w':=by
 have S:=St.init (w:=w) (dc k27_heap at27 hr0_2 hc0_2 dn)
 clear hr0_2 hc0_2
 have F:=S.fc
 have H:=h;clear h;unfold spec_flRun.f at H
 replace H:=Option.bind_eq_some_iff.mp H;obtain ⟨t249,A3,H⟩:=H;(try dsimp only at H)
 replace H:=Option.bind_eq_some_iff.mp H;obtain ⟨⟨t252,t253,t254,t255,t256,t257,t260⟩,A4,H⟩:=H;(try dsimp only at H)
 simp only [Option.some.injEq,Prod.mk.injEq] at H
 obtain ⟨rfl,rfl,rfl,rfl,rfl,rfl⟩:=H
 go_enter Try.func144,Try.ntmps144
 go_wp2_with (first | ((with_reducible refine gd 2 rfl (L ?_));refine bo 2 (.agg #[_,_,_]) S ?_;clear S F;intro gb246 W S;have F:=S.fc) | ((with_reducible refine gd 4 rfl (L ?_));refine al 4 S zi137 ?_;clear S F;intro gb247 W S;have F:=S.fc) | ((with_reducible refine gd 5 rfl (L ?_));refine al 5 S zi25 ?_;clear S F;intro gb248 W S;have F:=S.fc) | ((with_reducible refine gs (t:=25) rfl (L ?_));(first | refine sb (.agg #[_,_,_]) S sz25 ?_ | refine ro (.agg #[_,_,_]) S sz25 ?_ (ho:=rfl) (hx:=rfl) (hy:=rfl));(clear S F;intro W S;have F:=S.fc)) | ((with_reducible refine gs (t:=137) rfl (L ?_));(first | refine sb (.agg #[_,_,_]) S sz137 ?_ | refine ro (.agg #[_,_,_]) S sz137 ?_ (ho:=rfl) (hx:=rfl) (hy:=rfl));(clear S F;intro W S;have F:=S.fc)))
 refine rgF S (fun _ S=>S) (fkc 9 6 zi137 (fkc 10 7 zi25 fk0)) [(0,3),(1,0),(1,1),(2,2),(2,4),(0,5),(0,6),(0,7),(0,8)] [(3,11),(3,12),(0,13)] [11,12] (id:=1) (h:=?_);clear S F;intro W S;have S0:=S;have F:=S.fc
 repeat (first | (refine f0 (h:=?_)) | (refine f1 S0 (h:=?_)) | (refine f0n (h:=?_)) | (refine f1n S0 (h:=?_)))
 refine fe2 S (by rfl) ?_;intro x6_ x7_ X W S;simp only [List.cons_append,List.nil_append,putF,Act.put,za_,zb_,zc_] at S ⊢;clear F;have F:=S.fc;refine ⟨rfl,?_⟩;refine cl (some 12) Try.func170 (spec_ggGroups.calls _ _ _ _ _ _ _ _ S.c S.n A3) (hargs:=by (simp only [ma_,mb_,mc_,F] <;> rfl)) (h:=?_);rintro e W ⟨v250,rfl,ho0,hb⟩;refine ⟨_,rfl,?_⟩;replace S:=S.got (atI .i64) hb ho0;obtain ⟨At249,ct249,rfl,S⟩:=S;clear F hb ho0;have F:=S.fc
 clear S0;have S0:=(S.nx X).tl;refine ⟨S0,?_⟩
 refine fe2 S (by rfl) ?_;intro x6_ x7_ X W S;simp only [List.cons_append,List.nil_append,putF,Act.put,za_,zb_,zc_] at S ⊢;clear F;have F:=S.fc;refine ⟨rfl,?_⟩;refine cl (some 14) Try.func171 (spec_flGo.calls _ _ _ _ _ _ _ _ _ _ _ _ _ _ _ _ _ _ S.c S.n S.c S.n A4) (hargs:=by (simp only [ma_,mb_,mc_,F] <;> rfl)) (h:=?_);rintro e W ⟨v258,v261,rfl,ho0,ho1,hb⟩;refine ⟨_,rfl,?_⟩;replace S:=S.got2 at27 (atU (d:=Kd.slice 3 (Kd.int .i64))) hb ho0 ho1 (by decide);obtain ⟨At257,ct257,At260,ct260,rfl,rfl,S⟩:=S;clear F hb ho0 ho1;have F:=S.fc
 clear S0;have S0:=(S.nx X).tl.tl.tl;refine ⟨S0,?_⟩
 repeat (first | (refine f0 (h:=?_)) | (refine f1 S0 (h:=?_)) | (refine f0n (h:=?_)) | (refine f1n S0 (h:=?_)))
 refine fz S ?_;intro gb263 gb264 W S;simp only [bxs,fbox,ptr,List.map_cons,List.map_nil,List.cons_append,List.nil_append,putF,Act.put,za_,zb_,zc_] at S ⊢;clear F S0;have S0:=S.tl.tl.tl.tl.tl;have F:=S.fc
 refine lk3 (by rfl) (by exact (Eq.refl true)) ?_;(first | refine sb (.agg #[_,_,_]) S sz25 ?_ | refine ro (.agg #[_,_,_]) S sz25 ?_ (ho:=rfl) (hx:=rfl) (hy:=rfl) | refine sb (.agg #[_,_,_]) S sz137 ?_ | refine ro (.agg #[_,_,_]) S sz137 ?_ (ho:=rfl) (hx:=rfl) (hy:=rfl));(clear S F;intro W S;have F:=S.fc)
 refine lk3 (by rfl) (by exact (Eq.refl true)) ?_;(first | refine sb (.agg #[_,_,_]) S sz25 ?_ | refine ro (.agg #[_,_,_]) S sz25 ?_ (ho:=rfl) (hx:=rfl) (hy:=rfl) | refine sb (.agg #[_,_,_]) S sz137 ?_ | refine ro (.agg #[_,_,_]) S sz137 ?_ (ho:=rfl) (hx:=rfl) (hy:=rfl));(clear S F;intro W S;have F:=S.fc)
 repeat (first | (refine q0 (h:=?_)) | (refine q1 S0 (h:=?_)) | (refine q0n (h:=?_)) | (refine q1n S0 (h:=?_)))
 refine oz ?_
 try clear S0
 go_wp2_with (first | ((with_reducible refine gs (t:=25) rfl (L ?_));(first | refine sb (.agg #[_,_,_]) S sz25 ?_ | refine ro (.agg #[_,_,_]) S sz25 ?_ (ho:=rfl) (hx:=rfl) (hy:=rfl));(clear S F;intro W S;have F:=S.fc)) | ((with_reducible refine gs (t:=137) rfl (L ?_));(first | refine sb (.agg #[_,_,_]) S sz137 ?_ | refine ro (.agg #[_,_,_]) S sz137 ?_ (ho:=rfl) (hx:=rfl) (hy:=rfl));(clear S F;intro W S;have F:=S.fc)))
 refine rgP S (fun _ S=>(S.ms [1,1,1,1,1,0,0])) [(1,0),(1,1),(2,2),(2,3)] [] (by kernel_rfl) (by kernel_rfl) (fun _ d _ _ _ h=>by cases d <;> exact h) ?_;clear S F;intro W S;have S0:=(S.ms [1,1,1,1,1,0,0]);have F:=S.fc
 repeat (first | (refine q0 (h:=?_)) | (refine q1 S0 (h:=?_)) | (refine q0n (h:=?_)) | (refine q1n S0 (h:=?_)))
 refine lk2 (by rfl) (by exact (Eq.refl true)) ?_;(first | refine sb (.agg #[_,_,_]) S sz25 ?_ | refine ro (.agg #[_,_,_]) S sz25 ?_ (ho:=rfl) (hx:=rfl) (hy:=rfl) | refine sb (.agg #[_,_,_]) S sz137 ?_ | refine ro (.agg #[_,_,_]) S sz137 ?_ (ho:=rfl) (hx:=rfl) (hy:=rfl));(clear S F;intro W S;have F:=S.fc)
 clear S0;have S0:=(S.ms [1,1,1,1,1,0,0]);refine ⟨S0,?_⟩
 refine lk2 (by rfl) (by exact (Eq.refl true)) ?_;(first | refine sb (.agg #[_,_,_]) S sz25 ?_ | refine ro (.agg #[_,_,_]) S sz25 ?_ (ho:=rfl) (hx:=rfl) (hy:=rfl) | refine sb (.agg #[_,_,_]) S sz137 ?_ | refine ro (.agg #[_,_,_]) S sz137 ?_ (ho:=rfl) (hx:=rfl) (hy:=rfl));(clear S F;intro W S;have F:=S.fc)
 clear S0;have S0:=(S.ms [1,1,1,1,1,0,0]);refine ⟨S0,?_⟩
 refine oz ?_
 try clear S0
 go_wp2_with (first | ((with_reducible refine gs (t:=25) rfl (L ?_));(first | refine sb (.agg #[_,_,_]) S sz25 ?_ | refine ro (.agg #[_,_,_]) S sz25 ?_ (ho:=rfl) (hx:=rfl) (hy:=rfl));(clear S F;intro W S;have F:=S.fc)) | ((with_reducible refine gs (t:=137) rfl (L ?_));(first | refine sb (.agg #[_,_,_]) S sz137 ?_ | refine ro (.agg #[_,_,_]) S sz137 ?_ (ho:=rfl) (hx:=rfl) (hy:=rfl));(clear S F;intro W S;have F:=S.fc)))
 refine bodyPost_ret (results_cc rfl _ _ gb247 gb248 137 25 #[.int .i64 t252,.int .i64 t253,.int .i64 t254] #[.int .i64 t255,.int .i64 t256,.slice At257 t257.length ct257] (0,0) (0,0) _ _ rfl S.hb Try.underlying137 rfl (by kernel_rfl) rfl S.hb Try.underlying25 rfl (by kernel_rfl)) rfl ?_
 exact ⟨_,(by first | rfl | (simp [e0_,e1_] <;> rfl) | (simp [*,e0_,e1_] <;> rfl)),(by first | exact S.r | exact Kd.R_nil _ _ _ _ _),S.below⟩
end Go.Proofs.Ytimeepcpgjnajaa.F
