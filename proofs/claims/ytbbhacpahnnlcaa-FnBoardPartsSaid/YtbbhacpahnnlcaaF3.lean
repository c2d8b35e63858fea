-- Printed by a program; checked here.
import Derived.Test.YtbbhacpahnnlcaaF0
import Derived.Test.YtbbhacpahnnlcaaF1
import Derived.Test.YtbbhacpahnnlcaaF2
namespace Go.Proofs.Ytbbhacpahnnlcaa.F
open Go.RowKit Go.Proofs.YtbbhacpahnnlcaaV.PrintWords Go.Proofs.YtbbhacpahnnlcaaV.PrintLast Go.Proofs.YtbbhacpahnnlcaaV.PrintMore Go.Proofs.YtbbhacpahnnlcaaV.Sl
attribute [local go_sem] max2_int min2_int max_two min_two max_three min_three max_four min_four ia_opt it_opt
attribute [local go_sem] Try.underlying23 Try.underlying25 Try.underlying27 Try.underlying35 Try.underlying51
set_option maxHeartbeats 8000000
set_option maxRecDepth 100000
set_option linter.unusedVariables false
set_option linter.unusedSimpArgs false

attribute [local go_sem high] eqA27
/-! ### spec_boGood: function 41 -/
mutual
def spec_boGood.j0:Nat→Bool→Int→Int→List (S27)→Option (Bool)
  | 0,_,_,_,_=>none
  | k + 1,x25,x339000,x339001,x339002=>if x25 = true then (some false) else (spec_boGood.l0 k x339002 (x339002.length:Int) 0)
def spec_boGood.l0:Nat→List (S27)→Int→Int→Option (Bool)
  | 0,_,_,_=>none
  | k + 1,x27,x28,x29=>if x29 < x28 then (if 0 ≤ x29 then (if x29 < (x27.length:Int) then ((spec_paGood.f ((rd_T27 x27 x29).f0) ((rd_T27 x27 x29).f1)).bind fun t343=>(if t343 = true then (spec_boGood.l0 k x27 x28 (wrap64 (x29 + 1))) else (some false))) else (none)) else (none)) else (some true)
end
def spec_boGood.f (k:Nat) (a0_0:Int) (a0_1:Int) (l0_2:List (S27)):Option (Bool):=(spec_l1In.f a0_0 1 10).bind fun t339=>(if t339 = true then ((spec_l1In.f a0_1 1 9).bind fun t340=>(if t340 = true then (spec_boGood.j0 k ((l0_2.length:Int) != (wrap64 (a0_0 * a0_1))) a0_0 a0_1 l0_2) else (spec_boGood.j0 k true a0_0 a0_1 l0_2))) else (spec_boGood.j0 k true a0_0 a0_1 l0_2))
theorem spec_boGood.calls (k:Nat) (a0_0:Int) (a0_1:Int) (A0_2:Option Addr) (c0_2:Nat) (l0_2:List (S27)) (r:Bool) (w:World) (hr0_2:Kd.C k27 w A0_2 l0_2.length l0_2) (hc0_2:l0_2.length ≤ c0_2) (h:spec_boGood.f k a0_0 a0_1 l0_2 = some r) :
    Calls Try.prog 41 #[.agg #[.int .i64 a0_0,.int .i64 a0_1,.slice A0_2 l0_2.length c0_2]] w fun e w'=>e = .returned (.bool r)∧Below w.heap.size w w':=by
 have S:=St.init (w:=w) (dc k27_heap at27 hr0_2 hc0_2 dn)
 clear hr0_2 hc0_2
 have F:=S.fc
 have H:=h;clear h;unfold spec_boGood.f at H
 go_enter Try.func41,Try.ntmps41
 go_upto_region 1 with (first | ((with_reducible refine gd 1 rfl (L ?_));refine bo 1 (.agg #[_,_,_]) S ?_;clear S F;intro gb338 W S;have F:=S.fc) | ((with_reducible refine gs (t:=27) rfl (L ?_));(first | refine sb (.agg #[_,_]) S sz27 ?_ | refine ro (.agg #[_,_]) S sz27 ?_ (ho:=rfl) (hx:=rfl) (hy:=rfl));(clear S F;intro W S;have F:=S.fc)))
 (try simp only [Act.put,List.setIfInBounds_toArray,List.set_cons_zero,List.set_cons_succ])
 go_cut [25] (fun v25 wc=>∃ (kq:Nat) (x25_1:Bool),v25 = .bool x25_1∧spec_boGood.j0 kq x25_1 a0_0 a0_1 l0_2 = some r∧kq ≤ k∧St w w (fun _=>False) [bor at27 A0_2 c0_2 l0_2] wc  [box gb338 25 [.int .i64 a0_0,.int .i64 a0_1,.slice A0_2 l0_2.length c0_2]])
 case first =>
  replace H:=Option.bind_eq_some_iff.mp H;obtain ⟨t339,A4,H⟩:=H;(try dsimp only at H)
  replace H:=sp_ H;rcases H with ⟨c5,H⟩ | ⟨c5,H⟩
  · skip
    subst c5
    replace H:=Option.bind_eq_some_iff.mp H;obtain ⟨t340,A6,H⟩:=H;(try dsimp only at H)
    replace H:=sp_ H;rcases H with ⟨c7,H⟩ | ⟨c7,H⟩
    · skip
      subst c7
      go_wp2_with (first | ((with_reducible refine gate_callee (f:=48) rfl (L ?_));refine cl (some 7) Try.func48 (spec_l1In.calls _ _ _ _ _ A4) (hargs:=by (simp only [ma_,mb_,mc_,F] <;> rfl)) (h:=?_);rintro e W ⟨rfl,hb⟩;refine ⟨_,rfl,?_⟩;replace S:=S.gw hb;clear F hb;have F:=S.fc) | (go_at_call 48;(try simp only [F]);refine (spec_l1In.calls _ _ _ _ _ A6).mono ?_;rintro e W ⟨rfl,hb⟩;replace S:=S.gw hb;clear F hb;have F:=S.fc) | ((with_reducible refine gs (t:=27) rfl (L ?_));(first | refine sb (.agg #[_,_]) S sz27 ?_ | refine ro (.agg #[_,_]) S sz27 ?_ (ho:=rfl) (hx:=rfl) (hy:=rfl));(clear S F;intro W S;have F:=S.fc)))
      go_meet
      case rel=>exact ⟨_,((l0_2.length:Int) != (wrap64 (a0_0 * a0_1))),(by first | rfl | (simp;done) | (simp [*];done) | (rw [w6_ (by omega) (by omega)])),H,(by first | omega | exact Nat.le_refl _),S⟩
    · skip
      replace c7:=cbf c7;subst c7
      go_wp2_with (first | ((with_reducible refine gate_callee (f:=48) rfl (L ?_));refine cl (some 7) Try.func48 (spec_l1In.calls _ _ _ _ _ A4) (hargs:=by (simp only [ma_,mb_,mc_,F] <;> rfl)) (h:=?_);rintro e W ⟨rfl,hb⟩;refine ⟨_,rfl,?_⟩;replace S:=S.gw hb;clear F hb;have F:=S.fc) | (go_at_call 48;(try simp only [F]);refine (spec_l1In.calls _ _ _ _ _ A6).mono ?_;rintro e W ⟨rfl,hb⟩;replace S:=S.gw hb;clear F hb;have F:=S.fc) | ((with_reducible refine gs (t:=27) rfl (L ?_));(first | refine sb (.agg #[_,_]) S sz27 ?_ | refine ro (.agg #[_,_]) S sz27 ?_ (ho:=rfl) (hx:=rfl) (hy:=rfl));(clear S F;intro W S;have F:=S.fc)))
      go_meet
      case rel=>exact ⟨_,true,(by first | rfl | (simp;done) | (simp [*];done) | (rw [w6_ (by omega) (by omega)])),H,(by first | omega | exact Nat.le_refl _),S⟩
  · skip
    replace c5:=cbf c5;subst c5
    go_wp2_with (first | ((with_reducible refine gate_callee (f:=48) rfl (L ?_));refine cl (some 7) Try.func48 (spec_l1In.calls _ _ _ _ _ A4) (hargs:=by (simp only [ma_,mb_,mc_,F] <;> rfl)) (h:=?_);rintro e W ⟨rfl,hb⟩;refine ⟨_,rfl,?_⟩;replace S:=S.gw hb;clear F hb;have F:=S.fc) | ((with_reducible refine gs (t:=27) rfl (L ?_));(first | refine sb (.agg #[_,_]) S sz27 ?_ | refine ro (.agg #[_,_]) S sz27 ?_ (ho:=rfl) (hx:=rfl) (hy:=rfl));(clear S F;intro W S;have F:=S.fc)))
    go_meet
    case rel=>exact ⟨_,true,(by first | rfl | (simp;done) | (simp [*];done) | (rw [w6_ (by omega) (by omega)])),H,(by first | omega | exact Nat.le_refl _),S⟩
 case rest =>
  clear H S F
  obtain ⟨kq,x25_1,rfl,HA,HJ1,S⟩:=hcut
  have F:=S.fc
  cases kq with
  | zero=>exact absurd HA (by simp [spec_boGood.j0])
  | succ kj1 =>
   have H:=HA;clear HA;simp only [spec_boGood.j0,F] at H
   replace H:=sp_ H;rcases H with ⟨c11,H⟩ | ⟨c11,H⟩
   · skip
     subst c11
     obtain rfl:=Option.some.inj H
     go_wp2_with (first | ((with_reducible refine gs (t:=27) rfl (L ?_));(first | refine sb (.agg #[_,_]) S sz27 ?_ | refine ro (.agg #[_,_]) S sz27 ?_ (ho:=rfl) (hx:=rfl) (hy:=rfl));(clear S F;intro W S;have F:=S.fc)))
     go_ret
     exact ⟨(by first | rfl | (simp [e0_,e1_] <;> rfl) | (simp [*,e0_,e1_] <;> rfl)),S.below⟩
   · skip
     replace c11:=cbf c11;subst c11
     go_wp2_with (first | ((with_reducible refine gs (t:=27) rfl (L ?_));(first | refine sb (.agg #[_,_]) S sz27 ?_ | refine ro (.agg #[_,_]) S sz27 ?_ (ho:=rfl) (hx:=rfl) (hy:=rfl));(clear S F;intro W S;have F:=S.fc)))
     go_loopg [29] kj1 (fun kq v29 w'=>∃ (x29_2:Int),v29 = .int .i64 x29_2∧spec_boGood.l0 kq l0_2 (l0_2.length:Int) x29_2 = some r∧kq ≤ kj1∧St w w (fun _=>False) [bor at27 A0_2 c0_2 l0_2] w'  [box gb338 25 [.int .i64 a0_0,.int .i64 a0_1,.slice A0_2 l0_2.length c0_2]])
     case atStart=>exact ⟨0,(by first | rfl | (simp;done) | (simp [*];done) | (rw [w6_ (by omega) (by omega)])),H,Nat.le_refl _,S⟩
     case round =>
      clear H S F
      obtain ⟨x29_2,rfl,HA,HK2,S⟩:=hrel
      have F:=S.fc
      cases gk with
      | zero=>exact absurd HA (by simp [spec_boGood.l0])
      | succ k2 =>
       have H:=HA;clear HA;simp only [spec_boGood.l0,F] at H
       replace H:=sp_ H;rcases H with ⟨c13,H⟩ | ⟨c13,H⟩
       · skip
         replace H:=np_ H;obtain ⟨c14,H⟩:=H
         replace H:=np_ H;obtain ⟨c15,H⟩:=H
         replace H:=Option.bind_eq_some_iff.mp H;obtain ⟨t343,A16,H⟩:=H;(try dsimp only at H)
         replace H:=sp_ H;rcases H with ⟨c17,H⟩ | ⟨c17,H⟩
         · skip
           subst c17
           go_wp2_with (first | ((with_reducible refine gd 4 rfl (L ?_));refine al 4 S zi27 ?_;clear S F;intro gb342 W S;have F:=S.fc) | ((with_reducible refine gate_callee (f:=34) rfl (L ?_));refine cl (some 34) Try.func34 (spec_paGood.calls _ _ _ _ A16) (hargs:=by (simp only [ma_,mb_,mc_,F] <;> rfl)) (h:=?_);rintro e W ⟨rfl,hb⟩;refine ⟨_,rfl,?_⟩;replace S:=S.go hb;clear F hb;have F:=S.fc) | ((with_reducible refine gs (t:=27) rfl (L ?_));(first | refine sb (.agg #[_,_]) S sz27 ?_ | refine ro (.agg #[_,_]) S sz27 ?_ (ho:=rfl) (hx:=rfl) (hy:=rfl));(clear S F;intro W S;have F:=S.fc)))
           go_roundg k2
           case measure=>omega
           case rel=>exact ⟨(wrap64 (x29_2 + 1)),(by first | rfl | (simp;done) | (simp [*];done) | (rw [w6_ (by omega) (by omega)])),H,(by first | omega | exact Nat.le_refl _),S.tl⟩
         · skip
           replace c17:=cbf c17;subst c17
           obtain rfl:=Option.some.inj H
           go_wp2_with (first | ((with_reducible refine gd 4 rfl (L ?_));refine al 4 S zi27 ?_;clear S F;intro gb342 W S;have F:=S.fc) | ((with_reducible refine gate_callee (f:=34) rfl (L ?_));refine cl (some 34) Try.func34 (spec_paGood.calls _ _ _ _ A16) (hargs:=by (simp only [ma_,mb_,mc_,F] <;> rfl)) (h:=?_);rintro e W ⟨rfl,hb⟩;refine ⟨_,rfl,?_⟩;replace S:=S.go hb;clear F hb;have F:=S.fc) | ((with_reducible refine gs (t:=27) rfl (L ?_));(first | refine sb (.agg #[_,_]) S sz27 ?_ | refine ro (.agg #[_,_]) S sz27 ?_ (ho:=rfl) (hx:=rfl) (hy:=rfl));(clear S F;intro W S;have F:=S.fc)))
           go_ret
           exact ⟨(by first | rfl | (simp [e0_,e1_] <;> rfl) | (simp [*,e0_,e1_] <;> rfl)),S.below⟩
       · skip
         obtain rfl:=Option.some.inj H
         go_wp2_with (first | ((with_reducible refine gs (t:=27) rfl (L ?_));(first | refine sb (.agg #[_,_]) S sz27 ?_ | refine ro (.agg #[_,_]) S sz27 ?_ (ho:=rfl) (hx:=rfl) (hy:=rfl));(clear S F;intro W S;have F:=S.fc)))
         go_ret
         exact ⟨(by first | rfl | (simp [e0_,e1_] <;> rfl) | (simp [*,e0_,e1_] <;> rfl)),S.below⟩

/-! ### spec_boHas: function 33 -/
def spec_boHas.f (k:Nat) (a0_0:Int) (a0_1:Int) (l0_2:List (S27)) (a1:Int) (a2:Int):Option (Bool):=(spec_boGood.f k a0_0 a0_1 l0_2).bind fun t345=>(if t345 = true then ((spec_l1In.f a1 0 (wrap64 (a0_0 - 1))).bind fun t346=>(if t346 = true then ((spec_l1In.f a2 0 (wrap64 (a0_1 - 1))).bind fun t347=>(some t347)) else (some false))) else (some false))
theorem spec_boHas.calls (k:Nat) (a0_0:Int) (a0_1:Int) (A0_2:Option Addr) (c0_2:Nat) (l0_2:List (S27)) (a1:Int) (a2:Int) (r:Bool) (w:World) (hr0_2:Kd.C k27 w A0_2 l0_2.length l0_2) (hc0_2:l0_2.length ≤ c0_2) (h:spec_boHas.f k a0_0 a0_1 l0_2 a1 a2 = some r) :
  Calls Try.prog 33 #[.agg #[.int .i64 a0_0,.int .i64 a0_1,.slice A0_2 l0_2.length c0_2],.int .i64 a1,.int .i64 a2] w fun e w'=>e = .returned (.bool r)∧Below w.heap.size w w':=by
 have HR0_2:=Aside0.mk hr0_2;have HC0_2:=Aside0.mk hc0_2;clear hr0_2 hc0_2;have HB:=Aside0.mk (Below.refl w.heap.size w);have H:((spec_boGood.f k a0_0 a0_1 l0_2).bind fun t345=>(if t345 = true then ((spec_l1In.f a1 0 (wrap64 (a0_0 - 1))).bind fun t346=>(if t346 = true then ((spec_l1In.f a2 0 (wrap64 (a0_1 - 1))).bind fun t347=>(some t347)) else (some false))) else (some false))) = some r:=h;clear h;replace H:=Option.bind_eq_some_iff.mp H;obtain ⟨t345,A40,H⟩:=H;(try dsimp only at H)
 have A4:=Aside0.mk A40;clear A40;by_cases c5:t345 = true
 ·subst c5;have H1:((spec_l1In.f a1 0 (wrap64 (a0_0 - 1))).bind fun t346=>(if t346 = true then ((spec_l1In.f a2 0 (wrap64 (a0_1 - 1))).bind fun t347=>(some t347)) else (some false))) = some r:=by rw [if_pos rfl] at H;exact H
  clear H;have H:=H1;clear H1;replace H:=Option.bind_eq_some_iff.mp H;obtain ⟨t346,A60,H⟩:=H;(try dsimp only at H)
  have A6:=Aside0.mk A60;clear A60;by_cases c7:t346 = true
  ·subst c7;have H1:((spec_l1In.f a2 0 (wrap64 (a0_1 - 1))).bind fun t347=>(some t347)) = some r:=by rw [if_pos rfl] at H;exact H
   clear H;have H:=H1;clear H1;replace H:=Option.bind_eq_some_iff.mp H;obtain ⟨t347,A80,H⟩:=H;(try dsimp only at H)
   have A8:=Aside0.mk A80;clear A80;obtain rfl:=Option.some.inj H;go_enter Try.func33,Try.ntmps33;go_wp2_with (first | ((with_reducible refine gate_dst (N:=3) rfl ?_);refine box_event ?hg (N:=3) ?hd (cs:=#[.int .i64 a0_0,.int .i64 a0_1,.slice A0_2 l0_2.length c0_2]) (t:=25) ?hr ?_;(case hd=>rfl);(case hg=>rfl);(case hr=>first | (go_simp;done) | (go_simp;rfl));intro gb344 hg w9 hbox hb;refine ev4 (bs HB hb) (hbox) (gle hg HB) (gle hg HB) ?_;clear HB;intro HB BK344 GW344 GE344;clear hb hbox hg;obtain ⟨hcz10_0,hcz10_1,hcz10_2,hfz10_0,hfz10_1,hfz10_2⟩:=bt3 BK344) | ((with_reducible refine gate_callee (f:=41) rfl ?_);refine gL_ (some 8) Try.func41 #[.agg #[.int .i64 a0_0,.int .i64 a0_1,.slice A0_2 l0_2.length c0_2]] (h:=?_);(with_reducible refine (spec_boGood.calls k a0_0 a0_1 _ _ l0_2 true _ (Kd.C_mv (Kd.C_below HR0_2.out HB.out)) HC0_2.out A4.out).mono ?_);rintro e w11 ⟨rfl,hb⟩;refine ⟨_,rfl,?_⟩;refine ev2 (kb BK344 hb) (bs HB hb) ?_;clear BK344 HB;intro BK344 HB;(try clear hb);obtain ⟨hcz12_0,hcz12_1,hcz12_2,hfz12_0,hfz12_1,hfz12_2⟩:=bt3 BK344) | (go_at_call 48;(with_reducible refine (spec_l1In.calls a1 0 (wrap64 (a0_0 - 1)) true _ A6.out).mono ?_);rintro e w' ⟨rfl,⟨nd,rfl⟩⟩) | (go_at_call 48;(with_reducible refine (spec_l1In.calls a2 0 (wrap64 (a0_1 - 1)) t347 _ A8.out).mono ?_);rintro e w' ⟨rfl,⟨nd,rfl⟩⟩))
   go_ret;exact ⟨by first | rfl | (simp [e0_,e1_] <;> rfl) | (simp [*,e0_,e1_] <;> rfl),bm HB⟩
  ·replace c7:=Bool.eq_false_iff.mpr c7;subst c7;have H1:(some false) = some r:=by rw [if_neg (show ¬ (false = true) by decide)] at H;exact H
   clear H;have H:=H1;clear H1;obtain rfl:=Option.some.inj H;go_enter Try.func33,Try.ntmps33;go_wp2_with (first | ((with_reducible refine gate_dst (N:=3) rfl ?_);refine box_event ?hg (N:=3) ?hd (cs:=#[.int .i64 a0_0,.int .i64 a0_1,.slice A0_2 l0_2.length c0_2]) (t:=25) ?hr ?_;(case hd=>rfl);(case hg=>rfl);(case hr=>first | (go_simp;done) | (go_simp;rfl));intro gb344 hg w13 hbox hb;refine ev4 (bs HB hb) (hbox) (gle hg HB) (gle hg HB) ?_;clear HB;intro HB BK344 GW344 GE344;clear hb hbox hg;obtain ⟨hcz14_0,hcz14_1,hcz14_2,hfz14_0,hfz14_1,hfz14_2⟩:=bt3 BK344) | ((with_reducible refine gate_callee (f:=41) rfl ?_);refine gL_ (some 8) Try.func41 #[.agg #[.int .i64 a0_0,.int .i64 a0_1,.slice A0_2 l0_2.length c0_2]] (h:=?_);(with_reducible refine (spec_boGood.calls k a0_0 a0_1 _ _ l0_2 true _ (Kd.C_mv (Kd.C_below HR0_2.out HB.out)) HC0_2.out A4.out).mono ?_);rintro e w15 ⟨rfl,hb⟩;refine ⟨_,rfl,?_⟩;refine ev2 (kb BK344 hb) (bs HB hb) ?_;clear BK344 HB;intro BK344 HB;(try clear hb);obtain ⟨hcz16_0,hcz16_1,hcz16_2,hfz16_0,hfz16_1,hfz16_2⟩:=bt3 BK344) | (go_at_call 48;(with_reducible refine (spec_l1In.calls a1 0 (wrap64 (a0_0 - 1)) false _ A6.out).mono ?_);rintro e w' ⟨rfl,⟨nd,rfl⟩⟩))
   go_ret;exact ⟨by first | rfl | (simp [e0_,e1_] <;> rfl) | (simp [*,e0_,e1_] <;> rfl),bm HB⟩
 ·replace c5:=Bool.eq_false_iff.mpr c5;subst c5;have H1:(some false) = some r:=by rw [if_neg (show ¬ (false = true) by decide)] at H;exact H
  clear H;have H:=H1;clear H1;obtain rfl:=Option.some.inj H;go_enter Try.func33,Try.ntmps33;go_wp2_with (first | ((with_reducible refine gate_dst (N:=3) rfl ?_);refine box_event ?hg (N:=3) ?hd (cs:=#[.int .i64 a0_0,.int .i64 a0_1,.slice A0_2 l0_2.length c0_2]) (t:=25) ?hr ?_;(case hd=>rfl);(case hg=>rfl);(case hr=>first | (go_simp;done) | (go_simp;rfl));intro gb344 hg w17 hbox hb;refine ev4 (bs HB hb) (hbox) (gle hg HB) (gle hg HB) ?_;clear HB;intro HB BK344 GW344 GE344;clear hb hbox hg;obtain ⟨hcz18_0,hcz18_1,hcz18_2,hfz18_0,hfz18_1,hfz18_2⟩:=bt3 BK344) | ((with_reducible refine gate_callee (f:=41) rfl ?_);refine gL_ (some 8) Try.func41 #[.agg #[.int .i64 a0_0,.int .i64 a0_1,.slice A0_2 l0_2.length c0_2]] (h:=?_);(with_reducible refine (spec_boGood.calls k a0_0 a0_1 _ _ l0_2 false _ (Kd.C_mv (Kd.C_below HR0_2.out HB.out)) HC0_2.out A4.out).mono ?_);rintro e w19 ⟨rfl,hb⟩;refine ⟨_,rfl,?_⟩;refine ev2 (kb BK344 hb) (bs HB hb) ?_;clear BK344 HB;intro BK344 HB;(try clear hb)))
  go_ret;exact ⟨by first | rfl | (simp [e0_,e1_] <;> rfl) | (simp [*,e0_,e1_] <;> rfl),bm HB⟩

/-! ### spec_boOwn: function 44 -/
def spec_boOwn.f (a0_0:Int) (a0_1:Int) (l0_2:List (S27)):Option (Int × Int × (List (S27))):=(some (([]:List (S27)):List (S27))).bind fun y350=>(if y350.length + l0_2.length < 8796093022208 then (some (a0_0,a0_1,(y350 ++ l0_2))) else (none))
theorem spec_boOwn.calls (a0_0:Int) (a0_1:Int) (A0_2:Option Addr) (c0_2:Nat) (l0_2:List (S27)) (r1:Int) (r2:Int) (r3:List (S27)) (w:World) (hr0_2:Kd.C k27 w A0_2 l0_2.length l0_2) (hc0_2:l0_2.length ≤ c0_2) (h:spec_boOwn.f a0_0 a0_1 l0_2 = some (r1,r2,r3)) :
    Calls Try.prog 44 #[.agg #[.int .i64 a0_0,.int .i64 a0_1,.slice A0_2 l0_2.length c0_2]] w fun e w'=>∃ v2_:Value,e = .returned (.agg #[.int .i64 r1,.int .i64 r2,v2_])∧Kd.R k27 27 w' w.heap.size (fun _=>True) v2_ r3∧Below w.heap.size w w':=by
 have S:=St.init (w:=w) (dc k27_heap at27 hr0_2 hc0_2 dn)
 clear hr0_2 hc0_2
 have F:=S.fc
 have H:=h;clear h;unfold spec_boOwn.f at H
 (first | (with_reducible replace H:=ob_ H;obtain ⟨y350,hy350,H⟩:=H;(try dsimp only at H)) | (obtain ⟨y350,hy350⟩:∃ y_:List (S27),y_ = (([]:List (S27))):=⟨_,rfl⟩;(try rw [← hy350] at H);(try simp only [Option.bind_some] at H)));have Ny350:=Aside0.mk hy350;clear hy350
 replace H:=np_ H;obtain ⟨c2,H⟩:=H
 (first | (with_reducible replace H:=ob_ H;obtain ⟨y353,hy353,H⟩:=H;(try dsimp only at H)) | (obtain ⟨y353,hy353⟩:∃ y_:List (S27),y_ = (y350 ++ l0_2):=⟨_,rfl⟩;(try rw [← hy353] at H);(try simp only [Option.bind_some] at H)));have Ny353:=Aside0.mk hy353;clear hy353
 simp only [Option.some.injEq,Prod.mk.injEq] at H
 obtain ⟨rfl,rfl,rfl⟩:=H
 go_enter Try.func44,Try.ntmps44
 go_wp2_with (first | ((with_reducible refine gd 1 rfl (L ?_));refine bo 1 (.agg #[_,_,_]) S ?_;clear S F;intro gb348 W S;have F:=S.fc) | ((with_reducible refine gd 2 rfl (L ?_));refine al 2 S zi25 ?_;clear S F;intro gb349 W S;have F:=S.fc) | ((with_reducible refine gs (t:=25) rfl (L ?_));(first | refine sb (.agg #[_,_,_]) S sz25 ?_ | refine ro (.agg #[_,_,_]) S sz25 ?_ (ho:=rfl) (hx:=rfl) (hy:=rfl));clear S F;intro W S;(try rw [← Ny353.out] at S);have F:=S.fc))
 refine rgP S (fun _ S=>S.tl) [(0,0),(0,2),(0,5),(1,1),(1,3),(1,6),(2,4),(2,7),(0,8),(2,9)] [] (by kernel_rfl) (by kernel_rfl) (fun _ d _ _ _ h=>by cases d <;> exact h) ?_;clear S F;intro W S;have S0:=S.tl;have F:=S.fc
 repeat (first | (refine q0 (h:=?_)) | (refine q1 S0 (h:=?_)) | (refine q0n (h:=?_)) | (refine q1n S0 (h:=?_)))
 refine lk2 (by rfl) (by exact (Eq.refl true)) ?_;refine lia 7 at27 27 S ([]:List (S27)) (fun _ _=>(Reps.none _ _)) (by first | (go_simp;done) | (go_simp;rfl)) ?_;clear S F;intro Ay350 cy350 W S;(try rw [← Ny350.out] at S ⊢);(try rw [← Ny353.out] at S ⊢);have F:=S.fc
 clear S0;have S0:=S.tl.tl;refine ⟨S0,?_⟩
 refine lk2 (by rfl) (by exact (Eq.refl true)) ?_;refine apr (A:=Ay350) (ys:=l0_2) 10 S Try.underlying23 info27 S.c ?_ (ho:=rfl) (hs:=rfl) (hx:=rfl);clear S F;intro Ay353 cy353 W S;(try rw [← Ny353.out] at S ⊢);have F:=S.fc
 clear S0;have S0:=S.tl.tl;refine ⟨S0,?_⟩
 repeat (first | (refine q0 (h:=?_)) | (refine q1 S0 (h:=?_)) | (refine q0n (h:=?_)) | (refine q1n S0 (h:=?_)))
 refine lk2 (by rfl) (by exact (Eq.refl true)) ?_;(first | refine sb (.agg #[_,_,_]) S sz25 ?_ | refine ro (.agg #[_,_,_]) S sz25 ?_ (ho:=rfl) (hx:=rfl) (hy:=rfl));clear S F;intro W S;(try rw [← Ny353.out] at S);have F:=S.fc
 clear S0;have S0:=S.tl.tl;refine ⟨S0,?_⟩
 refine oz ?_
 try clear S0
 go_wp2_with (first | ((with_reducible refine gs (t:=25) rfl (L ?_));(first | refine sb (.agg #[_,_,_]) S sz25 ?_ | refine ro (.agg #[_,_,_]) S sz25 ?_ (ho:=rfl) (hx:=rfl) (hy:=rfl));clear S F;intro W S;(try rw [← Ny353.out] at S);have F:=S.fc))
 refine bodyPost_ret (results_cell_row rfl _ _ gb349 25 #[.int .i64 a0_0,.int .i64 a0_1,.slice Ay353 y353.length cy353] (0,0) _ rfl S.hb Try.underlying25 rfl (by kernel_rfl)) rfl ?_
 exact ⟨_,(by first | rfl | (simp [e0_,e1_] <;> rfl) | (simp [*,e0_,e1_] <;> rfl)),(by first | exact S.r | exact Kd.R_nil _ _ _ _ _),S.below⟩

/-! ### spec_boWith: function 35 -/
def spec_boWith.f (a0_0:Int) (a0_1:Int) (l0_2:List (S27)) (a1:Int) (a2_0:Int) (a2_1:Int):Option (Int × Int × (List (S27))):=(spec_boOwn.f a0_0 a0_1 l0_2).bind fun bt359=>(if 0 ≤ a1 then (if a1 < (bt359.2.2.length:Int) then (some (bt359.1,bt359.2.1,(bt359.2.2.set (a1:Int).toNat (⟨a2_0,a2_1⟩:S27)))) else (none)) else (none))
theorem spec_boWith.calls (a0_0:Int) (a0_1:Int) (A0_2:Option Addr) (c0_2:Nat) (l0_2:List (S27)) (a1:Int) (a2_0:Int) (a2_1:Int) (r1:Int) (r2:Int) (r3:List (S27)) (w:World) (hr0_2:Kd.C k27 w A0_2 l0_2.length l0_2) (hc0_2:l0_2.length ≤ c0_2) (h:spec_boWith.f a0_0 a0_1 l0_2 a1 a2_0 a2_1 = some (r1,r2,r3)) :
    Calls Try.prog 35 #[.agg #[.int .i64 a0_0,.int .i64 a0_1,.slice A0_2 l0_2.length c0_2],.int .i64 a1,.agg #[.int .i64 a2_0,.int .i64 a2_1]] w fun e w'=>∃ v2_:Value,e = .returned (.agg #[.int .i64 r1,.int .i64 r2,v2_])∧Kd.R k27 27 w' w.heap.size (fun _=>True) v2_ r3∧Below w.heap.size w w':=by
 have S:=St.init (w:=w) (dc k27_heap at27 hr0_2 hc0_2 dn)
 clear hr0_2 hc0_2
 have F:=S.fc
 have H:=h;clear h;unfold spec_boWith.f at H
 replace H:=Option.bind_eq_some_iff.mp H;obtain ⟨⟨t359,t360,t361⟩,A4,H⟩:=H;(try dsimp only at H)
 replace H:=np_ H;obtain ⟨c5,H⟩:=H
 replace H:=np_ H;obtain ⟨c6,H⟩:=H
 (first | (with_reducible replace H:=ob_ H;obtain ⟨y365,hy365,H⟩:=H;(try dsimp only at H)) | (obtain ⟨y365,hy365⟩:∃ y_:List (S27),y_ = (t361.set (a1:Int).toNat (⟨a2_0,a2_1⟩:S27)):=⟨_,rfl⟩;(try rw [← hy365] at H);(try simp only [Option.bind_some] at H)));have Ny365:=Aside0.mk hy365;clear hy365
 simp only [Option.some.injEq,Prod.mk.injEq] at H
 obtain ⟨rfl,rfl,rfl⟩:=H
 go_enter Try.func35,Try.ntmps35
 go_wp2_with (first | ((with_reducible refine gd 3 rfl (L ?_));refine bo 3 (.agg #[_,_,_]) S ?_;clear S F;intro gb356 W S;have F:=S.fc) | ((with_reducible refine gd 5 rfl (L ?_));refine bo 5 (.agg #[_,_]) S ?_;clear S F;intro gb357 W S;have F:=S.fc) | ((with_reducible refine gd 6 rfl (L ?_));refine al 6 S zi25 ?_;clear S F;intro gb358 W S;have F:=S.fc) | ((with_reducible refine gate_callee (f:=44) rfl (L ?_));refine cl (some 9) Try.func44 (spec_boOwn.calls _ _ _ _ _ _ _ _ _ S.c S.n A4) (hargs:=by (simp only [ma_,mb_,mc_,F] <;> rfl)) (h:=?_);rintro e W ⟨v362,rfl,ho0,hb⟩;refine ⟨_,rfl,?_⟩;replace S:=S.got at27 hb ho0;obtain ⟨At361,ct361,rfl,S⟩:=S;clear F hb ho0;(try rw [← Ny365.out] at S);have F:=S.fc) | ((with_reducible refine gd 7 rfl (L ?_));refine al 7 S zi25 ?_;clear S F;intro gb364 W S;have F:=S.fc) | ((with_reducible refine gs (t:=25) rfl (L ?_));(first | refine sb (.agg #[_,_,_]) S sz25 ?_ | refine ro (.agg #[_,_,_]) S sz25 ?_ (ho:=rfl) (hx:=rfl) (hy:=rfl));clear S F;intro W S;(try simp only [gd27] at S);(try rw [← Ny365.out] at S);have F:=S.fc) | ((with_reducible refine gs (t:=27) rfl (L ?_));(first | refine sb (.agg #[_,_]) S sz27 ?_ | refine ro (.agg #[_,_]) S sz27 ?_ (ho:=rfl) (hx:=rfl) (hy:=rfl));clear S F;intro W S;(try simp only [gd27] at S);(try rw [← Ny365.out] at S);have F:=S.fc))
 refine bodyPost_ret (results_cell_row rfl _ _ gb358 25 #[.int .i64 t359,.int .i64 t360,.slice At361 t361.length ct361] (0,0) _ rfl S.hb Try.underlying25 rfl (by kernel_rfl)) rfl ?_
 exact ⟨_,(by first | rfl | (simp [e0_,e1_] <;> rfl) | (simp [*,e0_,e1_] <;> rfl)),(by first | exact S.r | exact Kd.R_nil _ _ _ _ _),S.below⟩

/-! ### spec_PutCell: function 6 -/
def spec_PutCell.f (k:Nat) (a0_0:Int) (a0_1:Int) (l0_2:List (S27)) (a1:Int) (a2:Int) (a3_0:Int) (a3_1:Int):Option (Int × Int × (List (S27)) × Bool):=(spec_boHas.f k a0_0 a0_1 l0_2 a1 a2).bind fun t369=>(if t369 = true then ((spec_paGood.f a3_0 a3_1).bind fun t370=>(if t370 = true then ((spec_boWith.f a0_0 a0_1 l0_2 (wrap64 ((wrap64 (a1 * a0_1)) + a2)) a3_0 a3_1).bind fun bt371=>(some (bt371.1,bt371.2.1,bt371.2.2,true))) else (some (0,0,([]:List (S27)),false)))) else (some (0,0,([]:List (S27)),false)))
theorem spec_PutCell.calls (k:Nat) (a0_0:Int) (a0_1:Int) (A0_2:Option Addr) (c0_2:Nat) (l0_2:List (S27)) (a1:Int) (a2:Int) (a3_0:Int) (a3_1:Int) (r1:Int) (r2:Int) (r3:List (S27)) (r4:Bool) (w:World) (hr0_2:Kd.C k27 w A0_2 l0_2.length l0_2) (hc0_2:l0_2.length ≤ c0_2) (h:spec_PutCell.f k a0_0 a0_1 l0_2 a1 a2 a3_0 a3_1 = some (r1,r2,r3,r4)) :
    Calls Try.prog 6 #[.agg #[.int .i64 a0_0,.int .i64 a0_1,.slice A0_2 l0_2.length c0_2],.int .i64 a1,.int .i64 a2,.agg #[.int .i64 a3_0,.int .i64 a3_1]] w fun e w'=>∃ v2_:Value,e = .returned (.tuple #[.agg #[.int .i64 r1,.int .i64 r2,v2_],.bool r4])∧Kd.R k27 27 w' w.heap.size (fun _=>True) v2_ r3∧Below w.heap.size w w':=by
 have S:=St.init (w:=w) (dc k27_heap at27 hr0_2 hc0_2 dn)
 clear hr0_2 hc0_2
 have F:=S.fc
 have H:=h;clear h;unfold spec_PutCell.f at H
 replace H:=Option.bind_eq_some_iff.mp H;obtain ⟨t369,A5,H⟩:=H;(try dsimp only at H)
 replace H:=sp_ H;rcases H with ⟨c6,H⟩ | ⟨c6,H⟩
 · skip
   subst c6
   replace H:=Option.bind_eq_some_iff.mp H;obtain ⟨t370,A7,H⟩:=H;(try dsimp only at H)
   replace H:=sp_ H;rcases H with ⟨c8,H⟩ | ⟨c8,H⟩
   · skip
     subst c8
     replace H:=Option.bind_eq_some_iff.mp H;obtain ⟨⟨t371,t372,t373⟩,A9,H⟩:=H;(try dsimp only at H)
     simp only [Option.some.injEq,Prod.mk.injEq] at H
     obtain ⟨rfl,rfl,rfl,rfl⟩:=H
     go_enter Try.func6,Try.ntmps6
     go_wp2_with (first | ((with_reducible refine gd 4 rfl (L ?_));refine bo 4 (.agg #[_,_,_]) S ?_;clear S F;intro gb366 W S;have F:=S.fc) | ((with_reducible refine gd 7 rfl (L ?_));refine bo 7 (.agg #[_,_]) S ?_;clear S F;intro gb367 W S;have F:=S.fc) | ((with_reducible refine gd 8 rfl (L ?_));refine al 8 S zi25 ?_;clear S F;intro gb368 W S;have F:=S.fc) | ((with_reducible refine gate_callee (f:=33) rfl (L ?_));refine cl (some 13) Try.func33 (spec_boHas.calls _ _ _ _ _ _ _ _ _ _ S.c S.n A5) (hargs:=by (simp only [ma_,mb_,mc_,F] <;> rfl)) (h:=?_);rintro e W ⟨rfl,hb⟩;refine ⟨_,rfl,?_⟩;replace S:=S.go hb;clear F hb;have F:=S.fc) | (go_at_call 34;(try simp only [F]);refine (spec_paGood.calls _ _ _ _ A7).mono ?_;rintro e W ⟨rfl,hb⟩;replace S:=S.go hb;clear F hb;have F:=S.fc) | ((with_reducible refine gate_callee (f:=35) rfl (L ?_));refine cl (some 29) Try.func35 (spec_boWith.calls _ _ _ _ _ _ _ _ _ _ _ _ S.c S.n A9) (hargs:=by (simp only [ma_,mb_,mc_,F] <;> rfl)) (h:=?_);rintro e W ⟨v374,rfl,ho0,hb⟩;refine ⟨_,rfl,?_⟩;replace S:=S.got at27 hb ho0;obtain ⟨At373,ct373,rfl,S⟩:=S;clear F hb ho0;have F:=S.fc) | ((with_reducible refine gs (t:=25) rfl (L ?_));(first | refine sb (.agg #[_,_,_]) S sz25 ?_ | refine ro (.agg #[_,_,_]) S sz25 ?_ (ho:=rfl) (hx:=rfl) (hy:=rfl));(clear S F;intro W S;have F:=S.fc)))
     refine bodyPost_ret (results_ct rfl _ _ gb368 25 #[.int .i64 t371,.int .i64 t372,.slice At373 t373.length ct373] (0,0) _ rfl S.hb Try.underlying25 rfl (by kernel_rfl)) rfl ?_
     exact ⟨_,(by first | rfl | (simp [e0_,e1_] <;> rfl) | (simp [*,e0_,e1_] <;> rfl)),(by first | exact S.r | exact Kd.R_nil _ _ _ _ _),S.below⟩
   · skip
     replace c8:=cbf c8;subst c8
     simp only [Option.some.injEq,Prod.mk.injEq] at H
     obtain ⟨rfl,rfl,rfl,rfl⟩:=H
     go_enter Try.func6,Try.ntmps6
     go_wp2_with (first | ((with_reducible refine gd 4 rfl (L ?_));refine bo 4 (.agg #[_,_,_]) S ?_;clear S F;intro gb366 W S;have F:=S.fc) | ((with_reducible refine gd 7 rfl (L ?_));refine bo 7 (.agg #[_,_]) S ?_;clear S F;intro gb367 W S;have F:=S.fc) | ((with_reducible refine gd 8 rfl (L ?_));refine al 8 S zi25 ?_;clear S F;intro gb368 W S;have F:=S.fc) | ((with_reducible refine gate_callee (f:=33) rfl (L ?_));refine cl (some 13) Try.func33 (spec_boHas.calls _ _ _ _ _ _ _ _ _ _ S.c S.n A5) (hargs:=by (simp only [ma_,mb_,mc_,F] <;> rfl)) (h:=?_);rintro e W ⟨rfl,hb⟩;refine ⟨_,rfl,?_⟩;replace S:=S.go hb;clear F hb;have F:=S.fc) | (go_at_call 34;(try simp only [F]);refine (spec_paGood.calls _ _ _ _ A7).mono ?_;rintro e W ⟨rfl,hb⟩;replace S:=S.go hb;clear F hb;have F:=S.fc) | ((with_reducible refine gs (t:=25) rfl (L ?_));(first | refine sb (.agg #[_,_,_]) S sz25 ?_ | refine ro (.agg #[_,_,_]) S sz25 ?_ (ho:=rfl) (hx:=rfl) (hy:=rfl));(clear S F;intro W S;have F:=S.fc)))
     refine bodyPost_ret (results_ct rfl _ _ gb368 25 #[.int .i64 0,.int .i64 0,.slice none 0 0] (0,0) _ rfl S.hb Try.underlying25 rfl (by kernel_rfl)) rfl ?_
     exact ⟨_,(by first | rfl | (simp [e0_,e1_] <;> rfl) | (simp [*,e0_,e1_] <;> rfl)),(by first | exact S.r | exact Kd.R_nil _ _ _ _ _),S.below⟩
 · skip
   replace c6:=cbf c6;subst c6
   simp only [Option.some.injEq,Prod.mk.injEq] at H
   obtain ⟨rfl,rfl,rfl,rfl⟩:=H
   go_enter Try.func6,Try.ntmps6
   go_wp2_with (first | ((with_reducible refine gd 4 rfl (L ?_));refine bo 4 (.agg #[_,_,_]) S ?_;clear S F;intro gb366 W S;have F:=S.fc) | ((with_reducible refine gd 7 rfl (L ?_));refine bo 7 (.agg #[_,_]) S ?_;clear S F;intro gb367 W S;have F:=S.fc) | ((with_reducible refine gd 8 rfl (L ?_));refine al 8 S zi25 ?_;clear S F;intro gb368 W S;have F:=S.fc) | ((with_reducible refine gate_callee (f:=33) rfl (L ?_));refine cl (some 13) Try.func33 (spec_boHas.calls _ _ _ _ _ _ _ _ _ _ S.c S.n A5) (hargs:=by (simp only [ma_,mb_,mc_,F] <;> rfl)) (h:=?_);rintro e W ⟨rfl,hb⟩;refine ⟨_,rfl,?_⟩;replace S:=S.go hb;clear F hb;have F:=S.fc) | ((with_reducible refine gs (t:=25) rfl (L ?_));(first | refine sb (.agg #[_,_,_]) S sz25 ?_ | refine ro (.agg #[_,_,_]) S sz25 ?_ (ho:=rfl) (hx:=rfl) (hy:=rfl));(clear S F;intro W S;have F:=S.fc)))
   refine bodyPost_ret (results_ct rfl _ _ gb368 25 #[.int .i64 0,.int .i64 0,.slice none 0 0] (0,0) _ rfl S.hb Try.underlying25 rfl (by kernel_rfl)) rfl ?_
   exact ⟨_,(by first | rfl | (simp [e0_,e1_] <;> rfl) | (simp [*,e0_,e1_] <;> rfl)),(by first | exact S.r | exact Kd.R_nil _ _ _ _ _),S.below⟩

/-! ### spec_l1Least: function 39 -/
def spec_l1Least.f (a0:Int) (a1:Int):Option (Int):=if a0 < a1 then (some a0) else (some a1)
theorem spec_l1Least.calls (a0:Int) (a1:Int) (r:Int) (w:World) (h:spec_l1Least.f a0 a1 = some r) :
  Calls Try.prog 39 #[.int .i64 a0,.int .i64 a1] w fun e w'=>e = .returned (.int .i64 r)∧Drawn0 w w':=by
 have H:(if a0 < a1 then (some a0) else (some a1)) = some r:=h;clear h;by_cases c3:a0 < a1
 ·rw [if_pos c3] at H;have c3b0:decide (a0 < a1) = true:=decide_eq_true c3;clear c3;obtain rfl:=Option.some.inj H;go_enter Try.func39,Try.ntmps39;go_wp2;go_ret;exact ⟨by first | rfl | (simp;done) | (simp [*];done),by repeat (first | exact Drawn0.refl _ | apply Drawn0.step)⟩
 ·rw [if_neg c3] at H;have c3b0:decide (a0 < a1) = false:=decide_eq_false c3;clear c3;obtain rfl:=Option.some.inj H;go_enter Try.func39,Try.ntmps39;go_wp2;go_ret;exact ⟨by first | rfl | (simp;done) | (simp [*];done),by repeat (first | exact Drawn0.refl _ | apply Drawn0.step)⟩

/-! ### spec_DrawStackBoards: function 7 -/
def spec_DrawStackBoards.j0:Nat→Int→List Int→Int→Int→Int→Int→List (S27)→Option (Int × Int × (List (S27)) × Int × Int × (List (S27)))
  | 0,_,_,_,_,_,_,_=>none
  | k + 1,x6,x379000,x379001,x379002,x387000,x387001,x387002=>(spec_l1Least.f 9 x387001).bind fun t397=>((spec_l1Most.f 1 t397).bind fun t398=>((spec_l1Cur_one.f x379000 x379001 x379002 12).bind fun bt399=>(if bt399.1 = true then ((spec_l1Cur_pick.f x379000 bt399.2.1 bt399.2.2 5).bind fun bt402=>((spec_l1Least.f x6 10).bind fun t405=>((spec_l1Cur_boardOf.f k x379000 bt402.2.1 bt402.2.2 t405 (wrap64 (1 + bt402.1))).bind fun bt406=>(some (x387000,x387001,x387002,bt406.1,bt406.2.1,bt406.2.2.1))))) else ((spec_l1Least.f x6 10).bind fun t413=>((spec_l1Cur_boardOf.f k x379000 bt399.2.1 bt399.2.2 t413 t398).bind fun bt414=>(some (x387000,x387001,x387002,bt414.1,bt414.2.1,bt414.2.2.1)))))))
def spec_DrawStackBoards.f (k:Nat) (l0:List Int):Option (Int × Int × (List (S27)) × Int × Int × (List (S27))):=(spec_l1Cur_anyBoard.f k l0 0 0).bind fun bt379=>((spec_l1Cur_pick.f l0 bt379.2.2.2.1 bt379.2.2.2.2 5).bind fun bt387=>((spec_l1Cur_one.f l0 bt387.2.1 bt387.2.2 6).bind fun bt390=>(if bt390.1 = true then ((spec_l1Cur_pick.f l0 bt390.2.1 bt390.2.2 2).bind fun bt393=>((spec_l1Most.f 1 (wrap64 ((wrap64 (10 - bt379.1)) + bt393.1))).bind fun t396=>(spec_DrawStackBoards.j0 k t396 l0 bt393.2.1 bt393.2.2 bt379.1 bt379.2.1 bt379.2.2.1))) else (spec_DrawStackBoards.j0 k (wrap64 (1 + bt387.1)) l0 bt390.2.1 bt390.2.2 bt379.1 bt379.2.1 bt379.2.2.1))))
theorem spec_DrawStackBoards.calls (k:Nat) (A0:Option Addr) (c0:Nat) (l0:List Int) (r1:Int) (r2:Int) (r3:List (S27)) (r4:Int) (r5:Int) (r6:List (S27)) (w:World) (hr0:Kd.C (Kd.int .u8) w A0 l0.length l0) (hc0:l0.length ≤ c0) (h:spec_DrawStackBoards.f k l0 = some (r1,r2,r3,r4,r5,r6)) :
    Calls Try.prog 7 #[.slice A0 l0.length c0] w fun e w'=>∃ v2_ v5_:Value,e = .returned (.tuple #[.agg #[.int .i64 r1,.int .i64 r2,v2_],.agg #[.int .i64 r4,.int .i64 r5,v5_]])∧Kd.Q k27 27 w' w.heap.size (fun k_=>some k_ ≠ (v5_:Value).ownBlock) v2_ r3∧Kd.R k27 27 w' w.heap.size (fun k_=>some k_ ≠ (v2_:Value).ownBlock) v5_ r6∧Below w.heap.size w w':=by
 have S:=St.init (w:=w) (dc (Kd.heap_int .u8) (atI .u8) hr0 hc0 dn)
 clear hc0
 have F:=S.fc
 have H:=h;clear h;unfold spec_DrawStackBoards.f at H
 replace H:=Option.bind_eq_some_iff.mp H;obtain ⟨⟨t379,t380,t381,t384,t385⟩,A2,H⟩:=H;(try dsimp only at H)
 replace H:=Option.bind_eq_some_iff.mp H;obtain ⟨⟨t387,t388,t389⟩,A3,H⟩:=H;(try dsimp only at H)
 replace H:=Option.bind_eq_some_iff.mp H;obtain ⟨⟨t390,t391,t392⟩,A4,H⟩:=H;(try dsimp only at H)
 go_enter Try.func7,Try.ntmps7
 go_upto_if 17 with (first | ((with_reducible refine gd 2 rfl (L ?_));refine al 2 S zi25 ?_;clear S F;intro gb376 W S;have F:=S.fc) | ((with_reducible refine gd 3 rfl (L ?_));refine al 3 S zi25 ?_;clear S F;intro gb377 W S;have F:=S.fc) | ((with_reducible refine gd 10 rfl (L ?_));refine bo 10 (.agg #[_,_,_]) S ?_;clear S F;intro gb378 W S;have F:=S.fc) | ((with_reducible refine gate_callee (f:=26) rfl (L ?_));refine cl (some 12) Try.func26 (spec_l1Cur_anyBoard.calls _ gb378 _ _ _ _ _ _ _ _ _ _ _ _ S.hb (S.hge gb378) hr0 S.below A2) (hargs:=by (simp only [ma_,mb_,mc_,F] <;> rfl)) (h:=?_);rintro e W ⟨v382,rfl,ho0,hi,hb,hk⟩;refine ⟨_,rfl,?_⟩;obtain ⟨W_,hs_,hm_,S⟩:=S.mid gb378 hi hb hk;rw [← hs_] at ho0;replace S:=S.gotq at27 hm_ ho0;obtain ⟨At381,ct381,rfl,S⟩:=S;clear F hi hb hk hs_ hm_ ho0;have F:=S.fc) | ((with_reducible refine gd 5 rfl (L ?_));refine al 5 S zi25 ?_;clear S F;intro gb386 W S;have F:=S.fc) | ((with_reducible refine gate_callee (f:=36) rfl (L ?_));refine cl (some 14) Try.func36 (spec_l1Cur_pick.calls gb378 _ _ _ _ _ _ _ _ _ _ _ S.hb (S.hge gb378) hr0 S.below A3) (hargs:=by (simp only [ma_,mb_,mc_,F] <;> rfl)) (h:=?_);rintro e W ⟨rfl,hi,hb,hk⟩;refine ⟨_,rfl,?_⟩;obtain ⟨W_,hs_,hm_,S⟩:=S.mid gb378 hi hb hk;replace S:=S.go hm_;clear F hi hb hk hs_ hm_ ;have F:=S.fc) | ((with_reducible refine gate_callee (f:=37) rfl (L ?_));refine cl (some 17) Try.func37 (spec_l1Cur_one.calls gb378 _ _ _ _ _ _ _ _ _ _ _ S.hb (S.hge gb378) hr0 S.below A4) (hargs:=by (simp only [ma_,mb_,mc_,F] <;> rfl)) (h:=?_);rintro e W ⟨rfl,hi,hb,hk⟩;refine ⟨_,rfl,?_⟩;obtain ⟨W_,hs_,hm_,S⟩:=S.mid gb378 hi hb hk;replace S:=S.go hm_;clear F hi hb hk hs_ hm_ ;have F:=S.fc) | ((with_reducible refine gs (t:=25) rfl (L ?_));(first | refine sb (.agg #[_,_,_]) S sz25 ?_ | refine ro (.agg #[_,_,_]) S sz25 ?_ (ho:=rfl) (hx:=rfl) (hy:=rfl));(clear S F;intro W S;have F:=S.fc)))
 (try simp only [Act.put,List.setIfInBounds_toArray,List.set_cons_zero,List.set_cons_succ])
 go_cut [6] (fun v6 wc=>∃ (kq:Nat) (x6_4:Int) (x379001_4:Int) (x379002_4:Int),v6 = .int .i64 x6_4∧spec_DrawStackBoards.j0 kq x6_4 l0 x379001_4 x379002_4 t379 t380 t381 = some (r1,r2,r3,r4,r5,r6)∧kq ≤ k∧St w w (fun _=>False) [bor (atI .u8) A0 c0 l0] wc  [box gb386 25 [.int .i64 t379,.int .i64 t380,.slice At381 t381.length ct381],qrow at27 27 At381 t381.length ct381 t381,box gb378 51 [.slice A0 l0.length c0,.int .i64 x379001_4,.int .u64 x379002_4],box gb377 25 [.int .i64 0,.int .i64 0,.slice none 0 0],box gb376 25 [.int .i64 0,.int .i64 0,.slice none 0 0]])
 case first =>
  replace H:=sp_ H;rcases H with ⟨c18,H⟩ | ⟨c18,H⟩
  · skip
    subst c18
    replace H:=Option.bind_eq_some_iff.mp H;obtain ⟨⟨t393,t394,t395⟩,A19,H⟩:=H;(try dsimp only at H)
    replace H:=Option.bind_eq_some_iff.mp H;obtain ⟨t396,A20,H⟩:=H;(try dsimp only at H)
    go_wp2_with (first | ((with_reducible refine gs (t:=25) rfl (L ?_));(first | refine sb (.agg #[_,_,_]) S sz25 ?_ | refine ro (.agg #[_,_,_]) S sz25 ?_ (ho:=rfl) (hx:=rfl) (hy:=rfl));(clear S F;intro W S;have F:=S.fc)))
    refine rgP S (fun _ S=>(S.pm [0,1,3,4])) [(0,0),(0,3),(1,1),(0,2),(2,4),(0,5),(2,6),(0,7)] [] (by kernel_rfl) (by kernel_rfl) (fun _ d _ _ _ h=>by cases d <;> exact h) ?_;clear S F;intro W S;have S0:=(S.pm [0,1,3,4]);have F:=S.fc
    repeat (first | (refine q0 (h:=?_)) | (refine q1 S0 (h:=?_)) | (refine q0n (h:=?_)) | (refine q1n S0 (h:=?_)))
    refine lk2 (by rfl) (by exact (Eq.refl true)) ?_;refine cl (some 22) Try.func36 (spec_l1Cur_pick.calls gb378 _ _ _ _ _ _ _ _ _ _ _ S.hb (S.hge gb378) hr0 S.below A19) (hargs:=by (simp only [ma_,mb_,mc_,F] <;> rfl)) (h:=?_);rintro e W ⟨rfl,hi,hb,hk⟩;refine ⟨_,rfl,?_⟩;obtain ⟨W_,hs_,hm_,S⟩:=S.mid gb378 hi hb hk;replace S:=S.go hm_;clear F hi hb hk hs_ hm_ ;have F:=S.fc
    clear S0;have S0:=(S.pm [0,1,3,4]);refine ⟨S0,?_⟩
    repeat (first | (refine q0 (h:=?_)) | (refine q1 S0 (h:=?_)) | (refine q0n (h:=?_)) | (refine q1n S0 (h:=?_)))
    refine lk2 (by rfl) (by exact (Eq.refl true)) ?_;refine cl (some 24) Try.func38 (spec_l1Most.calls _ _ _ _ A20) (hargs:=by (simp only [ma_,mb_,mc_,F] <;> rfl)) (h:=?_);rintro e W ⟨rfl,hb⟩;refine ⟨_,rfl,?_⟩;replace S:=S.gw hb;clear F hb;have F:=S.fc
    clear S0;have S0:=(S.pm [0,1,3,4]);refine ⟨S0,?_⟩
    repeat (first | (refine q0 (h:=?_)) | (refine q1 S0 (h:=?_)) | (refine q0n (h:=?_)) | (refine q1n S0 (h:=?_)))
    refine oz ?_
    try clear S0
    go_wp2_with (first | ((with_reducible refine gs (t:=25) rfl (L ?_));(first | refine sb (.agg #[_,_,_]) S sz25 ?_ | refine ro (.agg #[_,_,_]) S sz25 ?_ (ho:=rfl) (hx:=rfl) (hy:=rfl));(clear S F;intro W S;have F:=S.fc)))
    go_meet
    case rel=>exact ⟨_,t396,t394,t395,(by first | rfl | (simp;done) | (simp [*];done) | (rw [w6_ (by omega) (by omega)])),H,(by first | omega | exact Nat.le_refl _),S⟩
  · skip
    replace c18:=cbf c18;subst c18
    go_wp2_with (first | ((with_reducible refine gs (t:=25) rfl (L ?_));(first | refine sb (.agg #[_,_,_]) S sz25 ?_ | refine ro (.agg #[_,_,_]) S sz25 ?_ (ho:=rfl) (hx:=rfl) (hy:=rfl));(clear S F;intro W S;have F:=S.fc)))
    go_meet
    case rel=>exact ⟨_,(wrap64 (1 + t387)),t391,t392,(by first | rfl | (simp;done) | (simp [*];done) | (rw [w6_ (by omega) (by omega)])),H,(by first | omega | exact Nat.le_refl _),S⟩
 case rest =>
  clear H S F
  obtain ⟨kq,x6_4,x379001_4,x379002_4,rfl,HA,HJ4,S⟩:=hcut
  have F:=S.fc
  cases kq with
  | zero=>exact absurd HA (by simp [spec_DrawStackBoards.j0])
  | succ kj4 =>
   have H:=HA;clear HA;simp only [spec_DrawStackBoards.j0,F] at H
   replace H:=Option.bind_eq_some_iff.mp H;obtain ⟨t397,A23,H⟩:=H;(try dsimp only at H)
   replace H:=Option.bind_eq_some_iff.mp H;obtain ⟨t398,A24,H⟩:=H;(try dsimp only at H)
   replace H:=Option.bind_eq_some_iff.mp H;obtain ⟨⟨t399,t400,t401⟩,A25,H⟩:=H;(try dsimp only at H)
   replace H:=sp_ H;rcases H with ⟨c26,H⟩ | ⟨c26,H⟩
   · skip
     subst c26
     replace H:=Option.bind_eq_some_iff.mp H;obtain ⟨⟨t402,t403,t404⟩,A27,H⟩:=H;(try dsimp only at H)
     replace H:=Option.bind_eq_some_iff.mp H;obtain ⟨t405,A28,H⟩:=H;(try dsimp only at H)
     replace H:=Option.bind_eq_some_iff.mp H;obtain ⟨⟨t406,t407,t408,t411,t412⟩,A29,H⟩:=H;(try dsimp only at H)
     simp only [Option.some.injEq,Prod.mk.injEq] at H
     obtain ⟨rfl,rfl,rfl,rfl,rfl,rfl⟩:=H
     go_wp2_with (first | ((with_reducible refine gate_callee (f:=39) rfl (L ?_));refine cl (some 27) Try.func39 (spec_l1Least.calls _ _ _ _ A23) (hargs:=by (simp only [ma_,mb_,mc_,F] <;> rfl)) (h:=?_);rintro e W ⟨rfl,hb⟩;refine ⟨_,rfl,?_⟩;replace S:=S.gw hb;clear F hb;have F:=S.fc) | ((with_reducible refine gate_callee (f:=38) rfl (L ?_));refine cl (some 28) Try.func38 (spec_l1Most.calls _ _ _ _ A24) (hargs:=by (simp only [ma_,mb_,mc_,F] <;> rfl)) (h:=?_);rintro e W ⟨rfl,hb⟩;refine ⟨_,rfl,?_⟩;replace S:=S.gw hb;clear F hb;have F:=S.fc) | ((with_reducible refine gate_callee (f:=37) rfl (L ?_));refine cl (some 30) Try.func37 (spec_l1Cur_one.calls gb378 _ _ _ _ _ _ _ _ _ _ _ S.hb (S.hge gb378) hr0 S.below A25) (hargs:=by (simp only [ma_,mb_,mc_,F] <;> rfl)) (h:=?_);rintro e W ⟨rfl,hi,hb,hk⟩;refine ⟨_,rfl,?_⟩;obtain ⟨W_,hs_,hm_,S⟩:=S.mid gb378 hi hb hk;replace S:=S.go hm_;clear F hi hb hk hs_ hm_ ;have F:=S.fc) | ((with_reducible refine gate_callee (f:=36) rfl (L ?_));refine cl (some 32) Try.func36 (spec_l1Cur_pick.calls gb378 _ _ _ _ _ _ _ _ _ _ _ S.hb (S.hge gb378) hr0 S.below A27) (hargs:=by (simp only [ma_,mb_,mc_,F] <;> rfl)) (h:=?_);rintro e W ⟨rfl,hi,hb,hk⟩;refine ⟨_,rfl,?_⟩;obtain ⟨W_,hs_,hm_,S⟩:=S.mid gb378 hi hb hk;replace S:=S.go hm_;clear F hi hb hk hs_ hm_ ;have F:=S.fc) | ((with_reducible refine gs (t:=25) rfl (L ?_));(first | refine sb (.agg #[_,_,_]) S sz25 ?_ | refine ro (.agg #[_,_,_]) S sz25 ?_ (ho:=rfl) (hx:=rfl) (hy:=rfl));(clear S F;intro W S;have F:=S.fc)))
     refine rgP S (fun _ S=>(S.pm [0,1])) [(0,1),(0,2),(0,4),(1,0),(2,3),(2,5),(2,6),(2,7)] [] (by kernel_rfl) (by kernel_rfl) (fun _ d _ _ _ h=>by cases d <;> exact h) ?_;clear S F;intro W S;have S0:=(S.pm [0,1]);have F:=S.fc
     repeat (first | (refine q0 (h:=?_)) | (refine q1 S0 (h:=?_)) | (refine q0n (h:=?_)) | (refine q1n S0 (h:=?_)))
     refine lk2 (by rfl) (by exact (Eq.refl true)) ?_;refine cl (some 37) Try.func39 (spec_l1Least.calls _ _ _ _ A28) (hargs:=by (simp only [ma_,mb_,mc_,F] <;> rfl)) (h:=?_);rintro e W ⟨rfl,hb⟩;refine ⟨_,rfl,?_⟩;replace S:=S.gw hb;clear F hb;have F:=S.fc
     clear S0;have S0:=(S.pm [0,1]);refine ⟨S0,?_⟩
     refine lk2 (by rfl) (by exact (Eq.refl true)) ?_;refine cl (some 39) Try.func40 (spec_l1Cur_boardOf.calls _ gb378 _ _ _ _ _ _ _ _ _ _ _ _ _ _ S.hb (S.hge gb378) hr0 S.below A29) (hargs:=by (simp only [ma_,mb_,mc_,F] <;> rfl)) (h:=?_);rintro e W ⟨v409,rfl,ho0,hi,hb,hk⟩;refine ⟨_,rfl,?_⟩;obtain ⟨W_,hs_,hm_,S⟩:=S.mid gb378 hi hb hk;rw [← hs_] at ho0;replace S:=S.got at27 hm_ ho0;obtain ⟨At408,ct408,rfl,S⟩:=S;clear F hi hb hk hs_ hm_ ho0;have F:=S.fc
     clear S0;have S0:=(S.pm [1,2]);refine ⟨S0,?_⟩
     refine lk2 (by rfl) (by exact (Eq.refl true)) ?_;(first | refine sb (.agg #[_,_,_]) S sz25 ?_ | refine ro (.agg #[_,_,_]) S sz25 ?_ (ho:=rfl) (hx:=rfl) (hy:=rfl));(clear S F;intro W S;have F:=S.fc)
     clear S0;have S0:=(S.pm [1,2]);refine ⟨S0,?_⟩
     refine lk2 (by rfl) (by exact (Eq.refl true)) ?_;(first | refine sb (.agg #[_,_,_]) S sz25 ?_ | refine ro (.agg #[_,_,_]) S sz25 ?_ (ho:=rfl) (hx:=rfl) (hy:=rfl));(clear S F;intro W S;have F:=S.fc)
     clear S0;have S0:=(S.pm [1,2]);refine ⟨S0,?_⟩
     refine oz ?_
     try clear S0
     go_wp2_with (first | ((with_reducible refine gs (t:=25) rfl (L ?_));(first | refine sb (.agg #[_,_,_]) S sz25 ?_ | refine ro (.agg #[_,_,_]) S sz25 ?_ (ho:=rfl) (hx:=rfl) (hy:=rfl));(clear S F;intro W S;have F:=S.fc)))
     refine bodyPost_ret (results_cc rfl _ _ gb376 gb377 25 25 #[.int .i64 t379,.int .i64 t380,.slice At381 t381.length ct381] #[.int .i64 t406,.int .i64 t407,.slice At408 t408.length ct408] (0,0) (0,0) _ _ rfl S.hb Try.underlying25 rfl (by kernel_rfl) rfl S.hb Try.underlying25 rfl (by kernel_rfl)) rfl ?_
     exact ⟨_,_,(by first | rfl | (simp [e0_,e1_] <;> rfl) | (simp [*,e0_,e1_] <;> rfl)),(by first | exact S.qr | exact S.qq | exact Kd.Q_of_R S.rn | exact Kd.Q_of_R S.rq | exact Kd.Q_nil _ _ _ _ _),(by first | exact S.rq | exact S.rn | exact Kd.R_nil _ _ _ _ _),S.below⟩
   · skip
     replace c26:=cbf c26;subst c26
     replace H:=Option.bind_eq_some_iff.mp H;obtain ⟨t413,A45,H⟩:=H;(try dsimp only at H)
     replace H:=Option.bind_eq_some_iff.mp H;obtain ⟨⟨t414,t415,t416,t419,t420⟩,A46,H⟩:=H;(try dsimp only at H)
     simp only [Option.some.injEq,Prod.mk.injEq] at H
     obtain ⟨rfl,rfl,rfl,rfl,rfl,rfl⟩:=H
     go_wp2_with (first | ((with_reducible refine gate_callee (f:=39) rfl (L ?_));refine cl (some 27) Try.func39 (spec_l1Least.calls _ _ _ _ A23) (hargs:=by (simp only [ma_,mb_,mc_,F] <;> rfl)) (h:=?_);rintro e W ⟨rfl,hb⟩;refine ⟨_,rfl,?_⟩;replace S:=S.gw hb;clear F hb;have F:=S.fc) | ((with_reducible refine gate_callee (f:=38) rfl (L ?_));refine cl (some 28) Try.func38 (spec_l1Most.calls _ _ _ _ A24) (hargs:=by (simp only [ma_,mb_,mc_,F] <;> rfl)) (h:=?_);rintro e W ⟨rfl,hb⟩;refine ⟨_,rfl,?_⟩;replace S:=S.gw hb;clear F hb;have F:=S.fc) | ((with_reducible refine gate_callee (f:=37) rfl (L ?_));refine cl (some 30) Try.func37 (spec_l1Cur_one.calls gb378 _ _ _ _ _ _ _ _ _ _ _ S.hb (S.hge gb378) hr0 S.below A25) (hargs:=by (simp only [ma_,mb_,mc_,F] <;> rfl)) (h:=?_);rintro e W ⟨rfl,hi,hb,hk⟩;refine ⟨_,rfl,?_⟩;obtain ⟨W_,hs_,hm_,S⟩:=S.mid gb378 hi hb hk;replace S:=S.go hm_;clear F hi hb hk hs_ hm_ ;have F:=S.fc) | ((with_reducible refine gs (t:=25) rfl (L ?_));(first | refine sb (.agg #[_,_,_]) S sz25 ?_ | refine ro (.agg #[_,_,_]) S sz25 ?_ (ho:=rfl) (hx:=rfl) (hy:=rfl));(clear S F;intro W S;have F:=S.fc)))
     refine rgP S (fun _ S=>(S.pm [0,1])) [(0,1),(0,2),(0,4),(1,0),(2,3),(2,5),(2,6),(2,7)] [] (by kernel_rfl) (by kernel_rfl) (fun _ d _ _ _ h=>by cases d <;> exact h) ?_;clear S F;intro W S;have S0:=(S.pm [0,1]);have F:=S.fc
     repeat (first | (refine q0 (h:=?_)) | (refine q1 S0 (h:=?_)) | (refine q0n (h:=?_)) | (refine q1n S0 (h:=?_)))
     refine lk2 (by rfl) (by exact (Eq.refl true)) ?_;refine cl (some 37) Try.func39 (spec_l1Least.calls _ _ _ _ A45) (hargs:=by (simp only [ma_,mb_,mc_,F] <;> rfl)) (h:=?_);rintro e W ⟨rfl,hb⟩;refine ⟨_,rfl,?_⟩;replace S:=S.gw hb;clear F hb;have F:=S.fc
     clear S0;have S0:=(S.pm [0,1]);refine ⟨S0,?_⟩
     refine lk2 (by rfl) (by exact (Eq.refl true)) ?_;refine cl (some 39) Try.func40 (spec_l1Cur_boardOf.calls _ gb378 _ _ _ _ _ _ _ _ _ _ _ _ _ _ S.hb (S.hge gb378) hr0 S.below A46) (hargs:=by (simp only [ma_,mb_,mc_,F] <;> rfl)) (h:=?_);rintro e W ⟨v417,rfl,ho0,hi,hb,hk⟩;refine ⟨_,rfl,?_⟩;obtain ⟨W_,hs_,hm_,S⟩:=S.mid gb378 hi hb hk;rw [← hs_] at ho0;replace S:=S.got at27 hm_ ho0;obtain ⟨At416,ct416,rfl,S⟩:=S;clear F hi hb hk hs_ hm_ ho0;have F:=S.fc
     clear S0;have S0:=(S.pm [1,2]);refine ⟨S0,?_⟩
     refine lk2 (by rfl) (by exact (Eq.refl true)) ?_;(first | refine sb (.agg #[_,_,_]) S sz25 ?_ | refine ro (.agg #[_,_,_]) S sz25 ?_ (ho:=rfl) (hx:=rfl) (hy:=rfl));(clear S F;intro W S;have F:=S.fc)
     clear S0;have S0:=(S.pm [1,2]);refine ⟨S0,?_⟩
     refine lk2 (by rfl) (by exact (Eq.refl true)) ?_;(first | refine sb (.agg #[_,_,_]) S sz25 ?_ | refine ro (.agg #[_,_,_]) S sz25 ?_ (ho:=rfl) (hx:=rfl) (hy:=rfl));(clear S F;intro W S;have F:=S.fc)
     clear S0;have S0:=(S.pm [1,2]);refine ⟨S0,?_⟩
     refine oz ?_
     try clear S0
     go_wp2_with (first | ((with_reducible refine gs (t:=25) rfl (L ?_));(first | refine sb (.agg #[_,_,_]) S sz25 ?_ | refine ro (.agg #[_,_,_]) S sz25 ?_ (ho:=rfl) (hx:=rfl) (hy:=rfl));(clear S F;intro W S;have F:=S.fc)))
     refine bodyPost_ret (results_cc rfl _ _ gb376 gb377 25 25 #[.int .i64 t379,.int .i64 t380,.slice At381 t381.length ct381] #[.int .i64 t414,.int .i64 t415,.slice At416 t416.length ct416] (0,0) (0,0) _ _ rfl S.hb Try.underlying25 rfl (by kernel_rfl) rfl S.hb Try.underlying25 rfl (by kernel_rfl)) rfl ?_
     exact ⟨_,_,(by first | rfl | (simp [e0_,e1_] <;> rfl) | (simp [*,e0_,e1_] <;> rfl)),(by first | exact S.qr | exact S.qq | exact Kd.Q_of_R S.rn | exact Kd.Q_of_R S.rq | exact Kd.Q_nil _ _ _ _ _),(by first | exact S.rq | exact S.rn | exact Kd.R_nil _ _ _ _ _),S.below⟩

/-! ### impl_StackBoards: function 8 -/
def impl_StackBoards.f (k:Nat) (a0_0:Int) (a0_1:Int) (l0_2:List (S27)) (a1_0:Int) (a1_1:Int) (l1_2:List (S27)):Option (Int × Int × (List (S27)) × Bool):=(impl_IsBoard.f k a0_0 a0_1 l0_2).bind fun t424=>(if t424 = true then ((impl_IsBoard.f k a1_0 a1_1 l1_2).bind fun t425=>(if t425 = true then (if a0_1 = a1_1 then (if (wrap64 (a0_0 + a1_0)) > 10 then (some (0,0,([]:List (S27)),false)) else ((impl_copyBoard.f a0_0 a0_1 l0_2).bind fun bt426=>(if bt426.2.2.length + l1_2.length < 8796093022208 then (some (wrap64 (bt426.1 + a1_0),bt426.2.1,(bt426.2.2 ++ l1_2),true)) else (none)))) else (some (0,0,([]:List (S27)),false))) else (some (0,0,([]:List (S27)),false)))) else (some (0,0,([]:List (S27)),false)))
theorem impl_StackBoards.calls (k:Nat) (a0_0:Int) (a0_1:Int) (A0_2:Option Addr) (c0_2:Nat) (l0_2:List (S27)) (a1_0:Int) (a1_1:Int) (A1_2:Option Addr) (c1_2:Nat) (l1_2:List (S27)) (r1:Int) (r2:Int) (r3:List (S27)) (r4:Bool) (w:World) (hr0_2:Kd.C k27 w A0_2 l0_2.length l0_2) (hc0_2:l0_2.length ≤ c0_2) (hr1_2:Kd.C k27 w A1_2 l1_2.length l1_2) (hc1_2:l1_2.length ≤ c1_2) (h:impl_StackBoards.f k a0_0 a0_1 l0_2 a1_0 a1_1 l1_2 = some (r1,r2,r3,r4)) :
    Calls Try.prog 8 #[.agg #[.int .i64 a0_0,.int .i64 a0_1,.slice A0_2 l0_2.length c0_2],.agg #[.int .i64 a1_0,.int .i64 a1_1,.slice A1_2 l1_2.length c1_2]] w fun e w'=>∃ v2_:Value,e = .returned (.tuple #[.agg #[.int .i64 r1,.int .i64 r2,v2_],.bool r4])∧Kd.R k27 27 w' w.heap.size (fun _=>True) v2_ r3∧Below w.heap.size w w':=by
 have S:=St.init (w:=w) (dc k27_heap at27 hr0_2 hc0_2 (dc k27_heap at27 hr1_2 hc1_2 dn))
 clear hr0_2 hc0_2 hr1_2 hc1_2
 have F:=S.fc
 have H:=h;clear h;unfold impl_StackBoards.f at H
 replace H:=Option.bind_eq_some_iff.mp H;obtain ⟨t424,A3,H⟩:=H;(try dsimp only at H)
 replace H:=sp_ H;rcases H with ⟨c4,H⟩ | ⟨c4,H⟩
 · skip
   subst c4
   replace H:=Option.bind_eq_some_iff.mp H;obtain ⟨t425,A5,H⟩:=H;(try dsimp only at H)
   replace H:=sp_ H;rcases H with ⟨c6,H⟩ | ⟨c6,H⟩
   · skip
     subst c6
     replace H:=sp_ H;rcases H with ⟨c7,H⟩ | ⟨c7,H⟩
     · skip
       replace c7:=ceq c7
       replace H:=sp_ H;rcases H with ⟨c8,H⟩ | ⟨c8,H⟩
       · skip
         simp only [Option.some.injEq,Prod.mk.injEq] at H
         obtain ⟨rfl,rfl,rfl,rfl⟩:=H
         go_enter Try.func8,Try.ntmps8
         go_wp2_with (first | ((with_reducible refine gd 2 rfl (L ?_));refine bo 2 (.agg #[_,_,_]) S ?_;clear S F;intro gb421 W S;have F:=S.fc) | ((with_reducible refine gd 3 rfl (L ?_));refine bo 3 (.agg #[_,_,_]) S ?_;clear S F;intro gb422 W S;have F:=S.fc) | ((with_reducible refine gd 4 rfl (L ?_));refine al 4 S zi25 ?_;clear S F;intro gb423 W S;have F:=S.fc) | ((with_reducible refine gate_callee (f:=25) rfl (L ?_));refine cl (some 8) Try.func25 (impl_IsBoard.calls _ _ _ _ _ _ _ _ S.c S.n A3) (hargs:=by (simp only [ma_,mb_,mc_,F] <;> rfl)) (h:=?_);rintro e W ⟨rfl,hb⟩;refine ⟨_,rfl,?_⟩;replace S:=S.go hb;clear F hb;have F:=S.fc) | (go_at_call 25;(try simp only [F]);refine (impl_IsBoard.calls _ _ _ _ _ _ _ _ S.c S.n A5).mono ?_;rintro e W ⟨rfl,hb⟩;replace S:=S.go hb;clear F hb;have F:=S.fc) | ((with_reducible refine gs (t:=3) rfl (L ?_));(first | refine sb (.int _ _) S sz3 ?_ | refine ro (.int _ _) S sz3 ?_ (ho:=rfl) (hx:=rfl) (hy:=rfl));(clear S F;intro W S;have F:=S.fc)) | ((with_reducible refine gs (t:=23) rfl (L ?_));(first | refine sb (.slice _ _ _) S sz23 ?_ | refine ro (.slice _ _ _) S sz23 ?_ (ho:=rfl) (hx:=rfl) (hy:=rfl));(clear S F;intro W S;have F:=S.fc)) | ((with_reducible refine gs (t:=25) rfl (L ?_));(first | refine sb (.agg #[_,_,_]) S sz25 ?_ | refine ro (.agg #[_,_,_]) S sz25 ?_ (ho:=rfl) (hx:=rfl) (hy:=rfl));(clear S F;intro W S;have F:=S.fc)))
         refine bodyPost_ret (results_ct rfl _ _ gb423 25 #[.int .i64 0,.int .i64 0,.slice none 0 0] (0,0) _ rfl S.hb Try.underlying25 rfl (by kernel_rfl)) rfl ?_
         exact ⟨_,(by first | rfl | (simp [e0_,e1_] <;> rfl) | (simp [*,e0_,e1_] <;> rfl)),(by first | exact S.r | exact Kd.R_nil _ _ _ _ _),S.below⟩
       · skip
         replace H:=Option.bind_eq_some_iff.mp H;obtain ⟨⟨t426,t427,t428⟩,A22,H⟩:=H;(try dsimp only at H)
         replace H:=np_ H;obtain ⟨c23,H⟩:=H
         (first | (with_reducible replace H:=ob_ H;obtain ⟨y432,hy432,H⟩:=H;(try dsimp only at H)) | (obtain ⟨y432,hy432⟩:∃ y_:List (S27),y_ = (t428 ++ l1_2):=⟨_,rfl⟩;(try rw [← hy432] at H);(try simp only [Option.bind_some] at H)));have Ny432:=Aside0.mk hy432;clear hy432
         simp only [Option.some.injEq,Prod.mk.injEq] at H
         obtain ⟨rfl,rfl,rfl,rfl⟩:=H
         go_enter Try.func8,Try.ntmps8
         go_wp2_with (first | ((with_reducible refine gd 2 rfl (L ?_));refine bo 2 (.agg #[_,_,_]) S ?_;clear S F;intro gb421 W S;have F:=S.fc) | ((with_reducible refine gd 3 rfl (L ?_));refine bo 3 (.agg #[_,_,_]) S ?_;clear S F;intro gb422 W S;have F:=S.fc) | ((with_reducible refine gd 4 rfl (L ?_));refine al 4 S zi25 ?_;clear S F;intro gb423 W S;have F:=S.fc) | ((with_reducible refine gate_callee (f:=25) rfl (L ?_));refine cl (some 8) Try.func25 (impl_IsBoard.calls _ _ _ _ _ _ _ _ S.c S.n A3) (hargs:=by (simp only [ma_,mb_,mc_,F] <;> rfl)) (h:=?_);rintro e W ⟨rfl,hb⟩;refine ⟨_,rfl,?_⟩;replace S:=S.go hb;clear F hb;have F:=S.fc) | (go_at_call 25;(try simp only [F]);refine (impl_IsBoard.calls _ _ _ _ _ _ _ _ S.c S.n A5).mono ?_;rintro e W ⟨rfl,hb⟩;replace S:=S.go hb;clear F hb;have F:=S.fc) | ((with_reducible refine gate_callee (f:=32) rfl (L ?_));refine cl (some 32) Try.func32 (impl_copyBoard.calls _ _ _ _ _ _ _ _ _ S.c S.n A22) (hargs:=by (simp only [ma_,mb_,mc_,F] <;> rfl)) (h:=?_);rintro e W ⟨v429,rfl,ho0,hb⟩;refine ⟨_,rfl,?_⟩;replace S:=S.got at27 hb ho0;obtain ⟨At428,ct428,rfl,S⟩:=S;clear F hb ho0;(try rw [← Ny432.out] at S);have F:=S.fc) | ((with_reducible refine gd 6 rfl (L ?_));refine al 6 S zi25 ?_;clear S F;intro gb431 W S;have F:=S.fc) | ((with_reducible refine gd 43 rfl (L ?_));refine apr (A:=At428) (ys:=l1_2) 43 S Try.underlying23 info27 S.c ?_ (ho:=rfl) (hs:=rfl) (hx:=rfl);clear S F;intro Ay432 cy432 W S;(try rw [← Ny432.out] at S ⊢);have F:=S.fc) | ((with_reducible refine gs (t:=3) rfl (L ?_));(first | refine sb (.int _ _) S sz3 ?_ | refine ro (.int _ _) S sz3 ?_ (ho:=rfl) (hx:=rfl) (hy:=rfl));clear S F;intro W S;(try rw [← Ny432.out] at S);have F:=S.fc) | ((with_reducible refine gs (t:=23) rfl (L ?_));(first | refine sb (.slice _ _ _) S sz23 ?_ | refine ro (.slice _ _ _) S sz23 ?_ (ho:=rfl) (hx:=rfl) (hy:=rfl));clear S F;intro W S;(try rw [← Ny432.out] at S);have F:=S.fc) | ((with_reducible refine gs (t:=25) rfl (L ?_));(first | refine sb (.agg #[_,_,_]) S sz25 ?_ | refine ro (.agg #[_,_,_]) S sz25 ?_ (ho:=rfl) (hx:=rfl) (hy:=rfl));clear S F;intro W S;(try rw [← Ny432.out] at S);have F:=S.fc))
         refine bodyPost_ret (results_ct rfl _ _ gb423 25 #[.int .i64 (wrap64 (t426 + a1_0)),.int .i64 t427,.slice Ay432 y432.length cy432] (0,0) _ rfl S.hb Try.underlying25 rfl (by kernel_rfl)) rfl ?_
         exact ⟨_,(by first | rfl | (simp [e0_,e1_] <;> rfl) | (simp [*,e0_,e1_] <;> rfl)),(by first | exact S.r | exact Kd.R_nil _ _ _ _ _),S.below⟩
     · skip
       replace c7:=cne c7
       simp only [Option.some.injEq,Prod.mk.injEq] at H
       obtain ⟨rfl,rfl,rfl,rfl⟩:=H
       go_enter Try.func8,Try.ntmps8
       go_wp2_with (first | ((with_reducible refine gd 2 rfl (L ?_));refine bo 2 (.agg #[_,_,_]) S ?_;clear S F;intro gb421 W S;have F:=S.fc) | ((with_reducible refine gd 3 rfl (L ?_));refine bo 3 (.agg #[_,_,_]) S ?_;clear S F;intro gb422 W S;have F:=S.fc) | ((with_reducible refine gd 4 rfl (L ?_));refine al 4 S zi25 ?_;clear S F;intro gb423 W S;have F:=S.fc) | ((with_reducible refine gate_callee (f:=25) rfl (L ?_));refine cl (some 8) Try.func25 (impl_IsBoard.calls _ _ _ _ _ _ _ _ S.c S.n A3) (hargs:=by (simp only [ma_,mb_,mc_,F] <;> rfl)) (h:=?_);rintro e W ⟨rfl,hb⟩;refine ⟨_,rfl,?_⟩;replace S:=S.go hb;clear F hb;have F:=S.fc) | (go_at_call 25;(try simp only [F]);refine (impl_IsBoard.calls _ _ _ _ _ _ _ _ S.c S.n A5).mono ?_;rintro e W ⟨rfl,hb⟩;replace S:=S.go hb;clear F hb;have F:=S.fc) | ((with_reducible refine gs (t:=3) rfl (L ?_));(first | refine sb (.int _ _) S sz3 ?_ | refine ro (.int _ _) S sz3 ?_ (ho:=rfl) (hx:=rfl) (hy:=rfl));(clear S F;intro W S;have F:=S.fc)) | ((with_reducible refine gs (t:=23) rfl (L ?_));(first | refine sb (.slice _ _ _) S sz23 ?_ | refine ro (.slice _ _ _) S sz23 ?_ (ho:=rfl) (hx:=rfl) (hy:=rfl));(clear S F;intro W S;have F:=S.fc)) | ((with_reducible refine gs (t:=25) rfl (L ?_));(first | refine sb (.agg #[_,_,_]) S sz25 ?_ | refine ro (.agg #[_,_,_]) S sz25 ?_ (ho:=rfl) (hx:=rfl) (hy:=rfl));(clear S F;intro W S;have F:=S.fc)))
       refine bodyPost_ret (results_ct rfl _ _ gb423 25 #[.int .i64 0,.int .i64 0,.slice none 0 0] (0,0) _ rfl S.hb Try.underlying25 rfl (by kernel_rfl)) rfl ?_
       exact ⟨_,(by first | rfl | (simp [e0_,e1_] <;> rfl) | (simp [*,e0_,e1_] <;> rfl)),(by first | exact S.r | exact Kd.R_nil _ _ _ _ _),S.below⟩
   · skip
     replace c6:=cbf c6;subst c6
     simp only [Option.some.injEq,Prod.mk.injEq] at H
     obtain ⟨rfl,rfl,rfl,rfl⟩:=H
     go_enter Try.func8,Try.ntmps8
     go_wp2_with (first | ((with_reducible refine gd 2 rfl (L ?_));refine bo 2 (.agg #[_,_,_]) S ?_;clear S F;intro gb421 W S;have F:=S.fc) | ((with_reducible refine gd 3 rfl (L ?_));refine bo 3 (.agg #[_,_,_]) S ?_;clear S F;intro gb422 W S;have F:=S.fc) | ((with_reducible refine gd 4 rfl (L ?_));refine al 4 S zi25 ?_;clear S F;intro gb423 W S;have F:=S.fc) | ((with_reducible refine gate_callee (f:=25) rfl (L ?_));refine cl (some 8) Try.func25 (impl_IsBoard.calls _ _ _ _ _ _ _ _ S.c S.n A3) (hargs:=by (simp only [ma_,mb_,mc_,F] <;> rfl)) (h:=?_);rintro e W ⟨rfl,hb⟩;refine ⟨_,rfl,?_⟩;replace S:=S.go hb;clear F hb;have F:=S.fc) | (go_at_call 25;(try simp only [F]);refine (impl_IsBoard.calls _ _ _ _ _ _ _ _ S.c S.n A5).mono ?_;rintro e W ⟨rfl,hb⟩;replace S:=S.go hb;clear F hb;have F:=S.fc) | ((with_reducible refine gs (t:=3) rfl (L ?_));(first | refine sb (.int _ _) S sz3 ?_ | refine ro (.int _ _) S sz3 ?_ (ho:=rfl) (hx:=rfl) (hy:=rfl));(clear S F;intro W S;have F:=S.fc)) | ((with_reducible refine gs (t:=23) rfl (L ?_));(first | refine sb (.slice _ _ _) S sz23 ?_ | refine ro (.slice _ _ _) S sz23 ?_ (ho:=rfl) (hx:=rfl) (hy:=rfl));(clear S F;intro W S;have F:=S.fc)) | ((with_reducible refine gs (t:=25) rfl (L ?_));(first | refine sb (.agg #[_,_,_]) S sz25 ?_ | refine ro (.agg #[_,_,_]) S sz25 ?_ (ho:=rfl) (hx:=rfl) (hy:=rfl));(clear S F;intro W S;have F:=S.fc)))
     refine bodyPost_ret (results_ct rfl _ _ gb423 25 #[.int .i64 0,.int .i64 0,.slice none 0 0] (0,0) _ rfl S.hb Try.underlying25 rfl (by kernel_rfl)) rfl ?_
     exact ⟨_,(by first | rfl | (simp [e0_,e1_] <;> rfl) | (simp [*,e0_,e1_] <;> rfl)),(by first | exact S.r | exact Kd.R_nil _ _ _ _ _),S.below⟩
 · skip
   replace c4:=cbf c4;subst c4
   simp only [Option.some.injEq,Prod.mk.injEq] at H
   obtain ⟨rfl,rfl,rfl,rfl⟩:=H
   go_enter Try.func8,Try.ntmps8
   go_wp2_with (first | ((with_reducible refine gd 2 rfl (L ?_));refine bo 2 (.agg #[_,_,_]) S ?_;clear S F;intro gb421 W S;have F:=S.fc) | ((with_reducible refine gd 3 rfl (L ?_));refine bo 3 (.agg #[_,_,_]) S ?_;clear S F;intro gb422 W S;have F:=S.fc) | ((with_reducible refine gd 4 rfl (L ?_));refine al 4 S zi25 ?_;clear S F;intro gb423 W S;have F:=S.fc) | ((with_reducible refine gate_callee (f:=25) rfl (L ?_));refine cl (some 8) Try.func25 (impl_IsBoard.calls _ _ _ _ _ _ _ _ S.c S.n A3) (hargs:=by (simp only [ma_,mb_,mc_,F] <;> rfl)) (h:=?_);rintro e W ⟨rfl,hb⟩;refine ⟨_,rfl,?_⟩;replace S:=S.go hb;clear F hb;have F:=S.fc) | ((with_reducible refine gs (t:=3) rfl (L ?_));(first | refine sb (.int _ _) S sz3 ?_ | refine ro (.int _ _) S sz3 ?_ (ho:=rfl) (hx:=rfl) (hy:=rfl));(clear S F;intro W S;have F:=S.fc)) | ((with_reducible refine gs (t:=23) rfl (L ?_));(first | refine sb (.slice _ _ _) S sz23 ?_ | refine ro (.slice _ _ _) S sz23 ?_ (ho:=rfl) (hx:=rfl) (hy:=rfl));(clear S F;intro W S;have F:=S.fc)) | ((with_reducible refine gs (t:=25) rfl (L ?_));(first | refine sb (.agg #[_,_,_]) S sz25 ?_ | refine ro (.agg #[_,_,_]) S sz25 ?_ (ho:=rfl) (hx:=rfl) (hy:=rfl));(clear S F;intro W S;have F:=S.fc)))
   refine bodyPost_ret (results_ct rfl _ _ gb423 25 #[.int .i64 0,.int .i64 0,.slice none 0 0] (0,0) _ rfl S.hb Try.underlying25 rfl (by kernel_rfl)) rfl ?_
   exact ⟨_,(by first | rfl | (simp [e0_,e1_] <;> rfl) | (simp [*,e0_,e1_] <;> rfl)),(by first | exact S.r | exact Kd.R_nil _ _ _ _ _),S.below⟩

/-! ### spec_boIf: function 42 -/
def spec_boIf.f (k:Nat) (a0_0:Int) (a0_1:Int) (l0_2:List (S27)):Option (Int × Int × (List (S27)) × Bool):=(spec_boGood.f k a0_0 a0_1 l0_2).bind fun t437=>(if t437 = true then (some (a0_0,a0_1,l0_2,true)) else (some (0,0,([]:List (S27)),false)))
theorem spec_boIf.calls (k:Nat) (a0_0:Int) (a0_1:Int) (P0_2_:Nat→Prop) (u9000_:Value) (l0_2:List (S27)) (r1:Int) (r2:Int) (r3:List (S27)) (r4:Bool) (w0 w:World) (hB:Below w0.heap.size w0 w) (ho0_2:Kd.R k27 27 w w0.heap.size P0_2_ u9000_ l0_2) (h:spec_boIf.f k a0_0 a0_1 l0_2 = some (r1,r2,r3,r4)) :
    Calls Try.prog 42 #[.agg #[.int .i64 a0_0,.int .i64 a0_1,u9000_]] w fun e w'=>∃ v2_:Value,e = .returned (.tuple #[.agg #[.int .i64 r1,.int .i64 r2,v2_],.bool r4])∧Kd.R k27 27 w' w0.heap.size (fun k_=>(P0_2_ k_∨w.heap.size ≤ k_)) v2_ r3∧Below w0.heap.size w0 w'∧Kept w w' (fun k_=>P0_2_ k_):=by
 obtain ⟨Al0_2,cl0_2,rfl⟩:=Kd.R_slice ho0_2
 have S:=St.own1 at27 hB ho0_2 dn
 clear hB ho0_2
 have F:=S.fc
 have H:=h;clear h;unfold spec_boIf.f at H
 replace H:=Option.bind_eq_some_iff.mp H;obtain ⟨t437,A2,H⟩:=H;(try dsimp only at H)
 replace H:=sp_ H;rcases H with ⟨c3,H⟩ | ⟨c3,H⟩
 · skip
   subst c3
   simp only [Option.some.injEq,Prod.mk.injEq] at H
   obtain ⟨rfl,rfl,rfl,rfl⟩:=H
   go_enter Try.func42,Try.ntmps42
   go_wp2_with (first | ((with_reducible refine gd 1 rfl (L ?_));refine bo 1 (.agg #[_,_,_]) S ?_;clear S F;intro gb435 W S;have F:=S.fc) | ((with_reducible refine gd 2 rfl (L ?_));refine al 2 S zi25 ?_;clear S F;intro gb436 W S;have F:=S.fc) | ((with_reducible refine gate_callee (f:=41) rfl (L ?_));refine cl (some 5) Try.func41 (spec_boGood.calls _ _ _ _ _ _ _ _ S.c S.n A2) (hargs:=by (simp only [ma_,mb_,mc_,F] <;> rfl)) (h:=?_);rintro e W ⟨rfl,hb⟩;refine ⟨_,rfl,?_⟩;replace S:=S.go hb;clear F hb;have F:=S.fc) | ((with_reducible refine gs (t:=25) rfl (L ?_));(first | refine sb (.agg #[_,_,_]) S sz25 ?_ | refine ro (.agg #[_,_,_]) S sz25 ?_ (ho:=rfl) (hx:=rfl) (hy:=rfl));(clear S F;intro W S;have F:=S.fc)))
   refine bodyPost_ret (results_ct rfl _ _ gb436 25 #[.int .i64 a0_0,.int .i64 a0_1,.slice Al0_2 l0_2.length cl0_2] (0,0) _ rfl S.hb Try.underlying25 rfl (by kernel_rfl)) rfl ?_
   exact ⟨_,(by first | rfl | (simp [e0_,e1_] <;> rfl) | (simp [*,e0_,e1_] <;> rfl)),(by first | exact S.rp | exact Kd.R_nil _ _ _ _ _),S.below,S.kept⟩
 · skip
   replace c3:=cbf c3;subst c3
   simp only [Option.some.injEq,Prod.mk.injEq] at H
   obtain ⟨rfl,rfl,rfl,rfl⟩:=H
   go_enter Try.func42,Try.ntmps42
   go_wp2_with (first | ((with_reducible refine gd 1 rfl (L ?_));refine bo 1 (.agg #[_,_,_]) S ?_;clear S F;intro gb435 W S;have F:=S.fc) | ((with_reducible refine gd 2 rfl (L ?_));refine al 2 S zi25 ?_;clear S F;intro gb436 W S;have F:=S.fc) | ((with_reducible refine gate_callee (f:=41) rfl (L ?_));refine cl (some 5) Try.func41 (spec_boGood.calls _ _ _ _ _ _ _ _ S.c S.n A2) (hargs:=by (simp only [ma_,mb_,mc_,F] <;> rfl)) (h:=?_);rintro e W ⟨rfl,hb⟩;refine ⟨_,rfl,?_⟩;replace S:=S.go hb;clear F hb;have F:=S.fc) | ((with_reducible refine gs (t:=25) rfl (L ?_));(first | refine sb (.agg #[_,_,_]) S sz25 ?_ | refine ro (.agg #[_,_,_]) S sz25 ?_ (ho:=rfl) (hx:=rfl) (hy:=rfl));(clear S F;intro W S;have F:=S.fc)))
   refine bodyPost_ret (results_ct rfl _ _ gb436 25 #[.int .i64 0,.int .i64 0,.slice none 0 0] (0,0) _ rfl S.hb Try.underlying25 rfl (by kernel_rfl)) rfl ?_
   exact ⟨_,(by first | rfl | (simp [e0_,e1_] <;> rfl) | (simp [*,e0_,e1_] <;> rfl)),(by first | exact S.rp | exact Kd.R_nil _ _ _ _ _),S.below,S.kept⟩

/-! ### spec_StackBoards: function 9 -/
def spec_StackBoards.f (k:Nat) (a0_0:Int) (a0_1:Int) (l0_2:List (S27)) (a1_0:Int) (a1_1:Int) (l1_2:List (S27)):Option (Int × Int × (List (S27)) × Bool):=(spec_boGood.f k a0_0 a0_1 l0_2).bind fun t441=>(if t441 = true then ((spec_boGood.f k a1_0 a1_1 l1_2).bind fun t442=>(if t442 = true then (if a0_1 = a1_1 then ((some (([]:List (S27)):List (S27))).bind fun y443=>(if y443.length + l0_2.length < 8796093022208 then ((some (y443 ++ l0_2:List (S27))).bind fun y446=>(if y446.length + l1_2.length < 8796093022208 then ((spec_boIf.f k (wrap64 (a0_0 + a1_0)) a0_1 (y446 ++ l1_2)).bind fun bt452=>(some (bt452.1,bt452.2.1,bt452.2.2.1,bt452.2.2.2))) else (none))) else (none))) else (some (0,0,([]:List (S27)),false))) else (some (0,0,([]:List (S27)),false)))) else (some (0,0,([]:List (S27)),false)))
theorem spec_StackBoards.calls (k:Nat) (a0_0:Int) (a0_1:Int) (A0_2:Option Addr) (c0_2:Nat) (l0_2:List (S27)) (a1_0:Int) (a1_1:Int) (A1_2:Option Addr) (c1_2:Nat) (l1_2:List (S27)) (r1:Int) (r2:Int) (r3:List (S27)) (r4:Bool) (w:World) (hr0_2:Kd.C k27 w A0_2 l0_2.length l0_2) (hc0_2:l0_2.length ≤ c0_2) (hr1_2:Kd.C k27 w A1_2 l1_2.length l1_2) (hc1_2:l1_2.length ≤ c1_2) (h:spec_StackBoards.f k a0_0 a0_1 l0_2 a1_0 a1_1 l1_2 = some (r1,r2,r3,r4)) :
    Calls Try.prog 9 #[.agg #[.int .i64 a0_0,.int .i64 a0_1,.slice A0_2 l0_2.length c0_2],.agg #[.int .i64 a1_0,.int .i64 a1_1,.slice A1_2 l1_2.length c1_2]] w fun e w'=>∃ v2_:Value,e = .returned (.tuple #[.agg #[.int .i64 r1,.int .i64 r2,v2_],.bool r4])∧Kd.R k27 27 w' w.heap.size (fun _=>True) v2_ r3∧Below w.heap.size w w':=by
 have S:=St.init (w:=w) (dc k27_heap at27 hr0_2 hc0_2 (dc k27_heap at27 hr1_2 hc1_2 dn))
 clear hr0_2 hc0_2 hr1_2 hc1_2
 have F:=S.fc
 have H:=h;clear h;unfold spec_StackBoards.f at H
 replace H:=Option.bind_eq_some_iff.mp H;obtain ⟨t441,A3,H⟩:=H;(try dsimp only at H)
 replace H:=sp_ H;rcases H with ⟨c4,H⟩ | ⟨c4,H⟩
 · skip
   subst c4
   replace H:=Option.bind_eq_some_iff.mp H;obtain ⟨t442,A5,H⟩:=H;(try dsimp only at H)
   replace H:=sp_ H;rcases H with ⟨c6,H⟩ | ⟨c6,H⟩
   · skip
     subst c6
     replace H:=sp_ H;rcases H with ⟨c7,H⟩ | ⟨c7,H⟩
     · skip
       replace c7:=ceq c7
       (first | (with_reducible replace H:=ob_ H;obtain ⟨y443,hy443,H⟩:=H;(try dsimp only at H)) | (obtain ⟨y443,hy443⟩:∃ y_:List (S27),y_ = (([]:List (S27))):=⟨_,rfl⟩;(try rw [← hy443] at H);(try simp only [Option.bind_some] at H)));have Ny443:=Aside0.mk hy443;clear hy443
       replace H:=np_ H;obtain ⟨c8,H⟩:=H
       (first | (with_reducible replace H:=ob_ H;obtain ⟨y446,hy446,H⟩:=H;(try dsimp only at H)) | (obtain ⟨y446,hy446⟩:∃ y_:List (S27),y_ = (y443 ++ l0_2):=⟨_,rfl⟩;(try rw [← hy446] at H);(try simp only [Option.bind_some] at H)));have Ny446:=Aside0.mk hy446;clear hy446
       replace H:=np_ H;obtain ⟨c9,H⟩:=H
       (first | (with_reducible replace H:=ob_ H;obtain ⟨y449,hy449,H⟩:=H;(try dsimp only at H)) | (obtain ⟨y449,hy449⟩:∃ y_:List (S27),y_ = (y446 ++ l1_2):=⟨_,rfl⟩;(try rw [← hy449] at H);(try simp only [Option.bind_some] at H)));have Ny449:=Aside0.mk hy449;clear hy449
       replace H:=Option.bind_eq_some_iff.mp H;obtain ⟨⟨t452,t453,t454,t457⟩,A10,H⟩:=H;(try dsimp only at H)
       simp only [Option.some.injEq,Prod.mk.injEq] at H
       obtain ⟨rfl,rfl,rfl,rfl⟩:=H
       go_enter Try.func9,Try.ntmps9
       go_wp2_with (first | ((with_reducible refine gd 2 rfl (L ?_));refine bo 2 (.agg #[_,_,_]) S ?_;clear S F;intro gb438 W S;have F:=S.fc) | ((with_reducible refine gd 3 rfl (L ?_));refine bo 3 (.agg #[_,_,_]) S ?_;clear S F;intro gb439 W S;have F:=S.fc) | ((with_reducible refine gd 4 rfl (L ?_));refine al 4 S zi25 ?_;clear S F;intro gb440 W S;have F:=S.fc) | ((with_reducible refine gate_callee (f:=41) rfl (L ?_));refine cl (some 7) Try.func41 (spec_boGood.calls _ _ _ _ _ _ _ _ S.c S.n A3) (hargs:=by (simp only [ma_,mb_,mc_,F] <;> rfl)) (h:=?_);rintro e W ⟨rfl,hb⟩;refine ⟨_,rfl,?_⟩;replace S:=S.go hb;clear F hb;have F:=S.fc) | (go_at_call 41;(try simp only [F]);refine (spec_boGood.calls _ _ _ _ _ _ _ _ S.c S.n A5).mono ?_;rintro e W ⟨rfl,hb⟩;replace S:=S.go hb;clear F hb;have F:=S.fc) | ((with_reducible refine gs (t:=25) rfl (L ?_));(first | refine sb (.agg #[_,_,_]) S sz25 ?_ | refine ro (.agg #[_,_,_]) S sz25 ?_ (ho:=rfl) (hx:=rfl) (hy:=rfl));clear S F;intro W S;(try rw [← Ny446.out] at S);(try rw [← Ny449.out] at S);have F:=S.fc))
       refine rgP S (fun _ S=>S.tl) [(0,0),(0,2),(0,5),(0,8),(0,11),(1,1),(1,3),(0,4),(1,6),(1,9),(1,12),(2,7),(2,10),(2,13),(0,14),(2,15),(0,16),(0,17),(2,18),(0,19)] [] (by kernel_rfl) (by kernel_rfl) (fun _ d _ _ _ h=>by cases d <;> exact h) ?_;clear S F;intro W S;have S0:=S.tl;have F:=S.fc
       repeat (first | (refine q0 (h:=?_)) | (refine q1 S0 (h:=?_)) | (refine q0n (h:=?_)) | (refine q1n S0 (h:=?_)))
       refine lk2 (by rfl) (by exact (Eq.refl true)) ?_;refine lia 29 at27 27 S ([]:List (S27)) (fun _ _=>(Reps.none _ _)) (by first | (go_simp;done) | (go_simp;rfl)) ?_;clear S F;intro Ay443 cy443 W S;(try rw [← Ny443.out] at S ⊢);(try rw [← Ny446.out] at S ⊢);(try rw [← Ny449.out] at S ⊢);have F:=S.fc
       clear S0;have S0:=S.tl.tl;refine ⟨S0,?_⟩
       refine lk2 (by rfl) (by exact (Eq.refl true)) ?_;refine apr (A:=Ay443) (ys:=l0_2) 32 S Try.underlying23 info27 S.c ?_ (ho:=rfl) (hs:=rfl) (hx:=rfl);clear S F;intro Ay446 cy446 W S;(try rw [← Ny446.out] at S ⊢);(try rw [← Ny449.out] at S ⊢);have F:=S.fc
       clear S0;have S0:=S.tl.tl;refine ⟨S0,?_⟩
       refine lk2 (by rfl) (by exact (Eq.refl true)) ?_;refine apr (A:=Ay446) (ys:=l1_2) 35 S Try.underlying23 info27 S.c ?_ (ho:=rfl) (hs:=rfl) (hx:=rfl);clear S F;intro Ay449 cy449 W S;(try rw [← Ny446.out] at S ⊢);(try rw [← Ny449.out] at S ⊢);have F:=S.fc
       clear S0;have S0:=S.tl.tl;refine ⟨S0,?_⟩
       repeat (first | (refine q0 (h:=?_)) | (refine q1 S0 (h:=?_)) | (refine q0n (h:=?_)) | (refine q1n S0 (h:=?_)))
       refine lk2 (by rfl) (by exact (Eq.refl true)) ?_;obtain ⟨ok_,hb0_,ho_,bk_⟩:=S.lendv (A:=Ay449);refine cl (some 37) Try.func42 (spec_boIf.calls _ _ _ ok_ _ _ _ _ _ _ _ _ hb0_ ho_ A10) (hargs:=by (simp only [ma_,mb_,mc_,F] <;> rfl)) (h:=?_);rintro e W ⟨v455,rfl,hy,hb,hk⟩;refine ⟨_,rfl,?_⟩;obtain ⟨At454,ct454,rfl,S_⟩:=bk_ _ _ _ hy hb hk;clear S F;have S:=S_;clear S_ bk_ hb0_ ho_ hy hb hk ok_;have F:=S.fc
       clear S0;have S0:=S.tl.tl;refine ⟨S0,?_⟩
       repeat (first | (refine q0 (h:=?_)) | (refine q1 S0 (h:=?_)) | (refine q0n (h:=?_)) | (refine q1n S0 (h:=?_)))
       refine lk2 (by rfl) (by exact (Eq.refl true)) ?_;(first | refine sb (.agg #[_,_,_]) S sz25 ?_ | refine ro (.agg #[_,_,_]) S sz25 ?_ (ho:=rfl) (hx:=rfl) (hy:=rfl));clear S F;intro W S;(try rw [← Ny446.out] at S);(try rw [← Ny449.out] at S);have F:=S.fc
       clear S0;have S0:=S.tl.tl;refine ⟨S0,?_⟩
       repeat (first | (refine q0 (h:=?_)) | (refine q1 S0 (h:=?_)) | (refine q0n (h:=?_)) | (refine q1n S0 (h:=?_)))
       refine oz ?_
       try clear S0
       go_wp2_with (first | ((with_reducible refine gs (t:=25) rfl (L ?_));(first | refine sb (.agg #[_,_,_]) S sz25 ?_ | refine ro (.agg #[_,_,_]) S sz25 ?_ (ho:=rfl) (hx:=rfl) (hy:=rfl));clear S F;intro W S;(try rw [← Ny446.out] at S);(try rw [← Ny449.out] at S);have F:=S.fc))
       refine bodyPost_ret (results_ct rfl _ _ gb440 25 #[.int .i64 t452,.int .i64 t453,.slice At454 t454.length ct454] (0,0) _ rfl S.hb Try.underlying25 rfl (by kernel_rfl)) rfl ?_
       exact ⟨_,(by first | rfl | (simp [e0_,e1_] <;> rfl) | (simp [*,e0_,e1_] <;> rfl)),(by first | exact S.r | exact Kd.R_nil _ _ _ _ _),S.below⟩
     · skip
       replace c7:=cne c7
       simp only [Option.some.injEq,Prod.mk.injEq] at H
       obtain ⟨rfl,rfl,rfl,rfl⟩:=H
       go_enter Try.func9,Try.ntmps9
       go_wp2_with (first | ((with_reducible refine gd 2 rfl (L ?_));refine bo 2 (.agg #[_,_,_]) S ?_;clear S F;intro gb438 W S;have F:=S.fc) | ((with_reducible refine gd 3 rfl (L ?_));refine bo 3 (.agg #[_,_,_]) S ?_;clear S F;intro gb439 W S;have F:=S.fc) | ((with_reducible refine gd 4 rfl (L ?_));refine al 4 S zi25 ?_;clear S F;intro gb440 W S;have F:=S.fc) | ((with_reducible refine gate_callee (f:=41) rfl (L ?_));refine cl (some 7) Try.func41 (spec_boGood.calls _ _ _ _ _ _ _ _ S.c S.n A3) (hargs:=by (simp only [ma_,mb_,mc_,F] <;> rfl)) (h:=?_);rintro e W ⟨rfl,hb⟩;refine ⟨_,rfl,?_⟩;replace S:=S.go hb;clear F hb;have F:=S.fc) | (go_at_call 41;(try simp only [F]);refine (spec_boGood.calls _ _ _ _ _ _ _ _ S.c S.n A5).mono ?_;rintro e W ⟨rfl,hb⟩;replace S:=S.go hb;clear F hb;have F:=S.fc) | ((with_reducible refine gs (t:=25) rfl (L ?_));(first | refine sb (.agg #[_,_,_]) S sz25 ?_ | refine ro (.agg #[_,_,_]) S sz25 ?_ (ho:=rfl) (hx:=rfl) (hy:=rfl));(clear S F;intro W S;have F:=S.fc)))
       refine bodyPost_ret (results_ct rfl _ _ gb440 25 #[.int .i64 0,.int .i64 0,.slice none 0 0] (0,0) _ rfl S.hb Try.underlying25 rfl (by kernel_rfl)) rfl ?_
       exact ⟨_,(by first | rfl | (simp [e0_,e1_] <;> rfl) | (simp [*,e0_,e1_] <;> rfl)),(by first | exact S.r | exact Kd.R_nil _ _ _ _ _),S.below⟩
   · skip
     replace c6:=cbf c6;subst c6
     simp only [Option.some.injEq,Prod.mk.injEq] at H
     obtain ⟨rfl,rfl,rfl,rfl⟩:=H
     go_enter Try.func9,Try.ntmps9
     go_wp2_with (first | ((with_reducible refine gd 2 rfl (L ?_));refine bo 2 (.agg #[_,_,_]) S ?_;clear S F;intro gb438 W S;have F:=S.fc) | ((with_reducible refine gd 3 rfl (L ?_));refine bo 3 (.agg #[_,_,_]) S ?_;clear S F;intro gb439 W S;have F:=S.fc) | ((with_reducible refine gd 4 rfl (L ?_));refine al 4 S zi25 ?_;clear S F;intro gb440 W S;have F:=S.fc) | ((with_reducible refine gate_callee (f:=41) rfl (L ?_));refine cl (some 7) Try.func41 (spec_boGood.calls _ _ _ _ _ _ _ _ S.c S.n A3) (hargs:=by (simp only [ma_,mb_,mc_,F] <;> rfl)) (h:=?_);rintro e W ⟨rfl,hb⟩;refine ⟨_,rfl,?_⟩;replace S:=S.go hb;clear F hb;have F:=S.fc) | (go_at_call 41;(try simp only [F]);refine (spec_boGood.calls _ _ _ _ _ _ _ _ S.c S.n A5).mono ?_;rintro e W ⟨rfl,hb⟩;replace S:=S.go hb;clear F hb;have F:=S.fc) | ((with_reducible refine gs (t:=25) rfl (L ?_));(first | refine sb (.agg #[_,_,_]) S sz25 ?_ | refine ro (.agg #[_,_,_]) S sz25 ?_ (ho:=rfl) (hx:=rfl) (hy:=rfl));(clear S F;intro W S;have F:=S.fc)))
     refine bodyPost_ret (results_ct rfl _ _ gb440 25 #[.int .i64 0,.int .i64 0,.slice none 0 0] (0,0) _ rfl S.hb Try.underlying25 rfl (by kernel_rfl)) rfl ?_
     exact ⟨_,(by first | rfl | (simp [e0_,e1_] <;> rfl) | (simp [*,e0_,e1_] <;> rfl)),(by first | exact S.r | exact Kd.R_nil _ _ _ _ _),S.below⟩
 · skip
   replace c4:=cbf c4;subst c4
   simp only [Option.some.injEq,Prod.mk.injEq] at H
   obtain ⟨rfl,rfl,rfl,rfl⟩:=H
   go_enter Try.func9,Try.ntmps9
   go_wp2_with (first | ((with_reducible refine gd 2 rfl (L ?_));refine bo 2 (.agg #[_,_,_]) S ?_;clear S F;intro gb438 W S;have F:=S.fc) | ((with_reducible refine gd 3 rfl (L ?_));refine bo 3 (.agg #[_,_,_]) S ?_;clear S F;intro gb439 W S;have F:=S.fc) | ((with_reducible refine gd 4 rfl (L ?_));refine al 4 S zi25 ?_;clear S F;intro gb440 W S;have F:=S.fc) | ((with_reducible refine gate_callee (f:=41) rfl (L ?_));refine cl (some 7) Try.func41 (spec_boGood.calls _ _ _ _ _ _ _ _ S.c S.n A3) (hargs:=by (simp only [ma_,mb_,mc_,F] <;> rfl)) (h:=?_);rintro e W ⟨rfl,hb⟩;refine ⟨_,rfl,?_⟩;replace S:=S.go hb;clear F hb;have F:=S.fc) | ((with_reducible refine gs (t:=25) rfl (L ?_));(first | refine sb (.agg #[_,_,_]) S sz25 ?_ | refine ro (.agg #[_,_,_]) S sz25 ?_ (ho:=rfl) (hx:=rfl) (hy:=rfl));(clear S F;intro W S;have F:=S.fc)))
   refine bodyPost_ret (results_ct rfl _ _ gb440 25 #[.int .i64 0,.int .i64 0,.slice none 0 0] (0,0) _ rfl S.hb Try.underlying25 rfl (by kernel_rfl)) rfl ?_
   exact ⟨_,(by first | rfl | (simp [e0_,e1_] <;> rfl) | (simp [*,e0_,e1_] <;> rfl)),(by first | exact S.r | exact Kd.R_nil _ _ _ _ _),S.below⟩

/-! ### spec_DrawBesideBoards: function 10 -/
def spec_DrawBesideBoards.j0:Nat→Int→List Int→Int→Int→Int→Int→List (S27)→Option (Int × Int × (List (S27)) × Int × Int × (List (S27)))
  | 0,_,_,_,_,_,_,_=>none
  | k + 1,x6,x461000,x461001,x461002,x469000,x469001,x469002=>(spec_l1Least.f 10 x469000).bind fun t479=>((spec_l1Most.f 1 t479).bind fun t480=>((spec_l1Cur_one.f x461000 x461001 x461002 12).bind fun bt481=>(if bt481.1 = true then ((spec_l1Cur_pick.f x461000 bt481.2.1 bt481.2.2 5).bind fun bt484=>((spec_l1Least.f x6 9).bind fun t487=>((spec_l1Cur_boardOf.f k x461000 bt484.2.1 bt484.2.2 (wrap64 (1 + bt484.1)) t487).bind fun bt488=>(some (x469000,x469001,x469002,bt488.1,bt488.2.1,bt488.2.2.1))))) else ((spec_l1Least.f x6 9).bind fun t495=>((spec_l1Cur_boardOf.f k x461000 bt481.2.1 bt481.2.2 t480 t495).bind fun bt496=>(some (x469000,x469001,x469002,bt496.1,bt496.2.1,bt496.2.2.1)))))))
def spec_DrawBesideBoards.f (k:Nat) (l0:List Int):Option (Int × Int × (List (S27)) × Int × Int × (List (S27))):=(spec_l1Cur_anyBoard.f k l0 0 0).bind fun bt461=>((spec_l1Cur_pick.f l0 bt461.2.2.2.1 bt461.2.2.2.2 5).bind fun bt469=>((spec_l1Cur_one.f l0 bt469.2.1 bt469.2.2 6).bind fun bt472=>(if bt472.1 = true then ((spec_l1Cur_pick.f l0 bt472.2.1 bt472.2.2 2).bind fun bt475=>((spec_l1Most.f 1 (wrap64 ((wrap64 (9 - bt461.2.1)) + bt475.1))).bind fun t478=>(spec_DrawBesideBoards.j0 k t478 l0 bt475.2.1 bt475.2.2 bt461.1 bt461.2.1 bt461.2.2.1))) else (spec_DrawBesideBoards.j0 k (wrap64 (1 + bt469.1)) l0 bt472.2.1 bt472.2.2 bt461.1 bt461.2.1 bt461.2.2.1))))
theorem spec_DrawBesideBoards.calls (k:Nat) (A0:Option Addr) (c0:Nat) (l0:List Int) (r1:Int) (r2:Int) (r3:List (S27)) (r4:Int) (r5:Int) (r6:List (S27)) (w:World) (hr0:Kd.C (Kd.int .u8) w A0 l0.length l0) (hc0:l0.length ≤ c0) (h:spec_DrawBesideBoards.f k l0 = some (r1,r2,r3,r4,r5,r6)) :
    Calls Try.prog 10 #[.slice A0 l0.length c0] w fun e w'=>∃ v2_ v5_:Value,e = .returned (.tuple #[.agg #[.int .i64 r1,.int .i64 r2,v2_],.agg #[.int .i64 r4,.int .i64 r5,v5_]])∧Kd.Q k27 27 w' w.heap.size (fun k_=>some k_ ≠ (v5_:Value).ownBlock) v2_ r3∧Kd.R k27 27 w' w.heap.size (fun k_=>some k_ ≠ (v2_:Value).ownBlock) v5_ r6∧Below w.heap.size w w':=by
 have S:=St.init (w:=w) (dc (Kd.heap_int .u8) (atI .u8) hr0 hc0 dn)
 clear hc0
 have F:=S.fc
 have H:=h;clear h;unfold spec_DrawBesideBoards.f at H
 replace H:=Option.bind_eq_some_iff.mp H;obtain ⟨⟨t461,t462,t463,t466,t467⟩,A2,H⟩:=H;(try dsimp only at H)
 replace H:=Option.bind_eq_some_iff.mp H;obtain ⟨⟨t469,t470,t471⟩,A3,H⟩:=H;(try dsimp only at H)
 replace H:=Option.bind_eq_some_iff.mp H;obtain ⟨⟨t472,t473,t474⟩,A4,H⟩:=H;(try dsimp only at H)
 go_enter Try.func10,Try.ntmps10
 go_upto_if 17 with (first | ((with_reducible refine gd 2 rfl (L ?_));refine al 2 S zi25 ?_;clear S F;intro gb458 W S;have F:=S.fc) | ((with_reducible refine gd 3 rfl (L ?_));refine al 3 S zi25 ?_;clear S F;intro gb459 W S;have F:=S.fc) | ((with_reducible refine gd 10 rfl (L ?_));refine bo 10 (.agg #[_,_,_]) S ?_;clear S F;intro gb460 W S;have F:=S.fc) | ((with_reducible refine gate_callee (f:=26) rfl (L ?_));refine cl (some 12) Try.func26 (spec_l1Cur_anyBoard.calls _ gb460 _ _ _ _ _ _ _ _ _ _ _ _ S.hb (S.hge gb460) hr0 S.below A2) (hargs:=by (simp only [ma_,mb_,mc_,F] <;> rfl)) (h:=?_);rintro e W ⟨v464,rfl,ho0,hi,hb,hk⟩;refine ⟨_,rfl,?_⟩;obtain ⟨W_,hs_,hm_,S⟩:=S.mid gb460 hi hb hk;rw [← hs_] at ho0;replace S:=S.gotq at27 hm_ ho0;obtain ⟨At463,ct463,rfl,S⟩:=S;clear F hi hb hk hs_ hm_ ho0;have F:=S.fc) | ((with_reducible refine gd 5 rfl (L ?_));refine al 5 S zi25 ?_;clear S F;intro gb468 W S;have F:=S.fc) | ((with_reducible refine gate_callee (f:=36) rfl (L ?_));refine cl (some 14) Try.func36 (spec_l1Cur_pick.calls gb460 _ _ _ _ _ _ _ _ _ _ _ S.hb (S.hge gb460) hr0 S.below A3) (hargs:=by (simp only [ma_,mb_,mc_,F] <;> rfl)) (h:=?_);rintro e W ⟨rfl,hi,hb,hk⟩;refine ⟨_,rfl,?_⟩;obtain ⟨W_,hs_,hm_,S⟩:=S.mid gb460 hi hb hk;replace S:=S.go hm_;clear F hi hb hk hs_ hm_ ;have F:=S.fc) | ((with_reducible refine gate_callee (f:=37) rfl (L ?_));refine cl (some 17) Try.func37 (spec_l1Cur_one.calls gb460 _ _ _ _ _ _ _ _ _ _ _ S.hb (S.hge gb460) hr0 S.below A4) (hargs:=by (simp only [ma_,mb_,mc_,F] <;> rfl)) (h:=?_);rintro e W ⟨rfl,hi,hb,hk⟩;refine ⟨_,rfl,?_⟩;obtain ⟨W_,hs_,hm_,S⟩:=S.mid gb460 hi hb hk;replace S:=S.go hm_;clear F hi hb hk hs_ hm_ ;have F:=S.fc) | ((with_reducible refine gs (t:=25) rfl (L ?_));(first | refine sb (.agg #[_,_,_]) S sz25 ?_ | refine ro (.agg #[_,_,_]) S sz25 ?_ (ho:=rfl) (hx:=rfl) (hy:=rfl));(clear S F;intro W S;have F:=S.fc)))
 (try simp only [Act.put,List.setIfInBounds_toArray,List.set_cons_zero,List.set_cons_succ])
 go_cut [6] (fun v6 wc=>∃ (kq:Nat) (x6_4:Int) (x461001_4:Int) (x461002_4:Int),v6 = .int .i64 x6_4∧spec_DrawBesideBoards.j0 kq x6_4 l0 x461001_4 x461002_4 t461 t462 t463 = some (r1,r2,r3,r4,r5,r6)∧kq ≤ k∧St w w (fun _=>False) [bor (atI .u8) A0 c0 l0] wc  [box gb468 25 [.int .i64 t461,.int .i64 t462,.slice At463 t463.length ct463],qrow at27 27 At463 t463.length ct463 t463,box gb460 51 [.slice A0 l0.length c0,.int .i64 x461001_4,.int .u64 x461002_4],box gb459 25 [.int .i64 0,.int .i64 0,.slice none 0 0],box gb458 25 [.int .i64 0,.int .i64 0,.slice none 0 0]])
 case first =>
  replace H:=sp_ H;rcases H with ⟨c18,H⟩ | ⟨c18,H⟩
  · skip
    subst c18
    replace H:=Option.bind_eq_some_iff.mp H;obtain ⟨⟨t475,t476,t477⟩,A19,H⟩:=H;(try dsimp only at H)
    replace H:=Option.bind_eq_some_iff.mp H;obtain ⟨t478,A20,H⟩:=H;(try dsimp only at H)
    go_wp2_with (first | ((with_reducible refine gs (t:=25) rfl (L ?_));(first | refine sb (.agg #[_,_,_]) S sz25 ?_ | refine ro (.agg #[_,_,_]) S sz25 ?_ (ho:=rfl) (hx:=rfl) (hy:=rfl));(clear S F;intro W S;have F:=S.fc)))
    refine rgP S (fun _ S=>(S.pm [0,1,3,4])) [(0,0),(0,3),(1,1),(0,2),(2,4),(0,5),(2,6),(0,7)] [] (by kernel_rfl) (by kernel_rfl) (fun _ d _ _ _ h=>by cases d <;> exact h) ?_;clear S F;intro W S;have S0:=(S.pm [0,1,3,4]);have F:=S.fc
    repeat (first | (refine q0 (h:=?_)) | (refine q1 S0 (h:=?_)) | (refine q0n (h:=?_)) | (refine q1n S0 (h:=?_)))
    refine lk2 (by rfl) (by exact (Eq.refl true)) ?_;refine cl (some 22) Try.func36 (spec_l1Cur_pick.calls gb460 _ _ _ _ _ _ _ _ _ _ _ S.hb (S.hge gb460) hr0 S.below A19) (hargs:=by (simp only [ma_,mb_,mc_,F] <;> rfl)) (h:=?_);rintro e W ⟨rfl,hi,hb,hk⟩;refine ⟨_,rfl,?_⟩;obtain ⟨W_,hs_,hm_,S⟩:=S.mid gb460 hi hb hk;replace S:=S.go hm_;clear F hi hb hk hs_ hm_ ;have F:=S.fc
    clear S0;have S0:=(S.pm [0,1,3,4]);refine ⟨S0,?_⟩
    repeat (first | (refine q0 (h:=?_)) | (refine q1 S0 (h:=?_)) | (refine q0n (h:=?_)) | (refine q1n S0 (h:=?_)))
    refine lk2 (by rfl) (by exact (Eq.refl true)) ?_;refine cl (some 24) Try.func38 (spec_l1Most.calls _ _ _ _ A20) (hargs:=by (simp only [ma_,mb_,mc_,F] <;> rfl)) (h:=?_);rintro e W ⟨rfl,hb⟩;refine ⟨_,rfl,?_⟩;replace S:=S.gw hb;clear F hb;have F:=S.fc
    clear S0;have S0:=(S.pm [0,1,3,4]);refine ⟨S0,?_⟩
    repeat (first | (refine q0 (h:=?_)) | (refine q1 S0 (h:=?_)) | (refine q0n (h:=?_)) | (refine q1n S0 (h:=?_)))
    refine oz ?_
    try clear S0
    go_wp2_with (first | ((with_reducible refine gs (t:=25) rfl (L ?_));(first | refine sb (.agg #[_,_,_]) S sz25 ?_ | refine ro (.agg #[_,_,_]) S sz25 ?_ (ho:=rfl) (hx:=rfl) (hy:=rfl));(clear S F;intro W S;have F:=S.fc)))
    go_meet
    case rel=>exact ⟨_,t478,t476,t477,(by first | rfl | (simp;done) | (simp [*];done) | (rw [w6_ (by omega) (by omega)])),H,(by first | omega | exact Nat.le_refl _),S⟩
  · skip
    replace c18:=cbf c18;subst c18
    go_wp2_with (first | ((with_reducible refine gs (t:=25) rfl (L ?_));(first | refine sb (.agg #[_,_,_]) S sz25 ?_ | refine ro (.agg #[_,_,_]) S sz25 ?_ (ho:=rfl) (hx:=rfl) (hy:=rfl));(clear S F;intro W S;have F:=S.fc)))
    go_meet
    case rel=>exact ⟨_,(wrap64 (1 + t469)),t473,t474,(by first | rfl | (simp;done) | (simp [*];done) | (rw [w6_ (by omega) (by omega)])),H,(by first | omega | exact Nat.le_refl _),S⟩
 case rest =>
  clear H S F
  obtain ⟨kq,x6_4,x461001_4,x461002_4,rfl,HA,HJ4,S⟩:=hcut
  have F:=S.fc
  cases kq with
  | zero=>exact absurd HA (by simp [spec_DrawBesideBoards.j0])
  | succ kj4 =>
   have H:=HA;clear HA;simp only [spec_DrawBesideBoards.j0,F] at H
   replace H:=Option.bind_eq_some_iff.mp H;obtain ⟨t479,A23,H⟩:=H;(try dsimp only at H)
   replace H:=Option.bind_eq_some_iff.mp H;obtain ⟨t480,A24,H⟩:=H;(try dsimp only at H)
   replace H:=Option.bind_eq_some_iff.mp H;obtain ⟨⟨t481,t482,t483⟩,A25,H⟩:=H;(try dsimp only at H)
   replace H:=sp_ H;rcases H with ⟨c26,H⟩ | ⟨c26,H⟩
   · skip
     subst c26
     replace H:=Option.bind_eq_some_iff.mp H;obtain ⟨⟨t484,t485,t486⟩,A27,H⟩:=H;(try dsimp only at H)
     replace H:=Option.bind_eq_some_iff.mp H;obtain ⟨t487,A28,H⟩:=H;(try dsimp only at H)
     replace H:=Option.bind_eq_some_iff.mp H;obtain ⟨⟨t488,t489,t490,t493,t494⟩,A29,H⟩:=H;(try dsimp only at H)
     simp only [Option.some.injEq,Prod.mk.injEq] at H
     obtain ⟨rfl,rfl,rfl,rfl,rfl,rfl⟩:=H
     go_wp2_with (first | ((with_reducible refine gate_callee (f:=39) rfl (L ?_));refine cl (some 27) Try.func39 (spec_l1Least.calls _ _ _ _ A23) (hargs:=by (simp only [ma_,mb_,mc_,F] <;> rfl)) (h:=?_);rintro e W ⟨rfl,hb⟩;refine ⟨_,rfl,?_⟩;replace S:=S.gw hb;clear F hb;have F:=S.fc) | ((with_reducible refine gate_callee (f:=38) rfl (L ?_));refine cl (some 28) Try.func38 (spec_l1Most.calls _ _ _ _ A24) (hargs:=by (simp only [ma_,mb_,mc_,F] <;> rfl)) (h:=?_);rintro e W ⟨rfl,hb⟩;refine ⟨_,rfl,?_⟩;replace S:=S.gw hb;clear F hb;have F:=S.fc) | ((with_reducible refine gate_callee (f:=37) rfl (L ?_));refine cl (some 30) Try.func37 (spec_l1Cur_one.calls gb460 _ _ _ _ _ _ _ _ _ _ _ S.hb (S.hge gb460) hr0 S.below A25) (hargs:=by (simp only [ma_,mb_,mc_,F] <;> rfl)) (h:=?_);rintro e W ⟨rfl,hi,hb,hk⟩;refine ⟨_,rfl,?_⟩;obtain ⟨W_,hs_,hm_,S⟩:=S.mid gb460 hi hb hk;replace S:=S.go hm_;clear F hi hb hk hs_ hm_ ;have F:=S.fc) | ((with_reducible refine gate_callee (f:=36) rfl (L ?_));refine cl (some 32) Try.func36 (spec_l1Cur_pick.calls gb460 _ _ _ _ _ _ _ _ _ _ _ S.hb (S.hge gb460) hr0 S.below A27) (hargs:=by (simp only [ma_,mb_,mc_,F] <;> rfl)) (h:=?_);rintro e W ⟨rfl,hi,hb,hk⟩;refine ⟨_,rfl,?_⟩;obtain ⟨W_,hs_,hm_,S⟩:=S.mid gb460 hi hb hk;replace S:=S.go hm_;clear F hi hb hk hs_ hm_ ;have F:=S.fc) | ((with_reducible refine gs (t:=25) rfl (L ?_));(first | refine sb (.agg #[_,_,_]) S sz25 ?_ | refine ro (.agg #[_,_,_]) S sz25 ?_ (ho:=rfl) (hx:=rfl) (hy:=rfl));(clear S F;intro W S;have F:=S.fc)))
     refine rgP S (fun _ S=>(S.pm [0,1])) [(0,1),(0,2),(0,3),(1,0),(2,4),(2,5),(2,6),(2,7)] [] (by kernel_rfl) (by kernel_rfl) (fun _ d _ _ _ h=>by cases d <;> exact h) ?_;clear S F;intro W S;have S0:=(S.pm [0,1]);have F:=S.fc
     repeat (first | (refine q0 (h:=?_)) | (refine q1 S0 (h:=?_)) | (refine q0n (h:=?_)) | (refine q1n S0 (h:=?_)))
     refine lk2 (by rfl) (by exact (Eq.refl true)) ?_;refine cl (some 38) Try.func39 (spec_l1Least.calls _ _ _ _ A28) (hargs:=by (simp only [ma_,mb_,mc_,F] <;> rfl)) (h:=?_);rintro e W ⟨rfl,hb⟩;refine ⟨_,rfl,?_⟩;replace S:=S.gw hb;clear F hb;have F:=S.fc
     clear S0;have S0:=(S.pm [0,1]);refine ⟨S0,?_⟩
     refine lk2 (by rfl) (by exact (Eq.refl true)) ?_;refine cl (some 39) Try.func40 (spec_l1Cur_boardOf.calls _ gb460 _ _ _ _ _ _ _ _ _ _ _ _ _ _ S.hb (S.hge gb460) hr0 S.below A29) (hargs:=by (simp only [ma_,mb_,mc_,F] <;> rfl)) (h:=?_);rintro e W ⟨v491,rfl,ho0,hi,hb,hk⟩;refine ⟨_,rfl,?_⟩;obtain ⟨W_,hs_,hm_,S⟩:=S.mid gb460 hi hb hk;rw [← hs_] at ho0;replace S:=S.got at27 hm_ ho0;obtain ⟨At490,ct490,rfl,S⟩:=S;clear F hi hb hk hs_ hm_ ho0;have F:=S.fc
     clear S0;have S0:=(S.pm [1,2]);refine ⟨S0,?_⟩
     refine lk2 (by rfl) (by exact (Eq.refl true)) ?_;(first | refine sb (.agg #[_,_,_]) S sz25 ?_ | refine ro (.agg #[_,_,_]) S sz25 ?_ (ho:=rfl) (hx:=rfl) (hy:=rfl));(clear S F;intro W S;have F:=S.fc)
     clear S0;have S0:=(S.pm [1,2]);refine ⟨S0,?_⟩
     refine lk2 (by rfl) (by exact (Eq.refl true)) ?_;(first | refine sb (.agg #[_,_,_]) S sz25 ?_ | refine ro (.agg #[_,_,_]) S sz25 ?_ (ho:=rfl) (hx:=rfl) (hy:=rfl));(clear S F;intro W S;have F:=S.fc)
     clear S0;have S0:=(S.pm [1,2]);refine ⟨S0,?_⟩
     refine oz ?_
     try clear S0
     go_wp2_with (first | ((with_reducible refine gs (t:=25) rfl (L ?_));(first | refine sb (.agg #[_,_,_]) S sz25 ?_ | refine ro (.agg #[_,_,_]) S sz25 ?_ (ho:=rfl) (hx:=rfl) (hy:=rfl));(clear S F;intro W S;have F:=S.fc)))
     refine bodyPost_ret (results_cc rfl _ _ gb458 gb459 25 25 #[.int .i64 t461,.int .i64 t462,.slice At463 t463.length ct463] #[.int .i64 t488,.int .i64 t489,.slice At490 t490.length ct490] (0,0) (0,0) _ _ rfl S.hb Try.underlying25 rfl (by kernel_rfl) rfl S.hb Try.underlying25 rfl (by kernel_rfl)) rfl ?_
     exact ⟨_,_,(by first | rfl | (simp [e0_,e1_] <;> rfl) | (simp [*,e0_,e1_] <;> rfl)),(by first | exact S.qr | exact S.qq | exact Kd.Q_of_R S.rn | exact Kd.Q_of_R S.rq | exact Kd.Q_nil _ _ _ _ _),(by first | exact S.rq | exact S.rn | exact Kd.R_nil _ _ _ _ _),S.below⟩
   · skip
     replace c26:=cbf c26;subst c26
     replace H:=Option.bind_eq_some_iff.mp H;obtain ⟨t495,A45,H⟩:=H;(try dsimp only at H)
     replace H:=Option.bind_eq_some_iff.mp H;obtain ⟨⟨t496,t497,t498,t501,t502⟩,A46,H⟩:=H;(try dsimp only at H)
     simp only [Option.some.injEq,Prod.mk.injEq] at H
     obtain ⟨rfl,rfl,rfl,rfl,rfl,rfl⟩:=H
     go_wp2_with (first | ((with_reducible refine gate_callee (f:=39) rfl (L ?_));refine cl (some 27) Try.func39 (spec_l1Least.calls _ _ _ _ A23) (hargs:=by (simp only [ma_,mb_,mc_,F] <;> rfl)) (h:=?_);rintro e W ⟨rfl,hb⟩;refine ⟨_,rfl,?_⟩;replace S:=S.gw hb;clear F hb;have F:=S.fc) | ((with_reducible refine gate_callee (f:=38) rfl (L ?_));refine cl (some 28) Try.func38 (spec_l1Most.calls _ _ _ _ A24) (hargs:=by (simp only [ma_,mb_,mc_,F] <;> rfl)) (h:=?_);rintro e W ⟨rfl,hb⟩;refine ⟨_,rfl,?_⟩;replace S:=S.gw hb;clear F hb;have F:=S.fc) | ((with_reducible refine gate_callee (f:=37) rfl (L ?_));refine cl (some 30) Try.func37 (spec_l1Cur_one.calls gb460 _ _ _ _ _ _ _ _ _ _ _ S.hb (S.hge gb460) hr0 S.below A25) (hargs:=by (simp only [ma_,mb_,mc_,F] <;> rfl)) (h:=?_);rintro e W ⟨rfl,hi,hb,hk⟩;refine ⟨_,rfl,?_⟩;obtain ⟨W_,hs_,hm_,S⟩:=S.mid gb460 hi hb hk;replace S:=S.go hm_;clear F hi hb hk hs_ hm_ ;have F:=S.fc) | ((with_reducible refine gs (t:=25) rfl (L ?_));(first | refine sb (.agg #[_,_,_]) S sz25 ?_ | refine ro (.agg #[_,_,_]) S sz25 ?_ (ho:=rfl) (hx:=rfl) (hy:=rfl));(clear S F;intro W S;have F:=S.fc)))
     refine rgP S (fun _ S=>(S.pm [0,1])) [(0,1),(0,2),(0,3),(1,0),(2,4),(2,5),(2,6),(2,7)] [] (by kernel_rfl) (by kernel_rfl) (fun _ d _ _ _ h=>by cases d <;> exact h) ?_;clear S F;intro W S;have S0:=(S.pm [0,1]);have F:=S.fc
     repeat (first | (refine q0 (h:=?_)) | (refine q1 S0 (h:=?_)) | (refine q0n (h:=?_)) | (refine q1n S0 (h:=?_)))
     refine lk2 (by rfl) (by exact (Eq.refl true)) ?_;refine cl (some 38) Try.func39 (spec_l1Least.calls _ _ _ _ A45) (hargs:=by (simp only [ma_,mb_,mc_,F] <;> rfl)) (h:=?_);rintro e W ⟨rfl,hb⟩;refine ⟨_,rfl,?_⟩;replace S:=S.gw hb;clear F hb;have F:=S.fc
     clear S0;have S0:=(S.pm [0,1]);refine ⟨S0,?_⟩
     refine lk2 (by rfl) (by exact (Eq.refl true)) ?_;refine cl (some 39) Try.func40 (spec_l1Cur_boardOf.calls _ gb460 _ _ _ _ _ _ _ _ _ _ _ _ _ _ S.hb (S.hge gb460) hr0 S.below A46) (hargs:=by (simp only [ma_,mb_,mc_,F] <;> rfl)) (h:=?_);rintro e W ⟨v499,rfl,ho0,hi,hb,hk⟩;refine ⟨_,rfl,?_⟩;obtain ⟨W_,hs_,hm_,S⟩:=S.mid gb460 hi hb hk;rw [← hs_] at ho0;replace S:=S.got at27 hm_ ho0;obtain ⟨At498,ct498,rfl,S⟩:=S;clear F hi hb hk hs_ hm_ ho0;have F:=S.fc
     clear S0;have S0:=(S.pm [1,2]);refine ⟨S0,?_⟩
     refine lk2 (by rfl) (by exact (Eq.refl true)) ?_;(first | refine sb (.agg #[_,_,_]) S sz25 ?_ | refine ro (.agg #[_,_,_]) S sz25 ?_ (ho:=rfl) (hx:=rfl) (hy:=rfl));(clear S F;intro W S;have F:=S.fc)
     clear S0;have S0:=(S.pm [1,2]);refine ⟨S0,?_⟩
     refine lk2 (by rfl) (by exact (Eq.refl true)) ?_;(first | refine sb (.agg #[_,_,_]) S sz25 ?_ | refine ro (.agg #[_,_,_]) S sz25 ?_ (ho:=rfl) (hx:=rfl) (hy:=rfl));(clear S F;intro W S;have F:=S.fc)
     clear S0;have S0:=(S.pm [1,2]);refine ⟨S0,?_⟩
     refine oz ?_
     try clear S0
     go_wp2_with (first | ((with_reducible refine gs (t:=25) rfl (L ?_));(first | refine sb (.agg #[_,_,_]) S sz25 ?_ | refine ro (.agg #[_,_,_]) S sz25 ?_ (ho:=rfl) (hx:=rfl) (hy:=rfl));(clear S F;intro W S;have F:=S.fc)))
     refine bodyPost_ret (results_cc rfl _ _ gb458 gb459 25 25 #[.int .i64 t461,.int .i64 t462,.slice At463 t463.length ct463] #[.int .i64 t496,.int .i64 t497,.slice At498 t498.length ct498] (0,0) (0,0) _ _ rfl S.hb Try.underlying25 rfl (by kernel_rfl) rfl S.hb Try.underlying25 rfl (by kernel_rfl)) rfl ?_
     exact ⟨_,_,(by first | rfl | (simp [e0_,e1_] <;> rfl) | (simp [*,e0_,e1_] <;> rfl)),(by first | exact S.qr | exact S.qq | exact Kd.Q_of_R S.rn | exact Kd.Q_of_R S.rq | exact Kd.Q_nil _ _ _ _ _),(by first | exact S.rq | exact S.rn | exact Kd.R_nil _ _ _ _ _),S.below⟩

/-! ### impl_BesideBoards: function 11 -/
mutual
def impl_BesideBoards.j0:Nat→Bool→Int→Int→List (S27)→Int→Int→List (S27)→Option (Int × Int × (List (S27)) × Bool)
 | 0,_,_,_,_,_,_,_=>none
 | k + 1,x30,x504000,x504001,x504002,x505000,x505001,x505002=>if x30 = true then (some (0,0,([]:List (S27)),false)) else (impl_BesideBoards.l0 k 0 x504000 x504001 x504002 x505000 x505001 x505002 x504000 (wrap64 (x504001 + x505001)) ([]:List (S27)))
def impl_BesideBoards.l0:Nat→Int→Int→Int→List (S27)→Int→Int→List (S27)→Int→Int→List (S27)→Option (Int × Int × (List (S27)) × Bool)
 | 0,_,_,_,_,_,_,_,_,_,_=>none
 | k + 1,x7,x504000,x504001,x504002,x505000,x505001,x505002,x509000,x509001,x509002=>if x7 < x504000 then (if 0 ≤ (wrap64 (x7 * x504001)) then (if (wrap64 (x7 * x504001)) ≤ (wrap64 ((wrap64 (x7 + 1)) * x504001)) then (if (wrap64 ((wrap64 (x7 + 1)) * x504001)) ≤ (x504002.length:Int) then ((some ((x504002.take ((wrap64 ((wrap64 (x7 + 1)) * x504001)):Int).toNat).drop ((wrap64 (x7 * x504001)):Int).toNat:List (S27))).bind fun y509=>(if x509002.length + y509.length < 8796093022208 then ((some (x509002 ++ y509:List (S27))).bind fun y513=>(if 0 ≤ (wrap64 (x7 * x505001)) then (if (wrap64 (x7 * x505001)) ≤ (wrap64 ((wrap64 (x7 + 1)) * x505001)) then (if (wrap64 ((wrap64 (x7 + 1)) * x505001)) ≤ (x505002.length:Int) then ((some ((x505002.take ((wrap64 ((wrap64 (x7 + 1)) * x505001)):Int).toNat).drop ((wrap64 (x7 * x505001)):Int).toNat:List (S27))).bind fun y516=>(if y513.length + y516.length < 8796093022208 then (impl_BesideBoards.l0 k (wrap64 (x7 + 1)) x504000 x504001 x504002 x505000 x505001 x505002 x509000 x509001 (y513 ++ y516)) else (none))) else (none)) else (none)) else (none))) else (none))) else (none)) else (none)) else (none)) else (some (x509000,x509001,x509002,true))
end
def impl_BesideBoards.f (k:Nat) (a0_0:Int) (a0_1:Int) (l0_2:List (S27)) (a1_0:Int) (a1_1:Int) (l1_2:List (S27)):Option (Int × Int × (List (S27)) × Bool):=(impl_IsBoard.f k a0_0 a0_1 l0_2).bind fun t506=>(if t506 = true then ((impl_IsBoard.f k a1_0 a1_1 l1_2).bind fun t507=>(if t507 = true then (if a0_0 = a1_0 then (impl_BesideBoards.j0 k (decide ((wrap64 (a0_1 + a1_1)) > 9)) a0_0 a0_1 l0_2 a1_0 a1_1 l1_2) else (impl_BesideBoards.j0 k true a0_0 a0_1 l0_2 a1_0 a1_1 l1_2)) else (impl_BesideBoards.j0 k true a0_0 a0_1 l0_2 a1_0 a1_1 l1_2))) else (impl_BesideBoards.j0 k true a0_0 a0_1 l0_2 a1_0 a1_1 l1_2))
def impl_BesideBoards.T7:Bool × List (List Nat × List Nat):=(true,[([],[]),([0],[0]),([],[]),([2],[2]),([],[]),([],[]),([5],[5]),([4,6],[4,6]),([],[]),([8],[8]),([],[]),([10],[10]),([9,11],[9,11]),([3,7,12],[3,7,12]),([1,13],[1,13]),([0,1,2,3,4,5,6,7,8,9,10,11,12,13,14],[]),([15,14,14,0,1,2,3,4,5,6,7,8,9,10,11,12,13,14],[14,15])])
def impl_BesideBoards.B7:List Nat:=[0,1,0,4,0,0,32,112,0,256,0,1024,3840,8188,16383,32767,65535]
theorem impl_BesideBoards.tab7:rtab .any (opsOf Try.f11 7) = impl_BesideBoards.T7:=by kernel_rfl
theorem impl_BesideBoards.bits7:waitsOk impl_BesideBoards.T7.2 impl_BesideBoards.B7 = true:=by kernel_rfl
def impl_BesideBoards.T8:Bool × List (List Nat × List Nat):=(true,[([],[]),([0],[0]),([],[]),([2],[2]),([],[]),([],[]),([5],[5]),([4,6],[4,6]),([],[]),([8],[8]),([],[]),([10],[10]),([9,11],[9,11]),([3,7,12],[3,7,12]),([1,13],[1,13]),([0,1,2,3,4,5,6,7,8,9,10,11,12,13,14],[]),([15,14,14,0,1,2,3,4,5,6,7,8,9,10,11,12,13,14],[14,15])])
def impl_BesideBoards.B8:List Nat:=[0,1,0,4,0,0,32,112,0,256,0,1024,3840,8188,16383,32767,65535]
theorem impl_BesideBoards.tab8:rtab .any (opsOf Try.f11 8) = impl_BesideBoards.T8:=by kernel_rfl
theorem impl_BesideBoards.bits8:waitsOk impl_BesideBoards.T8.2 impl_BesideBoards.B8 = true:=by kernel_rfl
theorem impl_BesideBoards.calls (k:Nat) (a0_0:Int) (a0_1:Int) (A0_2:Option Addr) (c0_2:Nat) (l0_2:List (S27)) (a1_0:Int) (a1_1:Int) (A1_2:Option Addr) (c1_2:Nat) (l1_2:List (S27)) (r1:Int) (r2:Int) (r3:List (S27)) (r4:Bool) (w:World) (hr0_2:Kd.C k27 w A0_2 l0_2.length l0_2) (hc0_2:l0_2.length ≤ c0_2) (hr1_2:Kd.C k27 w A1_2 l1_2.length l1_2) (hc1_2:l1_2.length ≤ c1_2) (h:impl_BesideBoards.f k a0_0 a0_1 l0_2 a1_0 a1_1 l1_2 = some (r1,r2,r3,r4)) :
  Calls Try.prog 11 #[.agg #[.int .i64 a0_0,.int .i64 a0_1,.slice A0_2 l0_2.length c0_2],.agg #[.int .i64 a1_0,.int .i64 a1_1,.slice A1_2 l1_2.length c1_2]] w fun e w'=>∃ v2_:Value,e = .returned (.tuple #[.agg #[.int .i64 r1,.int .i64 r2,v2_],.bool r4])∧Kd.R k27 27 w' w.heap.size (fun _=>True) v2_ r3∧Below w.heap.size w w':=by
 have HR0_2:=Aside0.mk hr0_2;have HC0_2:=Aside0.mk hc0_2;clear hr0_2 hc0_2;have HR1_2:=Aside0.mk hr1_2;have HC1_2:=Aside0.mk hc1_2;clear hr1_2 hc1_2;have HB:=Aside0.mk (Below.refl w.heap.size w);have H:((impl_IsBoard.f k a0_0 a0_1 l0_2).bind fun t506=>(if t506 = true then ((impl_IsBoard.f k a1_0 a1_1 l1_2).bind fun t507=>(if t507 = true then (if a0_0 = a1_0 then (impl_BesideBoards.j0 k (decide ((wrap64 (a0_1 + a1_1)) > 9)) a0_0 a0_1 l0_2 a1_0 a1_1 l1_2) else (impl_BesideBoards.j0 k true a0_0 a0_1 l0_2 a1_0 a1_1 l1_2)) else (impl_BesideBoards.j0 k true a0_0 a0_1 l0_2 a1_0 a1_1 l1_2))) else (impl_BesideBoards.j0 k true a0_0 a0_1 l0_2 a1_0 a1_1 l1_2))) = some (r1,r2,r3,r4):=h;clear h;have HC3:=Aside0.mk H;clear H;go_enter Try.func11,Try.ntmps11;go_upto_region 1 with (first | ((with_reducible refine gate_dst (N:=2) rfl ?_);refine box_event ?hg (N:=2) ?hd (cs:=#[.int .i64 a0_0,.int .i64 a0_1,.slice A0_2 l0_2.length c0_2]) (t:=25) ?hr ?_;(case hd=>rfl);(case hg=>rfl);(case hr=>first | (go_simp;done) | (go_simp;rfl));intro gb503 hg w4 hbox hb;refine ev4 (bs HB hb) (hbox) (gle hg HB) (gle hg HB) ?_;clear HB;intro HB BK503 GW503 GE503;clear hb hbox hg) | ((with_reducible refine gate_dst (N:=3) rfl ?_);refine box_event ?hg (N:=3) ?hd (cs:=#[.int .i64 a1_0,.int .i64 a1_1,.slice A1_2 l1_2.length c1_2]) (t:=25) ?hr ?_;(case hd=>rfl);(case hg=>rfl);(case hr=>first | (go_simp;done) | (go_simp;rfl));intro gb504 hg w5 hbox hb;refine ev7 (kb BK503 hb) (bs HB hb) (hbox) (gle hg HB) (gle hg HB) (gnf hg BK503) (gne hg BK503) ?_;clear BK503 HB;intro BK503 HB BK504 GW504 GE504 NB503_504 NB504_503;clear hb hbox hg) | ((with_reducible refine gate_dst (N:=4) rfl ?_);refine box_event ?hg (N:=4) ?hd (cs:=#[.int .i64 0,.int .i64 0,.slice none 0 0]) (t:=25) ?hr ?_;(case hd=>rfl);(case hg=>rfl);(case hr=>first | (go_simp;done) | (go_simp;rfl));intro gb505 hg w6 hbox hb;refine ev10 (kb BK503 hb) (kb BK504 hb) (bs HB hb) (hbox) (gle hg HB) (gle hg HB) (gnf hg BK503) (gne hg BK503) (gnf hg BK504) (gne hg BK504) ?_;clear BK503 BK504 HB;intro BK503 BK504 HB BK505 GW505 GE505 NB503_505 NB505_503 NB504_505 NB505_504;clear hb hbox hg))
 (try simp only [Act.put,za_,zb_,zc_])
 go_cut [30] (fun v30 wc=>∃ (kq:Nat) (x30_2:Bool),v30 = .bool x30_2∧Aside0 (impl_BesideBoards.j0 kq x30_2 a0_0 a0_1 l0_2 a1_0 a1_1 l1_2 = some (r1,r2,r3,r4))∧Aside0 (kq ≤ k)∧Aside0 (wc.heap[gb503]? = some (.cells #[.int .i64 a0_0,.int .i64 a0_1,(.slice A0_2 l0_2.length c0_2)] 25 (0,0)))∧Aside0 (wc.heap[gb504]? = some (.cells #[.int .i64 a1_0,.int .i64 a1_1,(.slice A1_2 l1_2.length c1_2)] 25 (0,0)))∧Aside0 (wc.heap[gb505]? = some (.cells #[.int .i64 0,.int .i64 0,(.slice none 0 0)] 25 (0,0)))∧Aside0 (Below w.heap.size w wc))
 case first =>
  have H:=HC3.out;clear HC3;replace H:=Option.bind_eq_some_iff.mp H;obtain ⟨t506,A70,H⟩:=H;(try dsimp only at H)
  have A7:=Aside0.mk A70;clear A70;by_cases c8:t506 = true
  ·subst c8;have H1:((impl_IsBoard.f k a1_0 a1_1 l1_2).bind fun t507=>(if t507 = true then (if a0_0 = a1_0 then (impl_BesideBoards.j0 k (decide ((wrap64 (a0_1 + a1_1)) > 9)) a0_0 a0_1 l0_2 a1_0 a1_1 l1_2) else (impl_BesideBoards.j0 k true a0_0 a0_1 l0_2 a1_0 a1_1 l1_2)) else (impl_BesideBoards.j0 k true a0_0 a0_1 l0_2 a1_0 a1_1 l1_2))) = some (r1,r2,r3,r4):=by rw [if_pos rfl] at H;exact H
   clear H;have H:=H1;clear H1;replace H:=Option.bind_eq_some_iff.mp H;obtain ⟨t507,A90,H⟩:=H;(try dsimp only at H)
   have A9:=Aside0.mk A90;clear A90;by_cases c10:t507 = true
   ·subst c10;have H1:(if a0_0 = a1_0 then (impl_BesideBoards.j0 k (decide ((wrap64 (a0_1 + a1_1)) > 9)) a0_0 a0_1 l0_2 a1_0 a1_1 l1_2) else (impl_BesideBoards.j0 k true a0_0 a0_1 l0_2 a1_0 a1_1 l1_2)) = some (r1,r2,r3,r4):=by rw [if_pos rfl] at H;exact H
    clear H;have H:=H1;clear H1;by_cases c11:a0_0 = a1_0
    ·rw [if_pos c11] at H;have c11b0:(a0_0 == a1_0) = true:=beq_iff_eq.mpr c11;have c11b1:(a0_0 != a1_0) = false:=bne_eq_false_iff_eq.mpr c11;clear c11;(first | rw [c11b0] | (simp only [i64_w,i32_w];rw [c11b0]) | skip)
     have H':=Aside0.mk H;clear H;have hnb12:=NB503_504.out;have hnc12:=NB504_503.out;have hnb13:=NB503_505.out;have hnc13:=NB505_503.out;obtain ⟨hcz14_0,hcz14_1,hcz14_2,hfz14_0,hfz14_1,hfz14_2⟩:=bt3 BK503;go_wp2_with (first | ((with_reducible refine gate_callee (f:=25) rfl ?_);refine gL_ (some 9) Try.func25 #[.agg #[.int .i64 a0_0,.int .i64 a0_1,.slice A0_2 l0_2.length c0_2]] (h:=?_);(with_reducible refine (impl_IsBoard.calls k a0_0 a0_1 _ _ l0_2 true _ (Kd.C_mv (Kd.C_below HR0_2.out HB.out)) HC0_2.out A7.out).mono ?_);rintro e w15 ⟨rfl,hb⟩;refine ⟨_,rfl,?_⟩;refine ev4 (kb BK503 hb) (kb BK504 hb) (kb BK505 hb) (bs HB hb) ?_;clear BK503 BK504 BK505 HB;intro BK503 BK504 BK505 HB;(try clear hb);have hnb16:=NB504_505.out;have hnc16:=NB505_504.out;obtain ⟨hcz17_0,hcz17_1,hcz17_2,hfz17_0,hfz17_1,hfz17_2⟩:=bt3 BK504) | (go_at_call 25;(with_reducible refine (impl_IsBoard.calls k a1_0 a1_1 _ _ l1_2 true _ (Kd.C_mv (Kd.C_below HR1_2.out HB.out)) HC1_2.out A9.out).mono ?_);rintro e w18 ⟨rfl,hb⟩;refine ev4 (kb BK503 hb) (kb BK504 hb) (kb BK505 hb) (bs HB hb) ?_;clear BK503 BK504 BK505 HB;intro BK503 BK504 BK505 HB;(try clear hb);obtain ⟨hcz19_0,hcz19_1,hcz19_2,hfz19_0,hfz19_1,hfz19_2⟩:=bt3 BK503;obtain ⟨hcz20_0,hcz20_1,hcz20_2,hfz20_0,hfz20_1,hfz20_2⟩:=bt3 BK504))
     go_meet
     case rel=>exact ⟨_,(decide ((wrap64 (a0_1 + a1_1)) > 9)),(by first | rfl | (simp;done) | (simp [*];done)),H',⟨by first | omega | exact Nat.le_refl _⟩,⟨km_ BK503⟩,⟨km_ BK504⟩,⟨km_ BK505⟩,⟨bm HB⟩⟩
    ·rw [if_neg c11] at H;have c11b0:(a0_0 == a1_0) = false:=beq_eq_false_iff_ne.mpr c11;have c11b1:(a0_0 != a1_0) = true:=bne_iff_ne.mpr c11;(first | rw [c11b0] | (simp only [i64_w,i32_w];rw [c11b0]) | skip)
     have H':=Aside0.mk H;clear H;have hnb21:=NB503_504.out;have hnc21:=NB504_503.out;have hnb22:=NB503_505.out;have hnc22:=NB505_503.out;obtain ⟨hcz23_0,hcz23_1,hcz23_2,hfz23_0,hfz23_1,hfz23_2⟩:=bt3 BK503;go_wp2_with (first | ((with_reducible refine gate_callee (f:=25) rfl ?_);refine gL_ (some 9) Try.func25 #[.agg #[.int .i64 a0_0,.int .i64 a0_1,.slice A0_2 l0_2.length c0_2]] (h:=?_);(with_reducible refine (impl_IsBoard.calls k a0_0 a0_1 _ _ l0_2 true _ (Kd.C_mv (Kd.C_below HR0_2.out HB.out)) HC0_2.out A7.out).mono ?_);rintro e w24 ⟨rfl,hb⟩;refine ⟨_,rfl,?_⟩;refine ev4 (kb BK503 hb) (kb BK504 hb) (kb BK505 hb) (bs HB hb) ?_;clear BK503 BK504 BK505 HB;intro BK503 BK504 BK505 HB;(try clear hb);have hnb25:=NB504_505.out;have hnc25:=NB505_504.out;obtain ⟨hcz26_0,hcz26_1,hcz26_2,hfz26_0,hfz26_1,hfz26_2⟩:=bt3 BK504) | (go_at_call 25;(with_reducible refine (impl_IsBoard.calls k a1_0 a1_1 _ _ l1_2 true _ (Kd.C_mv (Kd.C_below HR1_2.out HB.out)) HC1_2.out A9.out).mono ?_);rintro e w27 ⟨rfl,hb⟩;refine ev4 (kb BK503 hb) (kb BK504 hb) (kb BK505 hb) (bs HB hb) ?_;clear BK503 BK504 BK505 HB;intro BK503 BK504 BK505 HB;(try clear hb);obtain ⟨hcz28_0,hcz28_1,hcz28_2,hfz28_0,hfz28_1,hfz28_2⟩:=bt3 BK503;obtain ⟨hcz29_0,hcz29_1,hcz29_2,hfz29_0,hfz29_1,hfz29_2⟩:=bt3 BK504))
     go_meet
     case rel=>exact ⟨_,(true),(by first | rfl | (simp;done) | (simp [*];done)),H',⟨by first | omega | exact Nat.le_refl _⟩,⟨km_ BK503⟩,⟨km_ BK504⟩,⟨km_ BK505⟩,⟨bm HB⟩⟩
   ·replace c10:=Bool.eq_false_iff.mpr c10;subst c10;have H1:(impl_BesideBoards.j0 k true a0_0 a0_1 l0_2 a1_0 a1_1 l1_2) = some (r1,r2,r3,r4):=by rw [if_neg (show ¬ (false = true) by decide)] at H;exact H
    clear H;have H:=H1;clear H1;have H':=Aside0.mk H;clear H;have hnb30:=NB503_504.out;have hnc30:=NB504_503.out;have hnb31:=NB503_505.out;have hnc31:=NB505_503.out;obtain ⟨hcz32_0,hcz32_1,hcz32_2,hfz32_0,hfz32_1,hfz32_2⟩:=bt3 BK503;go_wp2_with (first | ((with_reducible refine gate_callee (f:=25) rfl ?_);refine gL_ (some 9) Try.func25 #[.agg #[.int .i64 a0_0,.int .i64 a0_1,.slice A0_2 l0_2.length c0_2]] (h:=?_);(with_reducible refine (impl_IsBoard.calls k a0_0 a0_1 _ _ l0_2 true _ (Kd.C_mv (Kd.C_below HR0_2.out HB.out)) HC0_2.out A7.out).mono ?_);rintro e w33 ⟨rfl,hb⟩;refine ⟨_,rfl,?_⟩;refine ev4 (kb BK503 hb) (kb BK504 hb) (kb BK505 hb) (bs HB hb) ?_;clear BK503 BK504 BK505 HB;intro BK503 BK504 BK505 HB;(try clear hb);have hnb34:=NB504_505.out;have hnc34:=NB505_504.out;obtain ⟨hcz35_0,hcz35_1,hcz35_2,hfz35_0,hfz35_1,hfz35_2⟩:=bt3 BK504) | (go_at_call 25;(with_reducible refine (impl_IsBoard.calls k a1_0 a1_1 _ _ l1_2 false _ (Kd.C_mv (Kd.C_below HR1_2.out HB.out)) HC1_2.out A9.out).mono ?_);rintro e w36 ⟨rfl,hb⟩;refine ev4 (kb BK503 hb) (kb BK504 hb) (kb BK505 hb) (bs HB hb) ?_;clear BK503 BK504 BK505 HB;intro BK503 BK504 BK505 HB;(try clear hb)))
    go_meet
    case rel=>exact ⟨_,(true),(by first | rfl | (simp;done) | (simp [*];done)),H',⟨by first | omega | exact Nat.le_refl _⟩,⟨km_ BK503⟩,⟨km_ BK504⟩,⟨km_ BK505⟩,⟨bm HB⟩⟩
  ·replace c8:=Bool.eq_false_iff.mpr c8;subst c8;have H1:(impl_BesideBoards.j0 k true a0_0 a0_1 l0_2 a1_0 a1_1 l1_2) = some (r1,r2,r3,r4):=by rw [if_neg (show ¬ (false = true) by decide)] at H;exact H
   clear H;have H:=H1;clear H1;have H':=Aside0.mk H;clear H;have hnb37:=NB503_504.out;have hnc37:=NB504_503.out;have hnb38:=NB503_505.out;have hnc38:=NB505_503.out;obtain ⟨hcz39_0,hcz39_1,hcz39_2,hfz39_0,hfz39_1,hfz39_2⟩:=bt3 BK503;go_wp2_with (first | ((with_reducible refine gate_callee (f:=25) rfl ?_);refine gL_ (some 9) Try.func25 #[.agg #[.int .i64 a0_0,.int .i64 a0_1,.slice A0_2 l0_2.length c0_2]] (h:=?_);(with_reducible refine (impl_IsBoard.calls k a0_0 a0_1 _ _ l0_2 false _ (Kd.C_mv (Kd.C_below HR0_2.out HB.out)) HC0_2.out A7.out).mono ?_);rintro e w40 ⟨rfl,hb⟩;refine ⟨_,rfl,?_⟩;refine ev4 (kb BK503 hb) (kb BK504 hb) (kb BK505 hb) (bs HB hb) ?_;clear BK503 BK504 BK505 HB;intro BK503 BK504 BK505 HB;(try clear hb)))
   go_meet
   case rel=>exact ⟨_,(true),(by first | rfl | (simp;done) | (simp [*];done)),H',⟨by first | omega | exact Nat.le_refl _⟩,⟨km_ BK503⟩,⟨km_ BK504⟩,⟨km_ BK505⟩,⟨bm HB⟩⟩
 case rest =>
  clear HC3;(try clear c1);(try clear p6);(try clear c11);obtain ⟨kq,x30_2,rfl,HA,HJ2,BK503,BK504,BK505,HB⟩:=hcut;cases kq with
  | zero=>exact absurd HA.out (by simp [impl_BesideBoards.j0])
  | succ kj2 =>
   have H:=HA.out;clear HA;simp only [impl_BesideBoards.j0] at H;by_cases c41:x30_2 = true
   ·subst c41;have H1:(some (0,0,([]:List (S27)),false)) = some (r1,r2,r3,r4):=by rw [if_pos rfl] at H;exact H
    clear H;have H:=H1;clear H1;simp only [Option.some.injEq,Prod.mk.injEq] at H;obtain ⟨rfl,rfl,rfl,rfl⟩:=H;have hnb42:=NB505_503.out;have hnc42:=NB503_505.out;have hnb43:=NB505_504.out;have hnc43:=NB504_505.out;obtain ⟨hcz44_0,hcz44_1,hcz44_2,hfz44_0,hfz44_1,hfz44_2⟩:=bt3 BK505;go_wp2;refine bodyPost_ret (results_ct rfl _ _ gb505 25 #[.int .i64 0,.int .i64 0,.slice none 0 0] (0,0) _ rfl (fp BK505 rfl) Try.underlying25 rfl (by kernel_rfl)) rfl ?_;exact ⟨_,by first | rfl | (simp [e0_,e1_] <;> rfl) | (simp [*,e0_,e1_] <;> rfl),by first | exact Kd.R_nil _ _ _ _ _ | exact Kd.N_nil _ _ _ _ _ | exact Kd.V_nil _ _ _ _ _ | exact Kd.Q_nil _ _ _ _ _ | exact Kd.S_nil _ _ _ _ _,bm HB⟩
   ·replace c41:=Bool.eq_false_iff.mpr c41;subst c41;have H1:(impl_BesideBoards.l0 kj2 0 a0_0 a0_1 l0_2 a1_0 a1_1 l1_2 a0_0 (wrap64 (a0_1 + a1_1)) ([]:List (S27))) = some (r1,r2,r3,r4):=by rw [if_neg (show ¬ (false = true) by decide)] at H;exact H
    clear H;have H:=H1;clear H1;have H':=Aside0.mk H;clear H;have hnb45:=NB503_504.out;have hnc45:=NB504_503.out;have hnb46:=NB503_505.out;have hnc46:=NB505_503.out;obtain ⟨hcz47_0,hcz47_1,hcz47_2,hfz47_0,hfz47_1,hfz47_2⟩:=bt3 BK503;have hnb48:=NB504_505.out;have hnc48:=NB505_504.out;obtain ⟨hcz49_0,hcz49_1,hcz49_2,hfz49_0,hfz49_1,hfz49_2⟩:=bt3 BK504;go_wp2_with (first | ((with_reducible refine gate_dst (N:=6) rfl ?_);refine box_event ?hg (N:=6) ?hd (cs:=#[.int .i64 0,.int .i64 0,.slice none 0 0]) (t:=25) ?hr ?_;(case hd=>rfl);(case hg=>rfl);(case hr=>first | (go_simp;done) | (go_simp;rfl));intro gb508 hg w50 hbox hb;refine ev12 (kb BK503 hb) (kb BK504 hb) (kb BK505 hb) (bs HB hb) (hbox) (gle hg HB) (gle hg HB) (gnf hg BK503) (gne hg BK503) (gnf hg BK504) (gne hg BK504) (gnf hg BK505) ?_;intro n0_ n1_ n2_ n3_ n4_ n5_ n6_ n7_ n8_ n9_ n10_ n11_;refine ev1 (gne hg BK505) ?_;intro n12_;clear BK503 BK504 BK505 HB;revert n0_ n1_ n2_ n3_ n4_ n5_ n6_ n7_ n8_ n9_ n10_ n11_ n12_;intro BK503 BK504 BK505 HB BK508 GW508 GE508 NB503_508 NB508_503 NB504_508 NB508_504 NB505_508 NB508_505;clear hb hbox hg;have hnb51:=NB508_503.out;have hnc51:=NB503_508.out;have hnb52:=NB508_504.out;have hnc52:=NB504_508.out;have hnb53:=NB508_505.out;have hnc53:=NB505_508.out;obtain ⟨hcz54_0,hcz54_1,hcz54_2,hfz54_0,hfz54_1,hfz54_2⟩:=bt3 BK508))
    go_loopg [7] kj2 (fun kq v7 w'=>∃ (x7_2:Int) (x509002_2:List (S27)) (u509002:Value),v7 = .int .i64 x7_2∧Aside0 (impl_BesideBoards.l0 kq x7_2 a0_0 a0_1 l0_2 a1_0 a1_1 l1_2 a0_0 (wrap64 (a0_1 + a1_1)) x509002_2 = some (r1,r2,r3,r4))∧Aside0 (kq ≤ kj2)∧Aside0 (Kd.R k27 27 w' w.heap.size (fun _=>True) u509002 x509002_2)∧Aside0 (w'.heap[gb503]? = some (.cells #[.int .i64 a0_0,.int .i64 a0_1,(.slice A0_2 l0_2.length c0_2)] 25 (0,0)))∧Aside0 (w'.heap[gb504]? = some (.cells #[.int .i64 a1_0,.int .i64 a1_1,(.slice A1_2 l1_2.length c1_2)] 25 (0,0)))∧Aside0 (w'.heap[gb505]? = some (.cells #[.int .i64 0,.int .i64 0,(.slice none 0 0)] 25 (0,0)))∧Aside0 (w'.heap[gb508]? = some (.cells #[.int .i64 a0_0,.int .i64 (wrap64 (a0_1 + a1_1)),u509002] 25 (0,0)))∧Aside0 (Below w.heap.size w w'))
    case atStart=>exact ⟨(0),(([]:List (S27))),(.slice none 0 0),(by first | rfl | (simp;done) | (simp [*];done)),H',⟨Nat.le_refl _⟩,⟨by first | exact Kd.R_nil _ _ _ _ _ | exact Kd.N_nil _ _ _ _ _ | exact Kd.V_nil _ _ _ _ _ | exact Kd.Q_nil _ _ _ _ _ | exact Kd.S_nil _ _ _ _ _⟩,⟨fp BK503 rfl⟩,⟨fp BK504 rfl⟩,⟨fp BK505 rfl⟩,⟨fp BK508 rfl⟩,⟨bm HB⟩⟩
    case round =>
     clear H';(try clear c1);(try clear p2);(try clear c4);(try clear c5);(try clear p6);(try clear c11);(try clear c41);(try clear c45);(try clear c46);(try clear c48);(try clear c51);(try clear c52);(try clear c53);(try clear hcz47_0 hcz47_1 hcz47_2 hfz47_0 hfz47_1 hfz47_2);(try clear hcz49_0 hcz49_1 hcz49_2 hfz49_0 hfz49_1 hfz49_2);(try clear hcz54_0 hcz54_1 hcz54_2 hfz54_0 hfz54_1 hfz54_2);(try clear p6);obtain ⟨x7_2,x509002_2,u509002,rfl,HA,HK2,HO_509002,BK503,BK504,BK505,BK508,HB⟩:=hrel;cases gk with
     | zero=>exact absurd HA.out (by simp [impl_BesideBoards.l0])
     | succ k2 =>
      have H:=HA.out;clear HA;simp only [impl_BesideBoards.l0] at H;by_cases c55:x7_2 < a0_0
      ·rw [if_pos c55] at H;have c55b0:decide (x7_2 < a0_0) = true:=decide_eq_true c55;clear c55;obtain ⟨ji56,hji56⟩:∃ j_:Int,(wrap64 (x7_2 * a0_1)) = j_:=⟨_,rfl⟩
       replace H:(if 0 ≤ (ji56) then (if (ji56) ≤ (wrap64 ((wrap64 (x7_2 + 1)) * a0_1)) then (if (wrap64 ((wrap64 (x7_2 + 1)) * a0_1)) ≤ (l0_2.length:Int) then ((some ((l0_2.take ((wrap64 ((wrap64 (x7_2 + 1)) * a0_1)):Int).toNat).drop ((ji56):Int).toNat:List (S27))).bind fun y509=>(if x509002_2.length + y509.length < 8796093022208 then ((some (x509002_2 ++ y509:List (S27))).bind fun y513=>(if 0 ≤ (wrap64 (x7_2 * a1_1)) then (if (wrap64 (x7_2 * a1_1)) ≤ (wrap64 ((wrap64 (x7_2 + 1)) * a1_1)) then (if (wrap64 ((wrap64 (x7_2 + 1)) * a1_1)) ≤ (l1_2.length:Int) then ((some ((l1_2.take ((wrap64 ((wrap64 (x7_2 + 1)) * a1_1)):Int).toNat).drop ((wrap64 (x7_2 * a1_1)):Int).toNat:List (S27))).bind fun y516=>(if y513.length + y516.length < 8796093022208 then (impl_BesideBoards.l0 k2 (wrap64 (x7_2 + 1)) a0_0 a0_1 l0_2 a1_0 a1_1 l1_2 a0_0 (wrap64 (a0_1 + a1_1)) (y513 ++ y516)) else (none))) else (none)) else (none)) else (none))) else (none))) else (none)) else (none)) else (none)) = some (r1,r2,r3,r4):=by first | (rw [hji56] at H;exact H) | (simp only [hji56] at H ⊢;exact H)
       have hji56w:(IntKind.i64.wrap (x7_2 * a0_1)) = ji56:=(i64_w _).trans hji56;replace H:=np_ H;obtain ⟨c57,H⟩:=H;have c57b0:=eq_true c57;have c57b1:decide (0 ≤ (ji56)) = true:=decide_eq_true c57;clear c57;replace H:=np_ H;obtain ⟨c58,H⟩:=H;have c58b0:=eq_true c58;have c58b1:decide ((ji56) ≤ (wrap64 ((wrap64 (x7_2 + 1)) * a0_1))) = true:=decide_eq_true c58;replace H:=np_ H;obtain ⟨c59,H⟩:=H;have c59b0:=eq_true c59;have c59b1:decide ((wrap64 ((wrap64 (x7_2 + 1)) * a0_1)) ≤ (l0_2.length:Int)) = true:=decide_eq_true c59;obtain ⟨y509,hy509⟩:∃ y_:List (S27),y_ = ((l0_2.take ((wrap64 ((wrap64 (x7_2 + 1)) * a0_1)):Int).toNat).drop ((ji56):Int).toNat):=⟨_,rfl⟩
       replace H:(if x509002_2.length + y509.length < 8796093022208 then ((some (x509002_2 ++ y509:List (S27))).bind fun y513=>(if 0 ≤ (wrap64 (x7_2 * a1_1)) then (if (wrap64 (x7_2 * a1_1)) ≤ (wrap64 ((wrap64 (x7_2 + 1)) * a1_1)) then (if (wrap64 ((wrap64 (x7_2 + 1)) * a1_1)) ≤ (l1_2.length:Int) then ((some ((l1_2.take ((wrap64 ((wrap64 (x7_2 + 1)) * a1_1)):Int).toNat).drop ((wrap64 (x7_2 * a1_1)):Int).toNat:List (S27))).bind fun y516=>(if y513.length + y516.length < 8796093022208 then (impl_BesideBoards.l0 k2 (wrap64 (x7_2 + 1)) a0_0 a0_1 l0_2 a1_0 a1_1 l1_2 a0_0 (wrap64 (a0_1 + a1_1)) (y513 ++ y516)) else (none))) else (none)) else (none)) else (none))) else (none)) = some (r1,r2,r3,r4):=by first | (rw [hy509];with_reducible exact H) | (have H2_:=(Option.bind_some _ _).symm.trans H;rw [hy509];with_reducible exact H2_) | (have H2_:=(Option.bind_some _ _).symm.trans H;with_reducible exact H2_) | with_reducible exact H | (rw [hy509];exact H) | exact H
       have Ny509:=Aside0.mk hy509;clear hy509;replace H:=np_ H;obtain ⟨c60,H⟩:=H;have LMc60:=Aside0.mk c60;clear c60;obtain ⟨y513,hy513⟩:∃ y_:List (S27),y_ = (x509002_2 ++ y509):=⟨_,rfl⟩
       replace H:(if 0 ≤ (wrap64 (x7_2 * a1_1)) then (if (wrap64 (x7_2 * a1_1)) ≤ (wrap64 ((wrap64 (x7_2 + 1)) * a1_1)) then (if (wrap64 ((wrap64 (x7_2 + 1)) * a1_1)) ≤ (l1_2.length:Int) then ((some ((l1_2.take ((wrap64 ((wrap64 (x7_2 + 1)) * a1_1)):Int).toNat).drop ((wrap64 (x7_2 * a1_1)):Int).toNat:List (S27))).bind fun y516=>(if y513.length + y516.length < 8796093022208 then (impl_BesideBoards.l0 k2 (wrap64 (x7_2 + 1)) a0_0 a0_1 l0_2 a1_0 a1_1 l1_2 a0_0 (wrap64 (a0_1 + a1_1)) (y513 ++ y516)) else (none))) else (none)) else (none)) else (none)) = some (r1,r2,r3,r4):=by first | (rw [hy513];with_reducible exact H) | (have H2_:=(Option.bind_some _ _).symm.trans H;rw [hy513];with_reducible exact H2_) | (have H2_:=(Option.bind_some _ _).symm.trans H;with_reducible exact H2_) | with_reducible exact H | (rw [hy513];exact H) | exact H
       have Ny513:=Aside0.mk hy513;clear hy513;obtain ⟨ji61,hji61⟩:∃ j_:Int,(wrap64 (x7_2 * a1_1)) = j_:=⟨_,rfl⟩
       replace H:(if 0 ≤ (ji61) then (if (ji61) ≤ (wrap64 ((wrap64 (x7_2 + 1)) * a1_1)) then (if (wrap64 ((wrap64 (x7_2 + 1)) * a1_1)) ≤ (l1_2.length:Int) then ((some ((l1_2.take ((wrap64 ((wrap64 (x7_2 + 1)) * a1_1)):Int).toNat).drop ((ji61):Int).toNat:List (S27))).bind fun y516=>(if y513.length + y516.length < 8796093022208 then (impl_BesideBoards.l0 k2 (wrap64 (x7_2 + 1)) a0_0 a0_1 l0_2 a1_0 a1_1 l1_2 a0_0 (wrap64 (a0_1 + a1_1)) (y513 ++ y516)) else (none))) else (none)) else (none)) else (none)) = some (r1,r2,r3,r4):=by first | (rw [hji61] at H;exact H) | (simp only [hji61] at H ⊢;exact H)
       have hji61w:(IntKind.i64.wrap (x7_2 * a1_1)) = ji61:=(i64_w _).trans hji61;replace H:=np_ H;obtain ⟨c62,H⟩:=H;have c62b0:=eq_true c62;have c62b1:decide (0 ≤ (ji61)) = true:=decide_eq_true c62;clear c62;replace H:=np_ H;obtain ⟨c63,H⟩:=H;have c63b0:=eq_true c63;have c63b1:decide ((ji61) ≤ (wrap64 ((wrap64 (x7_2 + 1)) * a1_1))) = true:=decide_eq_true c63;replace H:=np_ H;obtain ⟨c64,H⟩:=H;have c64b0:=eq_true c64;have c64b1:decide ((wrap64 ((wrap64 (x7_2 + 1)) * a1_1)) ≤ (l1_2.length:Int)) = true:=decide_eq_true c64;obtain ⟨y516,hy516⟩:∃ y_:List (S27),y_ = ((l1_2.take ((wrap64 ((wrap64 (x7_2 + 1)) * a1_1)):Int).toNat).drop ((ji61):Int).toNat):=⟨_,rfl⟩
       replace H:(if y513.length + y516.length < 8796093022208 then (impl_BesideBoards.l0 k2 (wrap64 (x7_2 + 1)) a0_0 a0_1 l0_2 a1_0 a1_1 l1_2 a0_0 (wrap64 (a0_1 + a1_1)) (y513 ++ y516)) else (none)) = some (r1,r2,r3,r4):=by first | (rw [hy516];with_reducible exact H) | (have H2_:=(Option.bind_some _ _).symm.trans H;rw [hy516];with_reducible exact H2_) | (have H2_:=(Option.bind_some _ _).symm.trans H;with_reducible exact H2_) | with_reducible exact H | (rw [hy516];exact H) | exact H
       have Ny516:=Aside0.mk hy516;clear hy516;replace H:=np_ H;obtain ⟨c65,H⟩:=H;have LMc65:=Aside0.mk c65;clear c65;obtain ⟨y520,hy520⟩:∃ y_:List (S27),y_ = (y513 ++ y516):=⟨_,rfl⟩
       replace H:(impl_BesideBoards.l0 k2 (wrap64 (x7_2 + 1)) a0_0 a0_1 l0_2 a1_0 a1_1 l1_2 a0_0 (wrap64 (a0_1 + a1_1)) y520) = some (r1,r2,r3,r4):=by first | (rw [hy520];with_reducible exact H) | (have H2_:=(Option.bind_some _ _).symm.trans H;rw [hy520];with_reducible exact H2_) | (have H2_:=(Option.bind_some _ _).symm.trans H;with_reducible exact H2_) | with_reducible exact H | (rw [hy520];exact H) | exact H
       have Ny520:=Aside0.mk hy520;clear hy520;have H':=Aside0.mk H;clear H;have hnb66:=NB503_504.out;have hnc66:=NB504_503.out;have hnb67:=NB503_505.out;have hnc67:=NB505_503.out;have hnb68:=NB503_508.out;have hnc68:=NB508_503.out;obtain ⟨hcz69_0,hcz69_1,hcz69_2,hfz69_0,hfz69_1,hfz69_2⟩:=bt3 BK503;try go_wp2
       refine ev6 (Kd.R_drew HO_509002.out) (blk_drew BK503.out) (blk_drew BK504.out) (blk_drew BK505.out) (blk_drew BK508.out) (below_drew1 HB.out) ?_;clear HO_509002 BK503 BK504 BK505 BK508 HB;intro HO_509002 BK503 BK504 BK505 BK508 HB;have q71:((wrap64 ((wrap64 (x7_2 + 1)) * a0_1)):Int) ≤ ((l0_2.length:Int):Int):=of_decide_eq_true (by first | (with_reducible assumption) | assumption);obtain ⟨i071,hi071,_,hsz71,_⟩:=info_parts info27;have hroom71:l0_2.length ≤ c0_2:=HC0_2.out;have hC71:Kd.C k27 _ A0_2 l0_2.length l0_2:=HR0_2.out;have ql71:((ji56):Int) ≤ ((wrap64 ((wrap64 (x7_2 + 1)) * a0_1)):Int):=of_decide_eq_true (by first | (with_reducible assumption) | assumption);have q071:(0:Int) ≤ ((ji56):Int):=of_decide_eq_true (by first | (with_reducible assumption) | assumption);have hcut71:=cut_mid (P:=Try.prog) 23 27 .i64 .i64 Try.underlying23 hi071 2 hsz71 A0_2 l0_2.length c0_2 (ji56) (wrap64 ((wrap64 (x7_2 + 1)) * a0_1)) q071 ql71 q71 hroom71;have hr71:=Kd.C_mid (lo:=((ji56):Int).toNat) (hi:=((wrap64 ((wrap64 (x7_2 + 1)) * a0_1)):Int).toNat) (c:=c0_2) hC71 (by omega) (by omega) hroom71;obtain ⟨A71,hA71⟩:∃ A1,A1 = (if c0_2 = ((ji56):Int).toNat then A0_2 else (A0_2:Option Addr).map (·.add (((ji56):Int).toNat * 2))):=⟨_,rfl⟩
       obtain ⟨c71,hc71⟩:∃ c1,c1 = c0_2 - ((ji56):Int).toNat:=⟨_,rfl⟩
       have hy71:y509.length = ((wrap64 ((wrap64 (x7_2 + 1)) * a0_1)):Int).toNat - ((ji56):Int).toNat:=(by rw [Ny509.out,List.length_drop,List.length_take] <;> omega)
       rw [show ((l0_2).take ((wrap64 ((wrap64 (x7_2 + 1)) * a0_1)):Int).toNat).drop ((ji56):Int).toNat = y509 from Ny509.out.symm] at hr71;replace hr71:Kd.C k27 _ A71 y509.length y509:=(by rw [hA71];exact hr71)
       rw [← hy71,← hA71,← hc71] at hcut71;have HR512:=Aside0.mk hr71;have HC512:=Aside0.mk (show y509.length ≤ c71 from by rw [hy71,hc71];exact Nat.sub_le_sub_right (Nat.le_trans (by omega) hroom71) _);clear hr71 hC71 hroom71 hi071 hsz71 hc71;have KY71:=Aside0.mk hy71;have KA71:=Aside0.mk hA71;clear hy71 hA71;replace q71:=eq_true q71;refine start_ (n:=17) (S:=fun w'=>w'.cell? ⟨gb508,0,none⟩ = some (.int .i64 a0_0)∧w'.cell? ⟨gb508,1,none⟩ = some (.int .i64 (wrap64 (a0_1 + a1_1)))∧w'.cell? ⟨gb508,2,none⟩ = some (u509002)∧w'.cell? ⟨gb503,0,none⟩ = some (.int .i64 a0_0)∧w'.cell? ⟨gb503,1,none⟩ = some (.int .i64 a0_1)∧w'.cell? ⟨gb503,2,none⟩ = some (.slice A0_2 l0_2.length c0_2)) (ds:=[16]) #[Z,Z,Z,Z,Z,Z,Z,Z,Z,Z,Z,Z,Z,Z,Z,Z,Z] (by kernel_rfl) rfl rfl ⟨(blk_cell BK508.out 0).trans rfl,(blk_cell BK508.out 1).trans rfl,(blk_cell BK508.out 2).trans rfl,(blk_cell BK503.out 0).trans rfl,(blk_cell BK503.out 1).trans rfl,(blk_cell BK503.out 2).trans rfl⟩ (fun hHeld=>?_);refine with_tabW impl_BesideBoards.tab7 impl_BesideBoards.bits7 (fun HT_ HW_=>?_);generalize wr.drew = w70 at HO_509002 BK503 BK504 BK505 BK508 HB HR512 hHeld ⊢
       refine pA 0 (some 46) ?_ #[Y,Z,Z,Z,Z,Z,Z,Z,Z,Z,Z,Z,Z,Z,Z,Z,Z] rfl rfl HT_ (by kernel_rfl) (fun _ _ _ h=>h) (by rfl) ?_ ?_ ?_ ?_;rotate_left
       ·intro w';go_simp;with_reducible rfl
       rotate_left
       ·simp only [Act.put,za_,zb_,zc_,i64_w,i32_w];rfl
       refine pA 2 (some 48) ?_ #[Y,Z,Y,Z,Z,Z,Z,Z,Z,Z,Z,Z,Z,Z,Z,Z,Z] rfl rfl HT_ (by kernel_rfl) (fun _ _ _ h=>h) (by rfl) ?_ ?_ ?_ ?_;rotate_left
       ·intro w';go_simp;with_reducible rfl
       rotate_left
       ·simp only [Act.put,za_,zb_,zc_,i64_w,i32_w];rfl
       refine pA 4 (some 50) ?_ #[Y,Z,Y,Z,Y,Z,Z,Z,Z,Z,Z,Z,Z,Z,Z,Z,Z] rfl rfl HT_ (by kernel_rfl) (fun _ _ _ h=>h) (by rfl) ?_ ?_ ?_ ?_;rotate_left
       ·intro w';go_simp;with_reducible rfl
       rotate_left
       ·simp only [Act.put,za_,zb_,zc_,i64_w,i32_w];rfl
       refine pA 5 (some 51) ?_ #[Y,Z,Y,Z,Y,Y,Z,Z,Z,Z,Z,Z,Z,Z,Z,Z,Z] rfl rfl HT_ (by kernel_rfl) (fun _ _ _ h=>h) (by rfl) ?_ ?_ ?_ ?_;rotate_left
       ·intro w';go_simp;with_reducible rfl
       rotate_left
       ·simp only [Act.put,za_,zb_,zc_,i64_w,i32_w];rfl
       refine pA 8 (some 54) ?_ #[Y,Z,Y,Z,Y,Y,Z,Z,Y,Z,Z,Z,Z,Z,Z,Z,Z] rfl rfl HT_ (by kernel_rfl) (fun _ _ _ h=>h) (by rfl) ?_ ?_ ?_ ?_;rotate_left
       ·intro w';go_simp;with_reducible rfl
       rotate_left
       ·simp only [Act.put,za_,zb_,zc_,i64_w,i32_w];rfl
       refine pA 9 (some 55) ?_ #[Y,Z,Y,Z,Y,Y,Z,Z,Y,Y,Z,Z,Z,Z,Z,Z,Z] rfl rfl HT_ (by kernel_rfl) (fun _ _ _ h=>h) (by rfl) ?_ ?_ ?_ ?_;rotate_left
       ·intro w';go_simp;with_reducible rfl
       rotate_left
       ·simp only [Act.put,za_,zb_,zc_,i64_w,i32_w];rfl
       refine pA 10 (some 56) ?_ #[Y,Z,Y,Z,Y,Y,Z,Z,Y,Y,Y,Z,Z,Z,Z,Z,Z] rfl rfl HT_ (by kernel_rfl) (fun _ _ _ h=>h) (by rfl) ?_ ?_ ?_ ?_;rotate_left
       ·intro w';go_simp;with_reducible rfl
       rotate_left
       ·simp only [Act.put,za_,zb_,zc_,i64_w,i32_w];rfl
       refine tA 1 (some 47) ?_ #[Y,Y,Y,Z,Y,Y,Z,Z,Y,Y,Y,Z,Z,Z,Z,Z,Z] rfl rfl HT_ HW_ (by kernel_rfl) (fun _ _ _ h=>h) (by rfl) ?_ hHeld ?_ ?_ ?_;rotate_left
       ·rintro w' ⟨s0,s1,s2,s3,s4,s5⟩;go_simp;with_reducible rfl
       rotate_left
       ·simp only [Act.put,za_,zb_,zc_,i64_w,i32_w];rfl
       refine tA 3 (some 49) ?_ #[Y,Y,Y,Y,Y,Y,Z,Z,Y,Y,Y,Z,Z,Z,Z,Z,Z] rfl rfl HT_ HW_ (by kernel_rfl) (fun _ _ _ h=>h) (by rfl) ?_ hHeld ?_ ?_ ?_;rotate_left
       ·rintro w' ⟨s0,s1,s2,s3,s4,s5⟩;go_simp;with_reducible rfl
       rotate_left
       ·simp only [Act.put,za_,zb_,zc_,i64_w,i32_w];rfl
       refine tA 6 (some 52) ?_ #[Y,Y,Y,Y,Y,Y,Y,Z,Y,Y,Y,Z,Z,Z,Z,Z,Z] rfl rfl HT_ HW_ (by kernel_rfl) (fun _ _ _ h=>h) (by rfl) ?_ hHeld ?_ ?_ ?_;rotate_left
       ·rintro w' ⟨s0,s1,s2,s3,s4,s5⟩;go_simp;with_reducible rfl
       rotate_left
       ·simp only [Act.put,za_,zb_,zc_,i64_w,i32_w];rfl
       refine pA 7 (some 53) ?_ #[Y,Y,Y,Y,Y,Y,Y,Y,Y,Y,Y,Z,Z,Z,Z,Z,Z] rfl rfl HT_ (by kernel_rfl) (fun _ _ _ h=>h) (by rfl) ?_ ?_ ?_ ?_;rotate_left
       ·intro w';go_simp;with_reducible rfl
       rotate_left
       ·simp only [Act.put,za_,zb_,zc_,i64_w,i32_w];rfl
       refine tA 11 (some 57) ?_ #[Y,Y,Y,Y,Y,Y,Y,Y,Y,Y,Y,Y,Z,Z,Z,Z,Z] rfl rfl HT_ HW_ (by kernel_rfl) (fun _ _ _ h=>h) (by rfl) ?_ hHeld ?_ ?_ ?_;rotate_left
       ·rintro w' ⟨s0,s1,s2,s3,s4,s5⟩;go_simp;with_reducible rfl
       rotate_left
       ·simp only [Act.put,za_,zb_,zc_,i64_w,i32_w];rfl
       refine pA 12 (some 58) ?_ #[Y,Y,Y,Y,Y,Y,Y,Y,Y,Y,Y,Y,Y,Z,Z,Z,Z] rfl rfl HT_ (by kernel_rfl) (fun _ _ _ h=>h) (by rfl) ?_ ?_ ?_ ?_;rotate_left
       ·intro w';go_simp;with_reducible rfl
       rotate_left
       ·simp only [Act.put,za_,zb_,zc_,i64_w,i32_w];rfl
       refine pA 13 (some 59) ?_ #[Y,Y,Y,Y,Y,Y,Y,Y,Y,Y,Y,Y,Y,Y,Z,Z,Z] rfl rfl HT_ (by kernel_rfl) (fun _ _ _ h=>h) (by rfl) ?_ ?_ ?_ ?_;rotate_left
       ·intro w';go_simp;with_reducible rfl
       rotate_left
       ·simp only [Act.put,za_,zb_,zc_,i64_w,i32_w];rfl
       refine one_ (i:=14) (N:=some 60) #[Y,Y,Y,Y,Y,Y,Y,Y,Y,Y,Y,Y,Y,Y,Y,Z,Z] rfl rfl (one_of HT_.out (by kernel_rfl)) (by decide) (fun K hK=>?_);refine Kd.R_append_rows_step k27 (w0:=w) w.heap.size (by rfl) (.tmp 47) (.tmp 59) 23 27 (.agg #[(.int .i64 0),(.int .i64 0)]) 16 rfl Try.underlying23 info27 rfl (by decide) (by omega) u509002 x509002_2 y509 _ _ _ (fun _=>True) (fun _=>False) rfl rfl ?aO ?aR (fun _ _ h=>h) (fun _ h=>h.elim) ?aF ?aB ?aS ?aL ?_;(case aR=>exact Kd.C_mv (Kd.C_below HR512.out HB.out))
       (case aB=>exact (bm HB))
       (case aF=>exact (fun _ _=>trivial))
       (case aO=>exact (Kd.R_mv HO_509002.out))
       (case aS=>exact (below_size (bm HB)))
       (case aL=>have:=LMc60.out;omega)
       intro v514 w72 ho hb hg hat;rw [← Ny513.out] at ho;refine ev6 (blk_grown (km_ BK503) hg (Kd.R_ne HO_509002.out BK503.out (by decide))) (blk_grown (km_ BK504) hg (Kd.R_ne HO_509002.out BK504.out (by decide))) (blk_grown (km_ BK505) hg (Kd.R_ne HO_509002.out BK505.out (by decide))) (blk_grown (km_ BK508) hg (Kd.R_ne HO_509002.out BK508.out (by decide))) (hb) (ho) ?_;clear BK503 BK504 BK505 BK508 HB HO_509002;intro BK503 BK504 BK505 BK508 HB HO515;clear ho hb hg hat;obtain ⟨Ao73,co73,eo73⟩:=Kd.R_slice HO515.out;(first | subst eo73 | (injection eo73 with f1_ f2_ f3_;have f4_:=f1_.symm;have f5_:=f3_.symm;clear f1_ f2_ f3_;subst f4_;subst f5_))
       refine hK.out _ _ ⟨(blk_cell BK508.out 0).trans rfl,(blk_cell BK508.out 1).trans rfl,(blk_cell BK508.out 2).trans rfl,(blk_cell BK503.out 0).trans rfl,(blk_cell BK503.out 1).trans rfl,(blk_cell BK503.out 2).trans rfl⟩ (fun hHeld=>?_);clear hK K;refine norm_ (a':=?_) ?_ ?_;rotate_left
       ·show Act.put _ (some 60) _ = _
        simp only [Act.put,za_,zb_,zc_,i64_w,i32_w];rfl
       refine pA 15 (some 61) ?_ #[Y,Y,Y,Y,Y,Y,Y,Y,Y,Y,Y,Y,Y,Y,Y,Y,Z] rfl rfl HT_ (by kernel_rfl) (fun _ _ _ h=>h) (by rfl) ?_ ?_ ?_ ?_;rotate_left
       ·intro w';go_simp;with_reducible rfl
       rotate_left
       ·simp only [Act.put,za_,zb_,zc_,i64_w,i32_w];rfl
       refine last_ (i:=16) (N:=none) #[Y,Y,Y,Y,Y,Y,Y,Y,Y,Y,Y,Y,Y,Y,Y,Y,Y] rfl rfl (one_of HT_.out (by kernel_rfl)) (by decide) (fun K hK=>?_);have hs74:w72.cell? ⟨gb508,2,none⟩ = some (u509002):=(blk_cell BK508.out 2).trans rfl;have hfs74:=blk_frozen BK508.out 2;have hns74_0:=NB503_508.out;have hns74_1:=NB504_508.out;have hns74_2:=NB505_508.out;have hms74_0:=NB508_503.out;have hms74_1:=NB508_504.out;have hms74_2:=NB508_505.out;refine skip_ (w1:=?_) (by rfl) rfl ?_ ?_;rotate_left
       ·go_simp;rfl
       refine hK.out _ _ ?_;clear hK K;refine done_ (done_of HT_.out (by kernel_rfl)) ?_;try go_wp2
       have n0_:Aside0 (Kd.R k27 27 (w72.setCell ⟨gb508,2,none⟩ (.slice Ao73 y513.length co73)) w.heap.size (fun _=>True) (.slice Ao73 y513.length co73) y513):=⟨Kd.R_mv (Kd.R_mono (ok':=fun k_=>True) (Kd.R_far (p:=⟨gb508,2,none⟩) (Kd.R_types HO515.out BK508.out (by decide)) (fun _ hk=>hk.2) (.slice Ao73 y513.length co73)) (fun _ hk=>trivial))⟩
       have n1_:Aside0 ((w72.setCell ⟨gb508,2,none⟩ (.slice Ao73 y513.length co73)).heap[gb503]? = some (.cells #[.int .i64 a0_0,.int .i64 a0_1,.slice A0_2 l0_2.length c0_2] 25 (0,0))):=⟨fp BK503 rfl⟩
       have n2_:Aside0 ((w72.setCell ⟨gb508,2,none⟩ (.slice Ao73 y513.length co73)).heap[gb504]? = some (.cells #[.int .i64 a1_0,.int .i64 a1_1,.slice A1_2 l1_2.length c1_2] 25 (0,0))):=⟨fp BK504 rfl⟩
       have n3_:Aside0 ((w72.setCell ⟨gb508,2,none⟩ (.slice Ao73 y513.length co73)).heap[gb505]? = some (.cells #[.int .i64 0,.int .i64 0,.slice none 0 0] 25 (0,0))):=⟨fp BK505 rfl⟩
       have n4_:Aside0 ((w72.setCell ⟨gb508,2,none⟩ (.slice Ao73 y513.length co73)).heap[gb508]? = some (.cells #[.int .i64 a0_0,.int .i64 (wrap64 (a0_1 + a1_1)),.slice Ao73 y513.length co73] 25 (0,0))):=⟨fp BK508 rfl⟩
       have n5_:Aside0 (Below w.heap.size w (w72.setCell ⟨gb508,2,none⟩ (.slice Ao73 y513.length co73))):=⟨bm HB⟩
       (try clear HO515);(try clear BK503);(try clear BK504);(try clear BK505);(try clear BK508);(try clear HB);generalize (w72.setCell ⟨gb508,2,none⟩ (.slice Ao73 y513.length co73)) = w75 at n0_ n1_ n2_ n3_ n4_ n5_ ⊢
       have HO515:=n0_;have BK503:=n1_;have BK504:=n2_;have BK505:=n3_;have BK508:=n4_;have HB:=n5_;clear n0_ n1_ n2_ n3_ n4_ n5_;refine ev6 (Kd.R_drew HO515.out) (blk_drew BK503.out) (blk_drew BK504.out) (blk_drew BK505.out) (blk_drew BK508.out) (below_drew1 HB.out) ?_;clear HO515 BK503 BK504 BK505 BK508 HB;intro HO515 BK503 BK504 BK505 BK508 HB;have q77:((wrap64 ((wrap64 (x7_2 + 1)) * a1_1)):Int) ≤ ((l1_2.length:Int):Int):=of_decide_eq_true (by first | (with_reducible assumption) | assumption);obtain ⟨i077,hi077,_,hsz77,_⟩:=info_parts info27;have hroom77:l1_2.length ≤ c1_2:=HC1_2.out;have hC77:Kd.C k27 _ A1_2 l1_2.length l1_2:=HR1_2.out;have ql77:((ji61):Int) ≤ ((wrap64 ((wrap64 (x7_2 + 1)) * a1_1)):Int):=of_decide_eq_true (by first | (with_reducible assumption) | assumption);have q077:(0:Int) ≤ ((ji61):Int):=of_decide_eq_true (by first | (with_reducible assumption) | assumption);have hcut77:=cut_mid (P:=Try.prog) 23 27 .i64 .i64 Try.underlying23 hi077 2 hsz77 A1_2 l1_2.length c1_2 (ji61) (wrap64 ((wrap64 (x7_2 + 1)) * a1_1)) q077 ql77 q77 hroom77;have hr77:=Kd.C_mid (lo:=((ji61):Int).toNat) (hi:=((wrap64 ((wrap64 (x7_2 + 1)) * a1_1)):Int).toNat) (c:=c1_2) hC77 (by omega) (by omega) hroom77;obtain ⟨A77,hA77⟩:∃ A1,A1 = (if c1_2 = ((ji61):Int).toNat then A1_2 else (A1_2:Option Addr).map (·.add (((ji61):Int).toNat * 2))):=⟨_,rfl⟩
       obtain ⟨c77,hc77⟩:∃ c1,c1 = c1_2 - ((ji61):Int).toNat:=⟨_,rfl⟩
       have hy77:y516.length = ((wrap64 ((wrap64 (x7_2 + 1)) * a1_1)):Int).toNat - ((ji61):Int).toNat:=(by rw [Ny516.out,List.length_drop,List.length_take] <;> omega)
       rw [show ((l1_2).take ((wrap64 ((wrap64 (x7_2 + 1)) * a1_1)):Int).toNat).drop ((ji61):Int).toNat = y516 from Ny516.out.symm] at hr77;replace hr77:Kd.C k27 _ A77 y516.length y516:=(by rw [hA77];exact hr77)
       rw [← hy77,← hA77,← hc77] at hcut77;have HR519:=Aside0.mk hr77;have HC519:=Aside0.mk (show y516.length ≤ c77 from by rw [hy77,hc77];exact Nat.sub_le_sub_right (Nat.le_trans (by omega) hroom77) _);clear hr77 hC77 hroom77 hi077 hsz77 hc77;have KY77:=Aside0.mk hy77;have KA77:=Aside0.mk hA77;clear hy77 hA77;replace q77:=eq_true q77;refine start_ (n:=17) (S:=fun w'=>w'.cell? ⟨gb508,0,none⟩ = some (.int .i64 a0_0)∧w'.cell? ⟨gb508,1,none⟩ = some (.int .i64 (wrap64 (a0_1 + a1_1)))∧w'.cell? ⟨gb508,2,none⟩ = some (.slice Ao73 y513.length co73)∧w'.cell? ⟨gb504,0,none⟩ = some (.int .i64 a1_0)∧w'.cell? ⟨gb504,1,none⟩ = some (.int .i64 a1_1)∧w'.cell? ⟨gb504,2,none⟩ = some (.slice A1_2 l1_2.length c1_2)) (ds:=[16]) #[Z,Z,Z,Z,Z,Z,Z,Z,Z,Z,Z,Z,Z,Z,Z,Z,Z] (by kernel_rfl) rfl rfl ⟨(blk_cell BK508.out 0).trans rfl,(blk_cell BK508.out 1).trans rfl,(blk_cell BK508.out 2).trans rfl,(blk_cell BK504.out 0).trans rfl,(blk_cell BK504.out 1).trans rfl,(blk_cell BK504.out 2).trans rfl⟩ (fun hHeld=>?_);refine with_tabW impl_BesideBoards.tab8 impl_BesideBoards.bits8 (fun HT_ HW_=>?_);generalize w75.drew = w76 at HO515 BK503 BK504 BK505 BK508 HB HR519 hHeld ⊢
       refine pA 0 (some 62) ?_ #[Y,Z,Z,Z,Z,Z,Z,Z,Z,Z,Z,Z,Z,Z,Z,Z,Z] rfl rfl HT_ (by kernel_rfl) (fun _ _ _ h=>h) (by rfl) ?_ ?_ ?_ ?_;rotate_left
       ·intro w';go_simp;with_reducible rfl
       rotate_left
       ·simp only [Act.put,za_,zb_,zc_,i64_w,i32_w];rfl
       refine pA 2 (some 64) ?_ #[Y,Z,Y,Z,Z,Z,Z,Z,Z,Z,Z,Z,Z,Z,Z,Z,Z] rfl rfl HT_ (by kernel_rfl) (fun _ _ _ h=>h) (by rfl) ?_ ?_ ?_ ?_;rotate_left
       ·intro w';go_simp;with_reducible rfl
       rotate_left
       ·simp only [Act.put,za_,zb_,zc_,i64_w,i32_w];rfl
       refine pA 4 (some 66) ?_ #[Y,Z,Y,Z,Y,Z,Z,Z,Z,Z,Z,Z,Z,Z,Z,Z,Z] rfl rfl HT_ (by kernel_rfl) (fun _ _ _ h=>h) (by rfl) ?_ ?_ ?_ ?_;rotate_left
       ·intro w';go_simp;with_reducible rfl
       rotate_left
       ·simp only [Act.put,za_,zb_,zc_,i64_w,i32_w];rfl
       refine pA 5 (some 67) ?_ #[Y,Z,Y,Z,Y,Y,Z,Z,Z,Z,Z,Z,Z,Z,Z,Z,Z] rfl rfl HT_ (by kernel_rfl) (fun _ _ _ h=>h) (by rfl) ?_ ?_ ?_ ?_;rotate_left
       ·intro w';go_simp;with_reducible rfl
       rotate_left
       ·simp only [Act.put,za_,zb_,zc_,i64_w,i32_w];rfl
       refine pA 8 (some 70) ?_ #[Y,Z,Y,Z,Y,Y,Z,Z,Y,Z,Z,Z,Z,Z,Z,Z,Z] rfl rfl HT_ (by kernel_rfl) (fun _ _ _ h=>h) (by rfl) ?_ ?_ ?_ ?_;rotate_left
       ·intro w';go_simp;with_reducible rfl
       rotate_left
       ·simp only [Act.put,za_,zb_,zc_,i64_w,i32_w];rfl
       refine pA 9 (some 71) ?_ #[Y,Z,Y,Z,Y,Y,Z,Z,Y,Y,Z,Z,Z,Z,Z,Z,Z] rfl rfl HT_ (by kernel_rfl) (fun _ _ _ h=>h) (by rfl) ?_ ?_ ?_ ?_;rotate_left
       ·intro w';go_simp;with_reducible rfl
       rotate_left
       ·simp only [Act.put,za_,zb_,zc_,i64_w,i32_w];rfl
       refine pA 10 (some 72) ?_ #[Y,Z,Y,Z,Y,Y,Z,Z,Y,Y,Y,Z,Z,Z,Z,Z,Z] rfl rfl HT_ (by kernel_rfl) (fun _ _ _ h=>h) (by rfl) ?_ ?_ ?_ ?_;rotate_left
       ·intro w';go_simp;with_reducible rfl
       rotate_left
       ·simp only [Act.put,za_,zb_,zc_,i64_w,i32_w];rfl
       refine tA 1 (some 63) ?_ #[Y,Y,Y,Z,Y,Y,Z,Z,Y,Y,Y,Z,Z,Z,Z,Z,Z] rfl rfl HT_ HW_ (by kernel_rfl) (fun _ _ _ h=>h) (by rfl) ?_ hHeld ?_ ?_ ?_;rotate_left
       ·rintro w' ⟨s0,s1,s2,s3,s4,s5⟩;go_simp;with_reducible rfl
       rotate_left
       ·simp only [Act.put,za_,zb_,zc_,i64_w,i32_w];rfl
       refine tA 3 (some 65) ?_ #[Y,Y,Y,Y,Y,Y,Z,Z,Y,Y,Y,Z,Z,Z,Z,Z,Z] rfl rfl HT_ HW_ (by kernel_rfl) (fun _ _ _ h=>h) (by rfl) ?_ hHeld ?_ ?_ ?_;rotate_left
       ·rintro w' ⟨s0,s1,s2,s3,s4,s5⟩;go_simp;with_reducible rfl
       rotate_left
       ·simp only [Act.put,za_,zb_,zc_,i64_w,i32_w];rfl
       refine tA 6 (some 68) ?_ #[Y,Y,Y,Y,Y,Y,Y,Z,Y,Y,Y,Z,Z,Z,Z,Z,Z] rfl rfl HT_ HW_ (by kernel_rfl) (fun _ _ _ h=>h) (by rfl) ?_ hHeld ?_ ?_ ?_;rotate_left
       ·rintro w' ⟨s0,s1,s2,s3,s4,s5⟩;go_simp;with_reducible rfl
       rotate_left
       ·simp only [Act.put,za_,zb_,zc_,i64_w,i32_w];rfl
       refine pA 7 (some 69) ?_ #[Y,Y,Y,Y,Y,Y,Y,Y,Y,Y,Y,Z,Z,Z,Z,Z,Z] rfl rfl HT_ (by kernel_rfl) (fun _ _ _ h=>h) (by rfl) ?_ ?_ ?_ ?_;rotate_left
       ·intro w';go_simp;with_reducible rfl
       rotate_left
       ·simp only [Act.put,za_,zb_,zc_,i64_w,i32_w];rfl
       refine tA 11 (some 73) ?_ #[Y,Y,Y,Y,Y,Y,Y,Y,Y,Y,Y,Y,Z,Z,Z,Z,Z] rfl rfl HT_ HW_ (by kernel_rfl) (fun _ _ _ h=>h) (by rfl) ?_ hHeld ?_ ?_ ?_;rotate_left
       ·rintro w' ⟨s0,s1,s2,s3,s4,s5⟩;go_simp;with_reducible rfl
       rotate_left
       ·simp only [Act.put,za_,zb_,zc_,i64_w,i32_w];rfl
       refine pA 12 (some 74) ?_ #[Y,Y,Y,Y,Y,Y,Y,Y,Y,Y,Y,Y,Y,Z,Z,Z,Z] rfl rfl HT_ (by kernel_rfl) (fun _ _ _ h=>h) (by rfl) ?_ ?_ ?_ ?_;rotate_left
       ·intro w';go_simp;with_reducible rfl
       rotate_left
       ·simp only [Act.put,za_,zb_,zc_,i64_w,i32_w];rfl
       refine pA 13 (some 75) ?_ #[Y,Y,Y,Y,Y,Y,Y,Y,Y,Y,Y,Y,Y,Y,Z,Z,Z] rfl rfl HT_ (by kernel_rfl) (fun _ _ _ h=>h) (by rfl) ?_ ?_ ?_ ?_;rotate_left
       ·intro w';go_simp;with_reducible rfl
       rotate_left
       ·simp only [Act.put,za_,zb_,zc_,i64_w,i32_w];rfl
       refine one_ (i:=14) (N:=some 76) #[Y,Y,Y,Y,Y,Y,Y,Y,Y,Y,Y,Y,Y,Y,Y,Z,Z] rfl rfl (one_of HT_.out (by kernel_rfl)) (by decide) (fun K hK=>?_);refine Kd.R_append_rows_step k27 (w0:=w) w.heap.size (by rfl) (.tmp 63) (.tmp 75) 23 27 (.agg #[(.int .i64 0),(.int .i64 0)]) 16 rfl Try.underlying23 info27 rfl (by decide) (by omega) (.slice Ao73 y513.length co73) y513 y516 _ _ _ (fun _=>True) (fun _=>False) rfl rfl ?aO ?aR (fun _ _ h=>h) (fun _ h=>h.elim) ?aF ?aB ?aS ?aL ?_;(case aR=>exact Kd.C_mv (Kd.C_below HR519.out HB.out))
       (case aB=>exact (bm HB))
       (case aF=>exact (fun _ _=>trivial))
       (case aO=>exact (Kd.R_mv HO515.out))
       (case aS=>exact (below_size (bm HB)))
       (case aL=>have:=LMc65.out;omega)
       intro v521 w78 ho hb hg hat;rw [← Ny520.out] at ho;refine ev6 (blk_grown (km_ BK503) hg (Kd.R_ne HO515.out BK503.out (by decide))) (blk_grown (km_ BK504) hg (Kd.R_ne HO515.out BK504.out (by decide))) (blk_grown (km_ BK505) hg (Kd.R_ne HO515.out BK505.out (by decide))) (blk_grown (km_ BK508) hg (Kd.R_ne HO515.out BK508.out (by decide))) (hb) (ho) ?_;clear BK503 BK504 BK505 BK508 HB HO515;intro BK503 BK504 BK505 BK508 HB HO522;clear ho hb hg hat;obtain ⟨Ao79,co79,eo79⟩:=Kd.R_slice HO522.out;(first | subst eo79 | (injection eo79 with f1_ f2_ f3_;have f4_:=f1_.symm;have f5_:=f3_.symm;clear f1_ f2_ f3_;subst f4_;subst f5_))
       refine hK.out _ _ ⟨(blk_cell BK508.out 0).trans rfl,(blk_cell BK508.out 1).trans rfl,(blk_cell BK508.out 2).trans rfl,(blk_cell BK504.out 0).trans rfl,(blk_cell BK504.out 1).trans rfl,(blk_cell BK504.out 2).trans rfl⟩ (fun hHeld=>?_);clear hK K;refine norm_ (a':=?_) ?_ ?_;rotate_left
       ·show Act.put _ (some 76) _ = _
        simp only [Act.put,za_,zb_,zc_,i64_w,i32_w];rfl
       refine pA 15 (some 77) ?_ #[Y,Y,Y,Y,Y,Y,Y,Y,Y,Y,Y,Y,Y,Y,Y,Y,Z] rfl rfl HT_ (by kernel_rfl) (fun _ _ _ h=>h) (by rfl) ?_ ?_ ?_ ?_;rotate_left
       ·intro w';go_simp;with_reducible rfl
       rotate_left
       ·simp only [Act.put,za_,zb_,zc_,i64_w,i32_w];rfl
       refine last_ (i:=16) (N:=none) #[Y,Y,Y,Y,Y,Y,Y,Y,Y,Y,Y,Y,Y,Y,Y,Y,Y] rfl rfl (one_of HT_.out (by kernel_rfl)) (by decide) (fun K hK=>?_);have hs80:w78.cell? ⟨gb508,2,none⟩ = some (.slice Ao73 y513.length co73):=(blk_cell BK508.out 2).trans rfl;have hfs80:=blk_frozen BK508.out 2;have hns80_0:=NB503_508.out;have hns80_1:=NB504_508.out;have hns80_2:=NB505_508.out;have hms80_0:=NB508_503.out;have hms80_1:=NB508_504.out;have hms80_2:=NB508_505.out;refine skip_ (w1:=?_) (by rfl) rfl ?_ ?_;rotate_left
       ·go_simp;rfl
       refine hK.out _ _ ?_;clear hK K;refine done_ (done_of HT_.out (by kernel_rfl)) ?_;try go_wp2
       go_roundg k2
       case measure=>have:=HJ2.out;have:=HK2.out;omega
       case rel=>exact ⟨(wrap64 (x7_2 + 1)),(y520),(.slice Ao79 y520.length co79),(by first | rfl | (simp;done) | (simp [*];done)),H',⟨by have:=HJ2.out;have:=HK2.out;omega⟩,⟨Kd.R_mv (Kd.R_mono (ok':=fun k_=>True) (Kd.R_far (p:=⟨gb508,2,none⟩) (Kd.R_types HO522.out BK508.out (by decide)) (fun _ hk=>hk.2) (.slice Ao79 y520.length co79)) (fun _ hk=>trivial))⟩,⟨fp BK503 rfl⟩,⟨fp BK504 rfl⟩,⟨fp BK505 rfl⟩,⟨fp BK508 rfl⟩,⟨bm HB⟩⟩
      ·rw [if_neg c55] at H;have c55b0:decide (x7_2 < a0_0) = false:=decide_eq_false c55;clear c55;simp only [Option.some.injEq,Prod.mk.injEq] at H;obtain ⟨rfl,rfl,rfl,rfl⟩:=H;have hnb81:=NB503_504.out;have hnc81:=NB504_503.out;have hnb82:=NB503_505.out;have hnc82:=NB505_503.out;have hnb83:=NB503_508.out;have hnc83:=NB508_503.out;obtain ⟨hcz84_0,hcz84_1,hcz84_2,hfz84_0,hfz84_1,hfz84_2⟩:=bt3 BK503;have hnb85:=NB508_504.out;have hnc85:=NB504_508.out;have hnb86:=NB508_505.out;have hnc86:=NB505_508.out;obtain ⟨hcz87_0,hcz87_1,hcz87_2,hfz87_0,hfz87_1,hfz87_2⟩:=bt3 BK508;have hnb88:=NB505_504.out;have hnc88:=NB504_505.out;obtain ⟨hcz89_0,hcz89_1,hcz89_2,hfz89_0,hfz89_1,hfz89_2⟩:=bt3 BK505;obtain ⟨Ao90,co90,eo90⟩:=Kd.R_slice HO_509002.out;subst eo90;go_wp2;refine bodyPost_ret (results_ct rfl _ _ gb505 25 #[.int .i64 a0_0,.int .i64 (wrap64 (a0_1 + a1_1)),.slice Ao90 x509002_2.length co90] (0,0) _ rfl (fp BK505 rfl) Try.underlying25 rfl (by kernel_rfl)) rfl ?_;exact ⟨_,by first | rfl | (simp [e0_,e1_] <;> rfl) | (simp [*,e0_,e1_] <;> rfl),Kd.R_mv (Kd.R_mono (ok':=fun k_=>True) (Kd.R_far (p:=⟨gb505,2,none⟩) (Kd.R_far (p:=⟨gb505,1,none⟩) (Kd.R_far (p:=⟨gb505,0,none⟩) (Kd.R_types HO_509002.out BK505.out (by decide)) (fun _ hk=>hk.2) (.int .i64 a0_0)) (fun _ hk=>hk.2) (.int .i64 (wrap64 (a0_1 + a1_1)))) (fun _ hk=>hk.2) (.slice Ao90 x509002_2.length co90)) (fun _ hk=>trivial)),bm HB⟩

/-! ### spec_boRow: function 43 -/
def spec_boRow.f (a0_0:Int) (a0_1:Int) (l0_2:List (S27)) (a1:Int):Option ((List (S27))):=if 0 ≤ (wrap64 (a1 * a0_1)) then (if (wrap64 (a1 * a0_1)) ≤ (wrap64 ((wrap64 (a1 + 1)) * a0_1)) then (if (wrap64 ((wrap64 (a1 + 1)) * a0_1)) ≤ (l0_2.length:Int) then ((some ((l0_2.take ((wrap64 ((wrap64 (a1 + 1)) * a0_1)):Int).toNat).drop ((wrap64 (a1 * a0_1)):Int).toNat:List (S27))).bind fun y524=>((some (([]:List (S27)):List (S27))).bind fun y528=>(if y528.length + y524.length < 8796093022208 then (some (y528 ++ y524)) else (none)))) else (none)) else (none)) else (none)
theorem spec_boRow.calls (a0_0:Int) (a0_1:Int) (A0_2:Option Addr) (c0_2:Nat) (l0_2:List (S27)) (a1:Int) (r:List (S27)) (P_:Nat→Prop) (w:World) (hs0_2:Vr k27 w P_ A0_2 c0_2 l0_2) (h:spec_boRow.f a0_0 a0_1 l0_2 a1 = some r) :
    Calls Try.prog 43 #[.agg #[.int .i64 a0_0,.int .i64 a0_1,.slice A0_2 l0_2.length c0_2],.int .i64 a1] w fun e w'=>∃ (A0_:Option Addr) (c0_:Nat),e = .returned (.slice A0_ r.length c0_)∧Vr k27 w' (fun k_=>P_ k_∨w.heap.size ≤ k_) A0_ c0_ r∧Below w.heap.size w w':=by
 have H:=h;clear h;unfold spec_boRow.f at H
 replace H:=np_ H;obtain ⟨c4,H⟩:=H
 replace H:=np_ H;obtain ⟨c5,H⟩:=H
 replace H:=np_ H;obtain ⟨c6,H⟩:=H
 simp only [Option.bind_some,List.nil_append,List.length_nil] at H
 replace H:=np_ H;obtain ⟨c7,H⟩:=H
 obtain rfl:=Option.some.inj H
 clear H c7
 have hroom:=hs0_2.1
 have S:=St.initV (vc at27 hs0_2 vn)
 have F:=S.fc
 obtain ⟨lo,hlo⟩:∃ j_:Int,wrap64 (a1 * a0_1) = j_:=⟨_,rfl⟩
 obtain ⟨hi,hhi⟩:∃ j_:Int,wrap64 (wrap64 (a1 + 1) * a0_1) = j_:=⟨_,rfl⟩
 have hlow:IntKind.i64.wrap (a1 * a0_1) = lo:=(i64_w _).trans hlo
 have hhiw:IntKind.i64.wrap (wrap64 (a1 + 1) * a0_1) = hi:=(i64_w _).trans hhi
 rw [hlo,hhi] at c5
 rw [hlo] at c4
 rw [hhi] at c6
 simp only [hlo,hhi]
 obtain ⟨i0,hi0,_,hsz,_⟩:=info_parts info27
 have hcut:=cut_mid (P:=Try.prog) 23 27 .i64 .i64 Try.underlying23 hi0 2 hsz A0_2 l0_2.length c0_2 lo hi c4 c5 c6 hroom
 clear hi0 hsz
 obtain ⟨A9,hA9⟩:∃ A1,A1 = (if c0_2 = lo.toNat then A0_2 else A0_2.map (·.add (lo.toNat * 2))):=⟨_,rfl⟩
 simp only [← hA9] at hcut
 have HA9:=Aside0.mk hA9;clear hA9
 go_enter Try.func43,Try.ntmps43
 go_wp2_with (first | ((with_reducible refine gd 2 rfl (L ?_));refine bo 2 (.agg #[_,_,_]) S ?_;clear S F;intro gb W S;have F:=S.fc))
 go_ret
 have hv:=S.v (at_:=at27) (A:=A0_2) (c:=c0_2) (xs:=l0_2)
 refine ⟨A9,c0_2 - lo.toNat,(by have hm:min hi.toNat l0_2.length = hi.toNat:=Nat.min_eq_left (by omega);simp [hm]),⟨(by rw [List.length_drop,List.length_take];omega),fun W2 hs hW=>?_⟩,S.below⟩
 rw [HA9.out]
 exact Kd.C_mid (hv.2 W2 hs hW) (by omega) (by omega) hroom
end Go.Proofs.Ytbbhacpahnnlcaa.F
