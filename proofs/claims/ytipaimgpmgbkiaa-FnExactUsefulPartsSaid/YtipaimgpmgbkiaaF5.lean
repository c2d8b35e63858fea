-- Printed by a program; checked here.
import Derived.Test.YtipaimgpmgbkiaaF0
import Derived.Test.YtipaimgpmgbkiaaF1
import Derived.Test.YtipaimgpmgbkiaaF4
namespace Go.Proofs.Ytipaimgpmgbkiaa.F
open Go.RowKit Go.Proofs.YtipaimgpmgbkiaaV.PrintWords Go.Proofs.YtipaimgpmgbkiaaV.PrintLast Go.Proofs.YtipaimgpmgbkiaaV.PrintMore Go.Proofs.YtipaimgpmgbkiaaV.Sl Go.Proofs.YtipaimgpmgbkiaaV.Rf
attribute [local go_sem] max2_int min2_int max_two min_two max_three min_three max_four min_four ia_opt it_opt
attribute [local go_sem] Try.underlying4 Try.underlying23 Try.underlying25 Try.underlying29 Try.underlying31 Try.underlying42 Try.underlying50 Try.underlying85 Try.underlying88 Try.underlying89 Try.underlying106 Try.underlying122 Try.underlying127
set_option maxHeartbeats 8000000
set_option maxRecDepth 100000
set_option linter.unusedVariables false
set_option linter.unusedSimpArgs false

attribute [local go_sem high] eqA88
/-! ### laws_toChallenge: function 16 -/
def laws_toChallenge.f (k:Nat) (a0_0:Int) (a0_1:Int) (l0_2:List (S106)) (l0_3:List Int) (l0_4:List Int):Option (Int × Int × (List (S88)) × List Int × List Int):=(laws_toCellS.f k l0_2).bind fun t333=>((laws_toIntS.f k l0_3).bind fun t336=>((laws_toIntS.f k l0_4).bind fun t339=>(some (a0_0,a0_1,t333,t336,t339))))
theorem laws_toChallenge.calls (k:Nat) (a0_0:Int) (a0_1:Int) (A0_2:Option Addr) (c0_2:Nat) (l0_2:List (S106)) (A0_3:Option Addr) (c0_3:Nat) (l0_3:List Int) (A0_4:Option Addr) (c0_4:Nat) (l0_4:List Int) (r1:Int) (r2:Int) (r3:List (S88)) (r4:List Int) (r5:List Int) (w:World) (hr0_2:Kd.C k106 w A0_2 l0_2.length l0_2) (hc0_2:l0_2.length ≤ c0_2) (hr0_3:Kd.C (Kd.int .i64) w A0_3 l0_3.length l0_3) (hc0_3:l0_3.length ≤ c0_3) (hr0_4:Kd.C (Kd.int .i64) w A0_4 l0_4.length l0_4) (hc0_4:l0_4.length ≤ c0_4) (h:laws_toChallenge.f k a0_0 a0_1 l0_2 l0_3 l0_4 = some (r1,r2,r3,r4,r5)) :
    Calls Try.prog 16 #[.agg #[.int .i64 a0_0,.int .i64 a0_1,.slice A0_2 l0_2.length c0_2,.slice A0_3 l0_3.length c0_3,.slice A0_4 l0_4.length c0_4]] w fun e w'=>∃ v2_ v3_ v4_:Value,e = .returned (.agg #[.int .i64 r1,.int .i64 r2,v2_,v3_,v4_])∧Kd.R k88 88 w' w.heap.size (fun _=>True) v2_ r3∧Kd.R (Kd.int .i64) 3 w' w.heap.size (fun k_=>some k_ ≠ (v4_:Value).ownBlock) v3_ r4∧Kd.R (Kd.int .i64) 3 w' w.heap.size (fun k_=>some k_ ≠ (v3_:Value).ownBlock) v4_ r5∧Below w.heap.size w w':=by
 have S:=St.init (w:=w) (dc k106_heap at106 hr0_2 hc0_2 (dc (Kd.heap_int .i64) (atI .i64) hr0_3 hc0_3 (dc (Kd.heap_int .i64) (atI .i64) hr0_4 hc0_4 dn)))
 clear hr0_2 hc0_2 hr0_3 hc0_3 hr0_4 hc0_4
 have F:=S.fc
 have H:=h;clear h;unfold laws_toChallenge.f at H
 replace H:=Option.bind_eq_some_iff.mp H;obtain ⟨t333,A2,H⟩:=H;(try dsimp only at H)
 replace H:=Option.bind_eq_some_iff.mp H;obtain ⟨t336,A3,H⟩:=H;(try dsimp only at H)
 replace H:=Option.bind_eq_some_iff.mp H;obtain ⟨t339,A4,H⟩:=H;(try dsimp only at H)
 simp only [Option.some.injEq,Prod.mk.injEq] at H
 obtain ⟨rfl,rfl,rfl,rfl,rfl⟩:=H
 go_enter Try.func16,Try.ntmps16
 go_wp2_with (first | ((with_reducible refine gd 1 rfl (L ?_));refine bo 1 (.agg #[_,_,_,_,_]) S ?_;clear S F;intro gb330 W S;have F:=S.fc) | ((with_reducible refine gd 2 rfl (L ?_));refine al 2 S zi31 ?_;clear S F;intro gb331 W S;have F:=S.fc) | ((with_reducible refine gd 3 rfl (L ?_));refine al 3 S zi31 ?_;clear S F;intro gb332 W S;have F:=S.fc) | ((with_reducible refine gate_callee (f:=61) rfl (L ?_));refine cl (some 12) Try.func61 (laws_toCellS.calls _ _ _ _ _ _ S.c S.n A2) (hargs:=by (simp only [ma_,mb_,mc_,F] <;> rfl)) (h:=?_);rintro e W ⟨v334,rfl,ho0,hb⟩;refine ⟨_,rfl,?_⟩;replace S:=S.got at88 hb ho0;obtain ⟨At333,ct333,rfl,S⟩:=S;clear F hb ho0;have F:=S.fc) | ((with_reducible refine gate_callee (f:=62) rfl (L ?_));refine cl (some 16) Try.func62 (laws_toIntS.calls _ _ _ _ _ _ S.c S.n A3) (hargs:=by (simp only [ma_,mb_,mc_,F] <;> rfl)) (h:=?_);rintro e W ⟨v337,rfl,ho0,hb⟩;refine ⟨_,rfl,?_⟩;replace S:=S.got (atI .i64) hb ho0;obtain ⟨At336,ct336,rfl,S⟩:=S;clear F hb ho0;have F:=S.fc) | ((with_reducible refine gate_callee (f:=62) rfl (L ?_));refine cl (some 20) Try.func62 (laws_toIntS.calls _ _ _ _ _ _ S.c S.n A4) (hargs:=by (simp only [ma_,mb_,mc_,F] <;> rfl)) (h:=?_);rintro e W ⟨v340,rfl,ho0,hb⟩;refine ⟨_,rfl,?_⟩;replace S:=S.got (atI .i64) hb ho0;obtain ⟨At339,ct339,rfl,S⟩:=S;clear F hb ho0;have F:=S.fc) | ((with_reducible refine gs (t:=3) rfl (L ?_));(first | refine sb (.int _ _) S sz3 ?_ | refine ro (.int _ _) S sz3 ?_ (ho:=rfl) (hx:=rfl) (hy:=rfl));(clear S F;intro W S;have F:=S.fc)) | ((with_reducible refine gs (t:=23) rfl (L ?_));(first | refine sb (.slice _ _ _) S sz23 ?_ | refine ro (.slice _ _ _) S sz23 ?_ (ho:=rfl) (hx:=rfl) (hy:=rfl));(clear S F;intro W S;have F:=S.fc)) | ((with_reducible refine gs (t:=29) rfl (L ?_));(first | refine sb (.slice _ _ _) S sz29 ?_ | refine ro (.slice _ _ _) S sz29 ?_ (ho:=rfl) (hx:=rfl) (hy:=rfl));(clear S F;intro W S;have F:=S.fc)) | ((with_reducible refine gs (t:=31) rfl (L ?_));(first | refine sb (.agg #[_,_,_,_,_]) S sz31 ?_ | refine ro (.agg #[_,_,_,_,_]) S sz31 ?_ (ho:=rfl) (hx:=rfl) (hy:=rfl));(clear S F;intro W S;have F:=S.fc)))
 refine bodyPost_ret (results_cell_row rfl _ _ gb331 31 #[.int .i64 a0_0,.int .i64 a0_1,.slice At333 t333.length ct333,.slice At336 t336.length ct336,.slice At339 t339.length ct339] (0,0) _ rfl S.hb Try.underlying31 rfl (by kernel_rfl)) rfl ?_
 exact ⟨_,_,_,(by first | rfl | (simp [e0_,e1_] <;> rfl) | (simp [*,e0_,e1_] <;> rfl)),(by first | exact S.r | exact Kd.R_nil _ _ _ _ _),(by first | exact S.rn | exact Kd.R_nil _ _ _ _ _),(by first | exact S.rn | exact Kd.R_nil _ _ _ _ _),S.below⟩

/-! ### impl_IsCell: function 98 -/
def impl_IsCell.f (a0_0:Int) (a0_1:Int):Option (Bool):=if a0_0 < 0 then (some false) else (if a0_0 > 7 then (some false) else (if a0_1 < 0 then (some false) else (if a0_1 > 1 then (some false) else (if a0_1 = 0 then (some true) else (if a0_0 = 3 then (some true) else (some (a0_0 == 6)))))))
theorem impl_IsCell.calls (a0_0:Int) (a0_1:Int) (r:Bool) (w:World) (h:impl_IsCell.f a0_0 a0_1 = some r) :
    Calls Try.prog 98 #[.agg #[.int .i64 a0_0,.int .i64 a0_1]] w fun e w'=>e = .returned (.bool r)∧Below w.heap.size w w':=by
 have S:=St.init (w:=w) dn
 have F:=S.fc
 have H:=h;clear h;unfold impl_IsCell.f at H
 replace H:=sp_ H;rcases H with ⟨c2,H⟩ | ⟨c2,H⟩
 · skip
   obtain rfl:=Option.some.inj H
   go_enter Try.func98,Try.ntmps98
   go_wp2_with (first | ((with_reducible refine gd 1 rfl (L ?_));refine bo 1 (.agg #[_,_]) S ?_;clear S F;intro gb342 W S;have F:=S.fc))
   go_ret
   exact ⟨(by first | rfl | (simp [e0_,e1_] <;> rfl) | (simp [*,e0_,e1_] <;> rfl)),S.below⟩
 · skip
   replace H:=sp_ H;rcases H with ⟨c5,H⟩ | ⟨c5,H⟩
   · skip
     obtain rfl:=Option.some.inj H
     go_enter Try.func98,Try.ntmps98
     go_wp2_with (first | ((with_reducible refine gd 1 rfl (L ?_));refine bo 1 (.agg #[_,_]) S ?_;clear S F;intro gb342 W S;have F:=S.fc))
     go_ret
     exact ⟨(by first | rfl | (simp [e0_,e1_] <;> rfl) | (simp [*,e0_,e1_] <;> rfl)),S.below⟩
   · skip
     replace H:=sp_ H;rcases H with ⟨c8,H⟩ | ⟨c8,H⟩
     · skip
       obtain rfl:=Option.some.inj H
       go_enter Try.func98,Try.ntmps98
       go_wp2_with (first | ((with_reducible refine gd 1 rfl (L ?_));refine bo 1 (.agg #[_,_]) S ?_;clear S F;intro gb342 W S;have F:=S.fc))
       go_ret
       exact ⟨(by first | rfl | (simp [e0_,e1_] <;> rfl) | (simp [*,e0_,e1_] <;> rfl)),S.below⟩
     · skip
       replace H:=sp_ H;rcases H with ⟨c11,H⟩ | ⟨c11,H⟩
       · skip
         obtain rfl:=Option.some.inj H
         go_enter Try.func98,Try.ntmps98
         go_wp2_with (first | ((with_reducible refine gd 1 rfl (L ?_));refine bo 1 (.agg #[_,_]) S ?_;clear S F;intro gb342 W S;have F:=S.fc))
         go_ret
         exact ⟨(by first | rfl | (simp [e0_,e1_] <;> rfl) | (simp [*,e0_,e1_] <;> rfl)),S.below⟩
       · skip
         replace H:=sp_ H;rcases H with ⟨c14,H⟩ | ⟨c14,H⟩
         · skip
           replace c14:=ceq c14
           obtain rfl:=Option.some.inj H
           go_enter Try.func98,Try.ntmps98
           go_wp2_with (first | ((with_reducible refine gd 1 rfl (L ?_));refine bo 1 (.agg #[_,_]) S ?_;clear S F;intro gb342 W S;have F:=S.fc))
           go_ret
           exact ⟨(by first | rfl | (simp [e0_,e1_] <;> rfl) | (simp [*,e0_,e1_] <;> rfl)),S.below⟩
         · skip
           replace c14:=cne c14
           replace H:=sp_ H;rcases H with ⟨c17,H⟩ | ⟨c17,H⟩
           · skip
             replace c17:=ceq c17
             obtain rfl:=Option.some.inj H
             go_enter Try.func98,Try.ntmps98
             go_wp2_with (first | ((with_reducible refine gd 1 rfl (L ?_));refine bo 1 (.agg #[_,_]) S ?_;clear S F;intro gb342 W S;have F:=S.fc))
             go_ret
             exact ⟨(by first | rfl | (simp [e0_,e1_] <;> rfl) | (simp [*,e0_,e1_] <;> rfl)),S.below⟩
           · skip
             replace c17:=cne c17
             obtain rfl:=Option.some.inj H
             go_enter Try.func98,Try.ntmps98
             go_wp2_with (first | ((with_reducible refine gd 1 rfl (L ?_));refine bo 1 (.agg #[_,_]) S ?_;clear S F;intro gb342 W S;have F:=S.fc))
             go_ret
             exact ⟨(by first | rfl | (simp [e0_,e1_] <;> rfl) | (simp [*,e0_,e1_] <;> rfl)),S.below⟩

/-! ### impl_Cell_125: function 125 -/
def impl_Cell_125.l0:Nat→List (S88)→Int→Int→Int→Int→Option (Int)
 | 0,_,_,_,_,_=>none
 | k + 1,x0,x7,x8,x344000,x344001=>if x8 < x7 then (if 0 ≤ x8 then (if x8 < (x0.length:Int) then (if (x344000 == ((rd_T88 x0 x8).f0) && (x344001 == ((rd_T88 x0 x8).f1))) = true then (some x8) else (impl_Cell_125.l0 k x0 x7 (wrap64 (x8 + 1)) x344000 x344001)) else (none)) else (none)) else (some (-1))
def impl_Cell_125.f (k:Nat) (l0:List (S88)) (a1_0:Int) (a1_1:Int):Option (Int):=impl_Cell_125.l0 k l0 (l0.length:Int) 0 a1_0 a1_1
theorem impl_Cell_125.calls (k:Nat) (A0:Option Addr) (c0:Nat) (l0:List (S88)) (a1_0:Int) (a1_1:Int) (r:Int) (w:World) (hr0:Kd.C k88 w A0 l0.length l0) (hc0:l0.length ≤ c0) (h:impl_Cell_125.f k l0 a1_0 a1_1 = some r) :
  Calls Try.prog 125 #[.slice A0 l0.length c0,.agg #[.int .i64 a1_0,.int .i64 a1_1]] w fun e w'=>e = .returned (.int .i64 r)∧Below w.heap.size w w':=by
 have HR0:=Aside0.mk hr0;have HC0:=Aside0.mk hc0;clear hr0 hc0;have HB:=Aside0.mk (Below.refl w.heap.size w);have H:(impl_Cell_125.l0 k l0 (l0.length:Int) 0 a1_0 a1_1) = some r:=h;clear h;have H':=Aside0.mk H;clear H;go_enter Try.func125,Try.ntmps125;go_wp2_with (first | ((with_reducible refine gate_dst (N:=3) rfl ?_);refine box_event ?hg (N:=3) ?hd (cs:=#[.int .i64 a1_0,.int .i64 a1_1]) (t:=88) ?hr ?_;(case hd=>rfl);(case hg=>rfl);(case hr=>first | (go_simp;done) | (go_simp;rfl));intro gb343 hg w3 hbox hb;refine ev4 (bs HB hb) (hbox) (gle hg HB) (gle hg HB) ?_;clear HB;intro HB BK343 GW343 GE343;clear hb hbox hg))
 repeat (go_quiet (first | ((with_reducible refine gate_dst (N:=3) rfl ?_);refine box_event ?hg (N:=3) ?hd (cs:=#[.int .i64 a1_0,.int .i64 a1_1]) (t:=88) ?hr ?_;(case hd=>rfl);(case hg=>rfl);(case hr=>first | (go_simp;done) | (go_simp;rfl));intro gb343 hg w3 hbox hb;refine ev4 (bs HB hb) (hbox) (gle hg HB) (gle hg HB) ?_;clear HB;intro HB BK343 GW343 GE343;clear hb hbox hg));try go_wp2_with (first | ((with_reducible refine gate_dst (N:=3) rfl ?_);refine box_event ?hg (N:=3) ?hd (cs:=#[.int .i64 a1_0,.int .i64 a1_1]) (t:=88) ?hr ?_;(case hd=>rfl);(case hg=>rfl);(case hr=>first | (go_simp;done) | (go_simp;rfl));intro gb343 hg w3 hbox hb;refine ev4 (bs HB hb) (hbox) (gle hg HB) (gle hg HB) ?_;clear HB;intro HB BK343 GW343 GE343;clear hb hbox hg)))
 go_loopg [8] k (fun kq v8 w'=>∃ (x8_1:Int),v8 = .int .i64 x8_1∧Aside0 (impl_Cell_125.l0 kq l0 (l0.length:Int) x8_1 a1_0 a1_1 = some r)∧Aside0 (kq ≤ k)∧Aside0 (w'.heap[gb343]? = some (.cells #[.int .i64 a1_0,.int .i64 a1_1] 88 (0,0)))∧Aside0 (Below w.heap.size w w'))
 case atStart=>exact ⟨(0),(by first | rfl | (simp;done) | (simp [*];done)),H',⟨Nat.le_refl _⟩,⟨km_ BK343⟩,⟨bm HB⟩⟩
 case round =>
  clear H';(try clear c1);(try clear p2);obtain ⟨x8_1,rfl,HA,HK1,BK343,HB⟩:=hrel;cases gk with
  | zero=>exact absurd HA.out (by simp [impl_Cell_125.l0])
  | succ k1 =>
   have H:=HA.out;clear HA;simp only [impl_Cell_125.l0] at H;by_cases c4:x8_1 < (l0.length:Int)
   ·rw [if_pos c4] at H;have c4b0:decide (x8_1 < (l0.length:Int)) = true:=decide_eq_true c4;clear c4;replace H:=np_ H;obtain ⟨c5,H⟩:=H;have c5b0:decide (0 ≤ x8_1) = true:=decide_eq_true c5;clear c5;replace H:=np_ H;obtain ⟨c6,H⟩:=H;have c6b0:decide (x8_1 < (l0.length:Int)) = true:=decide_eq_true c6;clear c6;by_cases c7:(a1_0 == ((rd_T88 l0 x8_1).f0) && (a1_1 == ((rd_T88 l0 x8_1).f1))) = true
    ·rw [if_pos c7] at H;have c7b0:(a1_0 == ((rd_T88 l0 x8_1).f0) && (a1_1 == ((rd_T88 l0 x8_1).f1))) = true:=c7;(try (have c7b1:decide (a1_0 = ((rd_T88 l0 x8_1).f0) && (a1_1 == ((rd_T88 l0 x8_1).f1))) = true:=by simpa using c7))
     (try (have c7b2:(a1_0 == ((rd_T88 l0 x8_1).f0) && (a1_1 == ((rd_T88 l0 x8_1).f1))) = true:=by simpa using c7))
     clear c7;obtain rfl:=Option.some.inj H;obtain ⟨hcz8_0,hcz8_1,hfz8_0,hfz8_1⟩:=bt2 BK343;have p344:0 ≤ (x8_1:Int):=of_decide_eq_true (by first | (with_reducible assumption) | assumption);have q344:x8_1 < (l0.length:Int):=of_decide_eq_true (by first | (with_reducible assumption) | assumption);obtain ⟨ad344,e344,hx344_0,hx344_1⟩:=at_T88 HR0.out x8_1 p344 q344;cases e344;replace hx344_0:=(HB.out.cell (World.block_lt_of_cell? w _ hx344_0)).trans hx344_0;replace hx344_1:=(HB.out.cell (World.block_lt_of_cell? w _ hx344_1)).trans hx344_1;replace p344:=eq_true p344;replace q344:=eq_true q344;go_wp2;repeat (go_quiet (fail);try go_wp2)
     go_ret;exact ⟨by first | rfl | (simp [e0_,e1_] <;> rfl) | (simp [*,e0_,e1_] <;> rfl),bm HB⟩
    ·rw [if_neg c7] at H;have c7b0:(a1_0 == ((rd_T88 l0 x8_1).f0) && (a1_1 == ((rd_T88 l0 x8_1).f1))) = false:=by simpa using c7
     (try (have c7b1:decide (a1_0 = ((rd_T88 l0 x8_1).f0) && (a1_1 == ((rd_T88 l0 x8_1).f1))) = false:=by simpa using c7))
     (try (have c7b2:(a1_0 == ((rd_T88 l0 x8_1).f0) && (a1_1 == ((rd_T88 l0 x8_1).f1))) = false:=by simpa using c7))
     (try (have c7b3:¬ (a1_0 = ((rd_T88 l0 x8_1).f0) && (a1_1 == ((rd_T88 l0 x8_1).f1))):=by simpa using c7))
     clear c7;have H':=Aside0.mk H;clear H;obtain ⟨hcz9_0,hcz9_1,hfz9_0,hfz9_1⟩:=bt2 BK343;have p344:0 ≤ (x8_1:Int):=of_decide_eq_true (by first | (with_reducible assumption) | assumption);have q344:x8_1 < (l0.length:Int):=of_decide_eq_true (by first | (with_reducible assumption) | assumption);obtain ⟨ad344,e344,hx344_0,hx344_1⟩:=at_T88 HR0.out x8_1 p344 q344;cases e344;replace hx344_0:=(HB.out.cell (World.block_lt_of_cell? w _ hx344_0)).trans hx344_0;replace hx344_1:=(HB.out.cell (World.block_lt_of_cell? w _ hx344_1)).trans hx344_1;replace p344:=eq_true p344;replace q344:=eq_true q344;go_wp2;repeat (go_quiet (fail);try go_wp2)
     go_roundg k1
     case measure=>have:=HK1.out;omega
     case rel=>exact ⟨(wrap64 (x8_1 + 1)),(by first | rfl | (simp;done) | (simp [*];done)),H',⟨by have:=HK1.out;omega⟩,⟨km_ BK343⟩,⟨bm HB⟩⟩
   ·rw [if_neg c4] at H;have c4b0:decide (x8_1 < (l0.length:Int)) = false:=decide_eq_false c4;clear c4;obtain rfl:=Option.some.inj H;go_wp2;repeat (go_quiet (fail);try go_wp2)
    go_ret;exact ⟨by first | rfl | (simp [e0_,e1_] <;> rfl) | (simp [*,e0_,e1_] <;> rfl),bm HB⟩

/-! ### impl_Cell_99: function 99 -/
def impl_Cell_99.f (k:Nat) (l0:List (S88)) (a1_0:Int) (a1_1:Int):Option (Bool):=(impl_Cell_125.f k l0 a1_0 a1_1).bind fun t346=>(some (decide (t346 ≥ 0)))
theorem impl_Cell_99.calls (k:Nat) (A0:Option Addr) (c0:Nat) (l0:List (S88)) (a1_0:Int) (a1_1:Int) (r:Bool) (w:World) (hr0:Kd.C k88 w A0 l0.length l0) (hc0:l0.length ≤ c0) (h:impl_Cell_99.f k l0 a1_0 a1_1 = some r) :
    Calls Try.prog 99 #[.slice A0 l0.length c0,.agg #[.int .i64 a1_0,.int .i64 a1_1]] w fun e w'=>e = .returned (.bool r)∧Below w.heap.size w w':=by
 have S:=St.init (w:=w) (dc k88_heap at88 hr0 hc0 dn)
 clear hr0 hc0
 have F:=S.fc
 have H:=h;clear h;unfold impl_Cell_99.f at H
 replace H:=Option.bind_eq_some_iff.mp H;obtain ⟨t346,A3,H⟩:=H;(try dsimp only at H)
 obtain rfl:=Option.some.inj H
 go_enter Try.func99,Try.ntmps99
 go_wp2_with (first | ((with_reducible refine gd 3 rfl (L ?_));refine bo 3 (.agg #[_,_]) S ?_;clear S F;intro gb345 W S;have F:=S.fc) | ((with_reducible refine gate_callee (f:=125) rfl (L ?_));refine cl (some 7) Try.func125 (impl_Cell_125.calls _ _ _ _ _ _ _ _ S.c S.n A3) (hargs:=by (simp only [ma_,mb_,mc_,F] <;> rfl)) (h:=?_);rintro e W ⟨rfl,hb⟩;refine ⟨_,rfl,?_⟩;replace S:=S.go hb;clear F hb;have F:=S.fc))
 go_ret
 exact ⟨(by first | rfl | (simp [e0_,e1_] <;> rfl) | (simp [*,e0_,e1_] <;> rfl)),S.below⟩

/-! ### impl_IsChallenge: function 63 -/
mutual
def impl_IsChallenge.j0:Nat→Bool→Int→Int→List (S88)→List Int→List Int→Option (Bool)
  | 0,_,_,_,_,_,_=>none
  | k + 1,x59,x348000,x348001,x348002,x348003,x348004=>if x59 = true then (some false) else (impl_IsChallenge.l0 k x348002 (x348002.length:Int) 0 x348000 x348001 x348002 x348003 x348004)
def impl_IsChallenge.l0:Nat→List (S88)→Int→Int→Int→Int→List (S88)→List Int→List Int→Option (Bool)
  | 0,_,_,_,_,_,_,_,_=>none
  | k + 1,x61,x62,x63,x348000,x348001,x348002,x348003,x348004=>if x63 < x62 then (if 0 ≤ x63 then (if x63 < (x61.length:Int) then ((impl_IsCell.f ((rd_T88 x61 x63).f0) ((rd_T88 x61 x63).f1)).bind fun t350=>(if t350 = true then (if ((rd_T88 x61 x63).f0) = 0 then (some false) else (if x63 ≤ (x348002.length:Int) then ((impl_Cell_99.f k (x348002.take (x63:Int).toNat) ((rd_T88 x61 x63).f0) ((rd_T88 x61 x63).f1)).bind fun t355=>(if t355 = true then (some false) else (impl_IsChallenge.l0 k x61 x62 (wrap64 (x63 + 1)) x348000 x348001 x348002 x348003 x348004))) else (none))) else (some false))) else (none)) else (none)) else (impl_IsChallenge.l1 k x348003 (x348003.length:Int) 0 x348000 x348001 x348002 x348003 x348004)
def impl_IsChallenge.l1:Nat→List Int→Int→Int→Int→Int→List (S88)→List Int→List Int→Option (Bool)
  | 0,_,_,_,_,_,_,_,_=>none
  | k + 1,x86,x87,x88,x348000,x348001,x348002,x348003,x348004=>if x88 < x87 then (if 0 ≤ x88 then (if x88 < (x86.length:Int) then (if (rd x86 x88) < 0 then (some false) else (if (rd x86 x88) ≥ x348001 then (some false) else (if x88 < (x348004.length:Int) then (if (rd x348004 x88) < 0 then (some false) else (if (rd x348004 x88) > (wrap64 (x348001 + 1)) then (some false) else (impl_IsChallenge.l1 k x86 x87 (wrap64 (x88 + 1)) x348000 x348001 x348002 x348003 x348004))) else (none)))) else (none)) else (none)) else (impl_IsChallenge.l2 k 1 0 x348000 x348001 x348002 x348003 x348004)
def impl_IsChallenge.l2:Nat→Int→Int→Int→Int→List (S88)→List Int→List Int→Option (Bool)
  | 0,_,_,_,_,_,_,_=>none
  | k + 1,x7,x8,x348000,x348001,x348002,x348003,x348004=>if x8 < (wrap64 (x348000 * x348001)) then (if (wrap64 (x7 * (wrap64 ((x348002.length:Int) + 1)))) > 7000 then (some false) else (impl_IsChallenge.l2 k (wrap64 (x7 * (wrap64 ((x348002.length:Int) + 1)))) (wrap64 (x8 + 1)) x348000 x348001 x348002 x348003 x348004)) else (some true)
end
def impl_IsChallenge.f (k:Nat) (a0_0:Int) (a0_1:Int) (l0_2:List (S88)) (l0_3:List Int) (l0_4:List Int):Option (Bool):=if a0_0 < 1 then (impl_IsChallenge.j0 k true a0_0 a0_1 l0_2 l0_3 l0_4) else (if a0_0 > 4 then (impl_IsChallenge.j0 k true a0_0 a0_1 l0_2 l0_3 l0_4) else (if a0_1 < 1 then (impl_IsChallenge.j0 k true a0_0 a0_1 l0_2 l0_3 l0_4) else (if a0_1 > 4 then (impl_IsChallenge.j0 k true a0_0 a0_1 l0_2 l0_3 l0_4) else (if (l0_2.length:Int) < 1 then (impl_IsChallenge.j0 k true a0_0 a0_1 l0_2 l0_3 l0_4) else (if (l0_2.length:Int) > 6 then (impl_IsChallenge.j0 k true a0_0 a0_1 l0_2 l0_3 l0_4) else (if (l0_3.length:Int) < 1 then (impl_IsChallenge.j0 k true a0_0 a0_1 l0_2 l0_3 l0_4) else (if (l0_3.length:Int) > 8 then (impl_IsChallenge.j0 k true a0_0 a0_1 l0_2 l0_3 l0_4) else (impl_IsChallenge.j0 k ((l0_4.length:Int) != (l0_3.length:Int)) a0_0 a0_1 l0_2 l0_3 l0_4))))))))
theorem impl_IsChallenge.calls (k:Nat) (a0_0:Int) (a0_1:Int) (A0_2:Option Addr) (c0_2:Nat) (l0_2:List (S88)) (A0_3:Option Addr) (c0_3:Nat) (l0_3:List Int) (A0_4:Option Addr) (c0_4:Nat) (l0_4:List Int) (r:Bool) (w:World) (hr0_2:Kd.C k88 w A0_2 l0_2.length l0_2) (hc0_2:l0_2.length ≤ c0_2) (hr0_3:Kd.C (Kd.int .i64) w A0_3 l0_3.length l0_3) (hc0_3:l0_3.length ≤ c0_3) (hr0_4:Kd.C (Kd.int .i64) w A0_4 l0_4.length l0_4) (hc0_4:l0_4.length ≤ c0_4) (h:impl_IsChallenge.f k a0_0 a0_1 l0_2 l0_3 l0_4 = some r) :
    Calls Try.prog 63 #[.agg #[.int .i64 a0_0,.int .i64 a0_1,.slice A0_2 l0_2.length c0_2,.slice A0_3 l0_3.length c0_3,.slice A0_4 l0_4.length c0_4]] w fun e w'=>e = .returned (.bool r)∧Below w.heap.size w w':=by
 have S:=St.init (w:=w) (dc k88_heap at88 hr0_2 hc0_2 (dc (Kd.heap_int .i64) (atI .i64) hr0_3 hc0_3 (dc (Kd.heap_int .i64) (atI .i64) hr0_4 hc0_4 dn)))
 clear hr0_2 hc0_2 hr0_3 hc0_3 hr0_4 hc0_4
 have F:=S.fc
 have H:=h;clear h;unfold impl_IsChallenge.f at H
 go_enter Try.func63,Try.ntmps63
 go_upto_region 1 with (first | ((with_reducible refine gd 1 rfl (L ?_));refine bo 1 (.agg #[_,_,_,_,_]) S ?_;clear S F;intro gb347 W S;have F:=S.fc) | ((with_reducible refine gs (t:=88) rfl (L ?_));(first | refine sb (.agg #[_,_]) S sz88 ?_ | refine ro (.agg #[_,_]) S sz88 ?_ (ho:=rfl) (hx:=rfl) (hy:=rfl));(clear S F;intro W S;have F:=S.fc)))
 go_cut [59] (fun v59 wc=>∃ (kq:Nat) (x59_1:Bool),v59 = .bool x59_1∧impl_IsChallenge.j0 kq x59_1 a0_0 a0_1 l0_2 l0_3 l0_4 = some r∧kq ≤ k∧St w w (fun _=>False) [bor at88 A0_2 c0_2 l0_2,bor (atI .i64) A0_3 c0_3 l0_3,bor (atI .i64) A0_4 c0_4 l0_4] wc  [box gb347 31 [.int .i64 a0_0,.int .i64 a0_1,.slice A0_2 l0_2.length c0_2,.slice A0_3 l0_3.length c0_3,.slice A0_4 l0_4.length c0_4]])
 case first =>
  replace H:=sp_ H;rcases H with ⟨c4,H⟩ | ⟨c4,H⟩
  · skip
    go_wp2_with (first | ((with_reducible refine gs (t:=88) rfl (L ?_));(first | refine sb (.agg #[_,_]) S sz88 ?_ | refine ro (.agg #[_,_]) S sz88 ?_ (ho:=rfl) (hx:=rfl) (hy:=rfl));(clear S F;intro W S;have F:=S.fc)))
    go_meet
    case rel=>exact ⟨_,true,(by first | rfl | (simp;done) | (simp [*];done) | (rw [w6_ (by omega) (by omega)])),H,(by first | omega | exact Nat.le_refl _),S⟩
  · skip
    replace H:=sp_ H;rcases H with ⟨c6,H⟩ | ⟨c6,H⟩
    · skip
      go_wp2_with (first | ((with_reducible refine gs (t:=88) rfl (L ?_));(first | refine sb (.agg #[_,_]) S sz88 ?_ | refine ro (.agg #[_,_]) S sz88 ?_ (ho:=rfl) (hx:=rfl) (hy:=rfl));(clear S F;intro W S;have F:=S.fc)))
      go_meet
      case rel=>exact ⟨_,true,(by first | rfl | (simp;done) | (simp [*];done) | (rw [w6_ (by omega) (by omega)])),H,(by first | omega | exact Nat.le_refl _),S⟩
    · skip
      replace H:=sp_ H;rcases H with ⟨c8,H⟩ | ⟨c8,H⟩
      · skip
        go_wp2_with (first | ((with_reducible refine gs (t:=88) rfl (L ?_));(first | refine sb (.agg #[_,_]) S sz88 ?_ | refine ro (.agg #[_,_]) S sz88 ?_ (ho:=rfl) (hx:=rfl) (hy:=rfl));(clear S F;intro W S;have F:=S.fc)))
        go_meet
        case rel=>exact ⟨_,true,(by first | rfl | (simp;done) | (simp [*];done) | (rw [w6_ (by omega) (by omega)])),H,(by first | omega | exact Nat.le_refl _),S⟩
      · skip
        replace H:=sp_ H;rcases H with ⟨c10,H⟩ | ⟨c10,H⟩
        · skip
          go_wp2_with (first | ((with_reducible refine gs (t:=88) rfl (L ?_));(first | refine sb (.agg #[_,_]) S sz88 ?_ | refine ro (.agg #[_,_]) S sz88 ?_ (ho:=rfl) (hx:=rfl) (hy:=rfl));(clear S F;intro W S;have F:=S.fc)))
          go_meet
          case rel=>exact ⟨_,true,(by first | rfl | (simp;done) | (simp [*];done) | (rw [w6_ (by omega) (by omega)])),H,(by first | omega | exact Nat.le_refl _),S⟩
        · skip
          replace H:=sp_ H;rcases H with ⟨c12,H⟩ | ⟨c12,H⟩
          · skip
            go_wp2_with (first | ((with_reducible refine gs (t:=88) rfl (L ?_));(first | refine sb (.agg #[_,_]) S sz88 ?_ | refine ro (.agg #[_,_]) S sz88 ?_ (ho:=rfl) (hx:=rfl) (hy:=rfl));(clear S F;intro W S;have F:=S.fc)))
            go_meet
            case rel=>exact ⟨_,true,(by first | rfl | (simp;done) | (simp [*];done) | (rw [w6_ (by omega) (by omega)])),H,(by first | omega | exact Nat.le_refl _),S⟩
          · skip
            replace H:=sp_ H;rcases H with ⟨c14,H⟩ | ⟨c14,H⟩
            · skip
              go_wp2_with (first | ((with_reducible refine gs (t:=88) rfl (L ?_));(first | refine sb (.agg #[_,_]) S sz88 ?_ | refine ro (.agg #[_,_]) S sz88 ?_ (ho:=rfl) (hx:=rfl) (hy:=rfl));(clear S F;intro W S;have F:=S.fc)))
              go_meet
              case rel=>exact ⟨_,true,(by first | rfl | (simp;done) | (simp [*];done) | (rw [w6_ (by omega) (by omega)])),H,(by first | omega | exact Nat.le_refl _),S⟩
            · skip
              replace H:=sp_ H;rcases H with ⟨c16,H⟩ | ⟨c16,H⟩
              · skip
                go_wp2_with (first | ((with_reducible refine gs (t:=88) rfl (L ?_));(first | refine sb (.agg #[_,_]) S sz88 ?_ | refine ro (.agg #[_,_]) S sz88 ?_ (ho:=rfl) (hx:=rfl) (hy:=rfl));(clear S F;intro W S;have F:=S.fc)))
                go_meet
                case rel=>exact ⟨_,true,(by first | rfl | (simp;done) | (simp [*];done) | (rw [w6_ (by omega) (by omega)])),H,(by first | omega | exact Nat.le_refl _),S⟩
              · skip
                replace H:=sp_ H;rcases H with ⟨c18,H⟩ | ⟨c18,H⟩
                · skip
                  go_wp2_with (first | ((with_reducible refine gs (t:=88) rfl (L ?_));(first | refine sb (.agg #[_,_]) S sz88 ?_ | refine ro (.agg #[_,_]) S sz88 ?_ (ho:=rfl) (hx:=rfl) (hy:=rfl));(clear S F;intro W S;have F:=S.fc)))
                  go_meet
                  case rel=>exact ⟨_,true,(by first | rfl | (simp;done) | (simp [*];done) | (rw [w6_ (by omega) (by omega)])),H,(by first | omega | exact Nat.le_refl _),S⟩
                · skip
                  go_wp2_with (first | ((with_reducible refine gs (t:=88) rfl (L ?_));(first | refine sb (.agg #[_,_]) S sz88 ?_ | refine ro (.agg #[_,_]) S sz88 ?_ (ho:=rfl) (hx:=rfl) (hy:=rfl));(clear S F;intro W S;have F:=S.fc)))
                  go_meet
                  case rel=>exact ⟨_,((l0_4.length:Int) != (l0_3.length:Int)),(by first | rfl | (simp;done) | (simp [*];done) | (rw [w6_ (by omega) (by omega)])),H,(by first | omega | exact Nat.le_refl _),S⟩
 case rest =>
  clear H S F
  obtain ⟨kq,x59_1,rfl,HA,HJ1,S⟩:=hcut
  have F:=S.fc
  cases kq with
  | zero=>exact absurd HA (by simp [impl_IsChallenge.j0])
  | succ kj1 =>
   have H:=HA;clear HA;simp only [impl_IsChallenge.j0,F] at H
   replace H:=sp_ H;rcases H with ⟨c21,H⟩ | ⟨c21,H⟩
   · skip
     subst c21
     obtain rfl:=Option.some.inj H
     go_wp2_with (first | ((with_reducible refine gs (t:=88) rfl (L ?_));(first | refine sb (.agg #[_,_]) S sz88 ?_ | refine ro (.agg #[_,_]) S sz88 ?_ (ho:=rfl) (hx:=rfl) (hy:=rfl));(clear S F;intro W S;have F:=S.fc)))
     go_ret
     exact ⟨(by first | rfl | (simp [e0_,e1_] <;> rfl) | (simp [*,e0_,e1_] <;> rfl)),S.below⟩
   · skip
     replace c21:=cbf c21;subst c21
     go_wp2_with (first | ((with_reducible refine gs (t:=88) rfl (L ?_));(first | refine sb (.agg #[_,_]) S sz88 ?_ | refine ro (.agg #[_,_]) S sz88 ?_ (ho:=rfl) (hx:=rfl) (hy:=rfl));(clear S F;intro W S;have F:=S.fc)))
     go_loopg [63] kj1 (fun kq v63 w'=>∃ (x63_2:Int),v63 = .int .i64 x63_2∧impl_IsChallenge.l0 kq l0_2 (l0_2.length:Int) x63_2 a0_0 a0_1 l0_2 l0_3 l0_4 = some r∧kq ≤ kj1∧St w w (fun _=>False) [bor at88 A0_2 c0_2 l0_2,bor (atI .i64) A0_3 c0_3 l0_3,bor (atI .i64) A0_4 c0_4 l0_4] w'  [box gb347 31 [.int .i64 a0_0,.int .i64 a0_1,.slice A0_2 l0_2.length c0_2,.slice A0_3 l0_3.length c0_3,.slice A0_4 l0_4.length c0_4]])
     case atStart=>exact ⟨0,(by first | rfl | (simp;done) | (simp [*];done) | (rw [w6_ (by omega) (by omega)])),H,Nat.le_refl _,S⟩
     case round =>
      clear H S F
      obtain ⟨x63_2,rfl,HA,HK2,S⟩:=hrel
      have F:=S.fc
      cases gk with
      | zero=>exact absurd HA (by simp [impl_IsChallenge.l0])
      | succ k2 =>
       have H:=HA;clear HA;simp only [impl_IsChallenge.l0,F] at H
       replace H:=sp_ H;rcases H with ⟨c23,H⟩ | ⟨c23,H⟩
       · skip
         replace H:=np_ H;obtain ⟨c24,H⟩:=H
         replace H:=np_ H;obtain ⟨c25,H⟩:=H
         replace H:=Option.bind_eq_some_iff.mp H;obtain ⟨t350,A26,H⟩:=H;(try dsimp only at H)
         replace H:=sp_ H;rcases H with ⟨c27,H⟩ | ⟨c27,H⟩
         · skip
           subst c27
           replace H:=sp_ H;rcases H with ⟨c28,H⟩ | ⟨c28,H⟩
           · skip
             replace c28:=ceq c28
             obtain rfl:=Option.some.inj H
             go_wp2_with (first | ((with_reducible refine gd 4 rfl (L ?_));refine al 4 S zi88 ?_;clear S F;intro gb349 W S;have F:=S.fc) | ((with_reducible refine gs (t:=88) rfl (L ?_));(first | refine sb (.agg #[_,_]) S sz88 ?_ | refine ro (.agg #[_,_]) S sz88 ?_ (ho:=rfl) (hx:=rfl) (hy:=rfl));(clear S F;intro W S;have F:=S.fc)))
             refine rq S [(1,0),(2,1),(0,2),(0,3),(0,4),(2,5),(0,6),(0,7),(0,8),(0,9),(0,10),(0,11),(0,12),(0,13),(0,14),(0,15)] [] (h:=?_);clear S F;intro W S;have S0:=S;have F:=S.fc
             repeat (first | (refine q0 (h:=?_)) | (refine q1 S0 (h:=?_)) | (refine q0n (h:=?_)) | (refine q1n S0 (h:=?_)) | (refine q2 S0 (h:=?_)))
             (try rw [Ny351.out] at A26);refine lk2 (by rfl) (by exact (Eq.refl true)) ?_;refine cl (some 69) Try.func98 (impl_IsCell.calls _ _ _ _ A26) (hargs:=by first | (simp only [ma_,mb_,mc_,F] <;> rfl) | (simp only [ma_,mb_,mc_,F,List.length_take,List.length_drop];rw [Nat.min_eq_left] <;> first | rfl | omega)) (h:=?_);rintro e W ⟨rfl,hb⟩;refine ⟨_,rfl,?_⟩;replace S:=S.go hb;clear F hb;have F:=S.fc
             clear S0;have S0:=S;refine ⟨S0,?_⟩
             repeat (first | (refine q0 (h:=?_)) | (refine q1 S0 (h:=?_)) | (refine q0n (h:=?_)) | (refine q1n S0 (h:=?_)) | (refine q2 S0 (h:=?_)))
             refine oz ?_
             try clear S0
             go_wp2_with (first | ((with_reducible refine gs (t:=88) rfl (L ?_));(first | refine sb (.agg #[_,_]) S sz88 ?_ | refine ro (.agg #[_,_]) S sz88 ?_ (ho:=rfl) (hx:=rfl) (hy:=rfl));(clear S F;intro W S;have F:=S.fc)))
             go_ret
             exact ⟨(by first | rfl | (simp [e0_,e1_] <;> rfl) | (simp [*,e0_,e1_] <;> rfl)),S.below⟩
           · skip
             replace c28:=cne c28
             replace H:=np_ H;obtain ⟨c36,H⟩:=H
             (first | (with_reducible replace H:=ob_ H;obtain ⟨y351,hy351,H⟩:=H;(try dsimp only at H)) | (obtain ⟨y351,hy351⟩:∃ y_:List (S88),y_ = (l0_2.take (x63_2:Int).toNat):=⟨_,rfl⟩;(try rw [← hy351] at H);(try simp only [Option.bind_some] at H)));have Ny351:=Aside0.mk hy351;clear hy351
             replace H:=Option.bind_eq_some_iff.mp H;obtain ⟨t355,A37,H⟩:=H;(try dsimp only at H)
             replace H:=sp_ H;rcases H with ⟨c38,H⟩ | ⟨c38,H⟩
             · skip
               subst c38
               obtain rfl:=Option.some.inj H
               go_wp2_with (first | ((with_reducible refine gd 4 rfl (L ?_));refine al 4 S zi88 ?_;clear S F;intro gb349 W S;have F:=S.fc) | ((with_reducible refine gs (t:=88) rfl (L ?_));(first | refine sb (.agg #[_,_]) S sz88 ?_ | refine ro (.agg #[_,_]) S sz88 ?_ (ho:=rfl) (hx:=rfl) (hy:=rfl));clear S F;intro W S;(try rw [← Ny351.out] at S);have F:=S.fc))
               refine rq S [(1,0),(2,1),(0,2),(0,3),(0,4),(2,5),(0,6),(0,7),(0,8),(0,9),(0,11),(1,10),(0,12),(2,13),(2,14),(0,15)] [] (h:=?_);clear S F;intro W S;have S0:=S;have F:=S.fc
               repeat (first | (refine q0 (h:=?_)) | (refine q1 S0 (h:=?_)) | (refine q0n (h:=?_)) | (refine q1n S0 (h:=?_)) | (refine q2 S0 (h:=?_)))
               (try rw [Ny351.out] at A26);refine lk2 (by rfl) (by exact (Eq.refl true)) ?_;refine cl (some 69) Try.func98 (impl_IsCell.calls _ _ _ _ A26) (hargs:=by first | (simp only [ma_,mb_,mc_,F] <;> rfl) | (simp only [ma_,mb_,mc_,F,List.length_take,List.length_drop];rw [Nat.min_eq_left] <;> first | rfl | omega)) (h:=?_);rintro e W ⟨rfl,hb⟩;refine ⟨_,rfl,?_⟩;replace S:=S.go hb;clear F hb;have F:=S.fc
               clear S0;have S0:=S;refine ⟨S0,?_⟩
               repeat (first | (refine q0 (h:=?_)) | (refine q1 S0 (h:=?_)) | (refine q0n (h:=?_)) | (refine q1n S0 (h:=?_)) | (refine q2 S0 (h:=?_)))
               (try rw [Ny351.out] at A37);refine lk2 (by rfl) (by exact (Eq.refl true)) ?_;refine cl (some 82) Try.func99 (impl_Cell_99.calls _ _ _ _ _ _ _ _ S.c S.n A37) (hargs:=by first | (simp only [ma_,mb_,mc_,F] <;> rfl) | (simp only [ma_,mb_,mc_,F,List.length_take,List.length_drop];rw [Nat.min_eq_left] <;> first | rfl | omega)) (h:=?_);rintro e W ⟨rfl,hb⟩;refine ⟨_,rfl,?_⟩;replace S:=S.go hb;clear F hb;have F:=S.fc
               clear S0;have S0:=S;refine ⟨S0,?_⟩
               repeat (first | (refine q0 (h:=?_)) | (refine q1 S0 (h:=?_)) | (refine q0n (h:=?_)) | (refine q1n S0 (h:=?_)) | (refine q2 S0 (h:=?_)))
               refine oz ?_
               try clear S0
               go_wp2_with (first | ((with_reducible refine gs (t:=88) rfl (L ?_));(first | refine sb (.agg #[_,_]) S sz88 ?_ | refine ro (.agg #[_,_]) S sz88 ?_ (ho:=rfl) (hx:=rfl) (hy:=rfl));clear S F;intro W S;(try rw [← Ny351.out] at S);have F:=S.fc))
               go_ret
               exact ⟨(by first | rfl | (simp [e0_,e1_] <;> rfl) | (simp [*,e0_,e1_] <;> rfl)),S.below⟩
             · skip
               replace c38:=cbf c38;subst c38
               go_wp2_with (first | ((with_reducible refine gd 4 rfl (L ?_));refine al 4 S zi88 ?_;clear S F;intro gb349 W S;have F:=S.fc) | ((with_reducible refine gs (t:=88) rfl (L ?_));(first | refine sb (.agg #[_,_]) S sz88 ?_ | refine ro (.agg #[_,_]) S sz88 ?_ (ho:=rfl) (hx:=rfl) (hy:=rfl));clear S F;intro W S;(try rw [← Ny351.out] at S);have F:=S.fc))
               refine rq S [(1,0),(2,1),(0,2),(0,3),(0,4),(2,5),(0,6),(0,7),(0,8),(0,9),(0,11),(1,10),(0,12),(2,13),(2,14),(0,15)] [] (h:=?_);clear S F;intro W S;have S0:=S;have F:=S.fc
               repeat (first | (refine q0 (h:=?_)) | (refine q1 S0 (h:=?_)) | (refine q0n (h:=?_)) | (refine q1n S0 (h:=?_)) | (refine q2 S0 (h:=?_)))
               (try rw [Ny351.out] at A26);refine lk2 (by rfl) (by exact (Eq.refl true)) ?_;refine cl (some 69) Try.func98 (impl_IsCell.calls _ _ _ _ A26) (hargs:=by first | (simp only [ma_,mb_,mc_,F] <;> rfl) | (simp only [ma_,mb_,mc_,F,List.length_take,List.length_drop];rw [Nat.min_eq_left] <;> first | rfl | omega)) (h:=?_);rintro e W ⟨rfl,hb⟩;refine ⟨_,rfl,?_⟩;replace S:=S.go hb;clear F hb;have F:=S.fc
               clear S0;have S0:=S;refine ⟨S0,?_⟩
               repeat (first | (refine q0 (h:=?_)) | (refine q1 S0 (h:=?_)) | (refine q0n (h:=?_)) | (refine q1n S0 (h:=?_)) | (refine q2 S0 (h:=?_)))
               (try rw [Ny351.out] at A37);refine lk2 (by rfl) (by exact (Eq.refl true)) ?_;refine cl (some 82) Try.func99 (impl_Cell_99.calls _ _ _ _ _ _ _ _ S.c S.n A37) (hargs:=by first | (simp only [ma_,mb_,mc_,F] <;> rfl) | (simp only [ma_,mb_,mc_,F,List.length_take,List.length_drop];rw [Nat.min_eq_left] <;> first | rfl | omega)) (h:=?_);rintro e W ⟨rfl,hb⟩;refine ⟨_,rfl,?_⟩;replace S:=S.go hb;clear F hb;have F:=S.fc
               clear S0;have S0:=S;refine ⟨S0,?_⟩
               repeat (first | (refine q0 (h:=?_)) | (refine q1 S0 (h:=?_)) | (refine q0n (h:=?_)) | (refine q1n S0 (h:=?_)) | (refine q2 S0 (h:=?_)))
               refine oz ?_
               try clear S0
               go_wp2_with (first | ((with_reducible refine gs (t:=88) rfl (L ?_));(first | refine sb (.agg #[_,_]) S sz88 ?_ | refine ro (.agg #[_,_]) S sz88 ?_ (ho:=rfl) (hx:=rfl) (hy:=rfl));clear S F;intro W S;(try rw [← Ny351.out] at S);have F:=S.fc))
               go_roundg k2
               case measure=>omega
               case rel=>exact ⟨(wrap64 (x63_2 + 1)),(by first | rfl | (simp;done) | (simp [*];done) | (rw [w6_ (by omega) (by omega)])),H,(by first | omega | exact Nat.le_refl _),(S.pm [1])⟩
         · skip
           replace c27:=cbf c27;subst c27
           obtain rfl:=Option.some.inj H
           go_wp2_with (first | ((with_reducible refine gd 4 rfl (L ?_));refine al 4 S zi88 ?_;clear S F;intro gb349 W S;have F:=S.fc) | ((with_reducible refine gs (t:=88) rfl (L ?_));(first | refine sb (.agg #[_,_]) S sz88 ?_ | refine ro (.agg #[_,_]) S sz88 ?_ (ho:=rfl) (hx:=rfl) (hy:=rfl));(clear S F;intro W S;have F:=S.fc)))
           refine rq S [(1,0),(2,1),(0,2),(0,3),(0,4),(0,5),(0,6),(0,7),(0,8),(0,9),(0,10),(0,11),(0,12),(0,13),(0,14),(0,15)] [] (h:=?_);clear S F;intro W S;have S0:=S;have F:=S.fc
           repeat (first | (refine q0 (h:=?_)) | (refine q1 S0 (h:=?_)) | (refine q0n (h:=?_)) | (refine q1n S0 (h:=?_)))
           (try rw [Ny351.out] at A26);refine lk2 (by rfl) (by exact (Eq.refl true)) ?_;refine cl (some 69) Try.func98 (impl_IsCell.calls _ _ _ _ A26) (hargs:=by first | (simp only [ma_,mb_,mc_,F] <;> rfl) | (simp only [ma_,mb_,mc_,F,List.length_take,List.length_drop];rw [Nat.min_eq_left] <;> first | rfl | omega)) (h:=?_);rintro e W ⟨rfl,hb⟩;refine ⟨_,rfl,?_⟩;replace S:=S.go hb;clear F hb;have F:=S.fc
           clear S0;have S0:=S;refine ⟨S0,?_⟩
           repeat (first | (refine q0 (h:=?_)) | (refine q1 S0 (h:=?_)) | (refine q0n (h:=?_)) | (refine q1n S0 (h:=?_)))
           refine oz ?_
           try clear S0
           go_wp2_with (first | ((with_reducible refine gs (t:=88) rfl (L ?_));(first | refine sb (.agg #[_,_]) S sz88 ?_ | refine ro (.agg #[_,_]) S sz88 ?_ (ho:=rfl) (hx:=rfl) (hy:=rfl));(clear S F;intro W S;have F:=S.fc)))
           go_ret
           exact ⟨(by first | rfl | (simp [e0_,e1_] <;> rfl) | (simp [*,e0_,e1_] <;> rfl)),S.below⟩
       · skip
         go_wp2_with (first | ((with_reducible refine gs (t:=88) rfl (L ?_));(first | refine sb (.agg #[_,_]) S sz88 ?_ | refine ro (.agg #[_,_]) S sz88 ?_ (ho:=rfl) (hx:=rfl) (hy:=rfl));(clear S F;intro W S;have F:=S.fc)))
         go_loopg [88] k2 (fun kq v88 w'=>∃ (x88_3:Int),v88 = .int .i64 x88_3∧impl_IsChallenge.l1 kq l0_3 (l0_3.length:Int) x88_3 a0_0 a0_1 l0_2 l0_3 l0_4 = some r∧kq ≤ k2∧St w w (fun _=>False) [bor at88 A0_2 c0_2 l0_2,bor (atI .i64) A0_3 c0_3 l0_3,bor (atI .i64) A0_4 c0_4 l0_4] w'  [box gb347 31 [.int .i64 a0_0,.int .i64 a0_1,.slice A0_2 l0_2.length c0_2,.slice A0_3 l0_3.length c0_3,.slice A0_4 l0_4.length c0_4]])
         case atStart=>exact ⟨0,(by first | rfl | (simp;done) | (simp [*];done) | (rw [w6_ (by omega) (by omega)])),H,Nat.le_refl _,S⟩
         case round =>
          clear H S F
          obtain ⟨x88_3,rfl,HA,HK3,S⟩:=hrel
          have F:=S.fc
          cases gk with
          | zero=>exact absurd HA (by simp [impl_IsChallenge.l1])
          | succ k3 =>
           have H:=HA;clear HA;simp only [impl_IsChallenge.l1,F] at H
           replace H:=sp_ H;rcases H with ⟨c62,H⟩ | ⟨c62,H⟩
           · skip
             replace H:=np_ H;obtain ⟨c63,H⟩:=H
             replace H:=np_ H;obtain ⟨c64,H⟩:=H
             replace H:=sp_ H;rcases H with ⟨c65,H⟩ | ⟨c65,H⟩
             · skip
               obtain rfl:=Option.some.inj H
               go_wp2_with (first | ((with_reducible refine gs (t:=88) rfl (L ?_));(first | refine sb (.agg #[_,_]) S sz88 ?_ | refine ro (.agg #[_,_]) S sz88 ?_ (ho:=rfl) (hx:=rfl) (hy:=rfl));(clear S F;intro W S;have F:=S.fc)))
               (try have q65_:=Int.not_lt.mpr c65);(try have r65_:=Int.not_le.mpr c65);(try have q62_:=Int.not_lt.mpr c62);(try have r62_:=Int.not_le.mpr c62)
               refine rq S [(0,0),(0,1),(0,2),(0,3),(0,4),(0,5),(0,6),(0,7),(0,8),(0,9),(0,10),(0,11),(0,12),(0,13),(0,14),(0,15),(0,16),(0,17),(0,18),(0,19),(0,20),(0,21),(0,22),(0,23),(0,24),(0,25),(0,26)] [] (h:=?_);clear S F;intro W S;have S0:=S;have F:=S.fc
               repeat (first | (refine q0 (h:=?_)) | (refine q1 S0 (h:=?_)) | (refine q0n (h:=?_)) | (refine q1n S0 (h:=?_)))
               refine oz ?_
               try clear S0
               go_wp2_with (first | ((with_reducible refine gs (t:=88) rfl (L ?_));(first | refine sb (.agg #[_,_]) S sz88 ?_ | refine ro (.agg #[_,_]) S sz88 ?_ (ho:=rfl) (hx:=rfl) (hy:=rfl));(clear S F;intro W S;have F:=S.fc)))
               go_ret
               exact ⟨(by first | rfl | (simp [e0_,e1_] <;> rfl) | (simp [*,e0_,e1_] <;> rfl)),S.below⟩
             · skip
               replace H:=sp_ H;rcases H with ⟨c67,H⟩ | ⟨c67,H⟩
               · skip
                 obtain rfl:=Option.some.inj H
                 go_wp2_with (first | ((with_reducible refine gs (t:=88) rfl (L ?_));(first | refine sb (.agg #[_,_]) S sz88 ?_ | refine ro (.agg #[_,_]) S sz88 ?_ (ho:=rfl) (hx:=rfl) (hy:=rfl));(clear S F;intro W S;have F:=S.fc)))
                 (try have q67_:=Int.not_lt.mpr c67);(try have r67_:=Int.not_le.mpr c67);(try have q65_:=Int.not_lt.mpr c65);(try have r65_:=Int.not_le.mpr c65);(try have q62_:=Int.not_lt.mpr c62);(try have r62_:=Int.not_le.mpr c62)
                 refine rq S [(0,0),(0,1),(0,2),(0,3),(0,4),(1,5),(0,6),(0,7),(0,8),(0,9),(0,10),(0,11),(0,12),(0,13),(0,14),(0,15),(0,16),(0,17),(0,18),(0,19),(0,20),(0,21),(0,22),(0,23),(0,24),(0,25),(0,26)] [] (h:=?_);clear S F;intro W S;have S0:=S;have F:=S.fc
                 repeat (first | (refine q0 (h:=?_)) | (refine q1 S0 (h:=?_)) | (refine q0n (h:=?_)) | (refine q1n S0 (h:=?_)))
                 refine oz ?_
                 try clear S0
                 go_wp2_with (first | ((with_reducible refine gs (t:=88) rfl (L ?_));(first | refine sb (.agg #[_,_]) S sz88 ?_ | refine ro (.agg #[_,_]) S sz88 ?_ (ho:=rfl) (hx:=rfl) (hy:=rfl));(clear S F;intro W S;have F:=S.fc)))
                 go_ret
                 exact ⟨(by first | rfl | (simp [e0_,e1_] <;> rfl) | (simp [*,e0_,e1_] <;> rfl)),S.below⟩
               · skip
                 replace H:=np_ H;obtain ⟨c69,H⟩:=H
                 replace H:=sp_ H;rcases H with ⟨c70,H⟩ | ⟨c70,H⟩
                 · skip
                   obtain rfl:=Option.some.inj H
                   go_wp2_with (first | ((with_reducible refine gs (t:=88) rfl (L ?_));(first | refine sb (.agg #[_,_]) S sz88 ?_ | refine ro (.agg #[_,_]) S sz88 ?_ (ho:=rfl) (hx:=rfl) (hy:=rfl));(clear S F;intro W S;have F:=S.fc)))
                   (try have q70_:=Int.not_lt.mpr c70);(try have r70_:=Int.not_le.mpr c70);(try have q67_:=Int.not_lt.mpr c67);(try have r67_:=Int.not_le.mpr c67);(try have q65_:=Int.not_lt.mpr c65);(try have r65_:=Int.not_le.mpr c65);(try have q62_:=Int.not_lt.mpr c62);(try have r62_:=Int.not_le.mpr c62)
                   refine rq S [(0,0),(0,1),(0,2),(0,3),(0,4),(1,5),(0,6),(0,7),(0,8),(0,9),(0,11),(1,10),(0,12),(1,13),(0,14),(0,15),(0,16),(0,17),(0,18),(0,19),(0,20),(0,21),(0,22),(0,23),(0,24),(0,25),(0,26)] [] (h:=?_);clear S F;intro W S;have S0:=S;have F:=S.fc
                   repeat (first | (refine q0 (h:=?_)) | (refine q1 S0 (h:=?_)) | (refine q0n (h:=?_)) | (refine q1n S0 (h:=?_)))
                   refine oz ?_
                   try clear S0
                   go_wp2_with (first | ((with_reducible refine gs (t:=88) rfl (L ?_));(first | refine sb (.agg #[_,_]) S sz88 ?_ | refine ro (.agg #[_,_]) S sz88 ?_ (ho:=rfl) (hx:=rfl) (hy:=rfl));(clear S F;intro W S;have F:=S.fc)))
                   go_ret
                   exact ⟨(by first | rfl | (simp [e0_,e1_] <;> rfl) | (simp [*,e0_,e1_] <;> rfl)),S.below⟩
                 · skip
                   replace H:=sp_ H;rcases H with ⟨c72,H⟩ | ⟨c72,H⟩
                   · skip
                     obtain rfl:=Option.some.inj H
                     go_wp2_with (first | ((with_reducible refine gs (t:=88) rfl (L ?_));(first | refine sb (.agg #[_,_]) S sz88 ?_ | refine ro (.agg #[_,_]) S sz88 ?_ (ho:=rfl) (hx:=rfl) (hy:=rfl));(clear S F;intro W S;have F:=S.fc)))
                     (try have q72_:=Int.not_lt.mpr c72);(try have r72_:=Int.not_le.mpr c72);(try have q70_:=Int.not_lt.mpr c70);(try have r70_:=Int.not_le.mpr c70);(try have q67_:=Int.not_lt.mpr c67);(try have r67_:=Int.not_le.mpr c67);(try have q65_:=Int.not_lt.mpr c65);(try have r65_:=Int.not_le.mpr c65);(try have q62_:=Int.not_lt.mpr c62);(try have r62_:=Int.not_le.mpr c62)
                     refine rq S [(0,0),(0,1),(0,2),(0,3),(0,4),(1,5),(0,6),(0,7),(0,8),(0,9),(0,11),(1,10),(0,12),(1,13),(0,14),(0,15),(0,16),(0,17),(0,19),(0,22),(1,18),(0,20),(1,21),(1,23),(0,24),(0,25),(0,26)] [] (h:=?_);clear S F;intro W S;have S0:=S;have F:=S.fc
                     repeat (first | (refine q0 (h:=?_)) | (refine q1 S0 (h:=?_)) | (refine q0n (h:=?_)) | (refine q1n S0 (h:=?_)))
                     refine oz ?_
                     try clear S0
                     go_wp2_with (first | ((with_reducible refine gs (t:=88) rfl (L ?_));(first | refine sb (.agg #[_,_]) S sz88 ?_ | refine ro (.agg #[_,_]) S sz88 ?_ (ho:=rfl) (hx:=rfl) (hy:=rfl));(clear S F;intro W S;have F:=S.fc)))
                     go_ret
                     exact ⟨(by first | rfl | (simp [e0_,e1_] <;> rfl) | (simp [*,e0_,e1_] <;> rfl)),S.below⟩
                   · skip
                     go_wp2_with (first | ((with_reducible refine gs (t:=88) rfl (L ?_));(first | refine sb (.agg #[_,_]) S sz88 ?_ | refine ro (.agg #[_,_]) S sz88 ?_ (ho:=rfl) (hx:=rfl) (hy:=rfl));(clear S F;intro W S;have F:=S.fc)))
                     (try have q72_:=Int.not_lt.mpr c72);(try have r72_:=Int.not_le.mpr c72);(try have q70_:=Int.not_lt.mpr c70);(try have r70_:=Int.not_le.mpr c70);(try have q67_:=Int.not_lt.mpr c67);(try have r67_:=Int.not_le.mpr c67);(try have q65_:=Int.not_lt.mpr c65);(try have r65_:=Int.not_le.mpr c65);(try have q62_:=Int.not_lt.mpr c62);(try have r62_:=Int.not_le.mpr c62)
                     refine rq S [(0,0),(0,1),(0,2),(0,3),(0,4),(1,5),(0,6),(0,7),(0,8),(0,9),(0,11),(1,10),(0,12),(1,13),(0,14),(0,15),(0,16),(0,17),(0,19),(0,22),(1,18),(0,20),(1,21),(1,23),(0,24),(0,25),(0,26)] [] (h:=?_);clear S F;intro W S;have S0:=S;have F:=S.fc
                     repeat (first | (refine q0 (h:=?_)) | (refine q1 S0 (h:=?_)) | (refine q0n (h:=?_)) | (refine q1n S0 (h:=?_)))
                     refine oz ?_
                     try clear S0
                     go_wp2_with (first | ((with_reducible refine gs (t:=88) rfl (L ?_));(first | refine sb (.agg #[_,_]) S sz88 ?_ | refine ro (.agg #[_,_]) S sz88 ?_ (ho:=rfl) (hx:=rfl) (hy:=rfl));(clear S F;intro W S;have F:=S.fc)))
                     go_roundg k3
                     case measure=>omega
                     case rel=>exact ⟨(wrap64 (x88_3 + 1)),(by first | rfl | (simp;done) | (simp [*];done) | (rw [w6_ (by omega) (by omega)])),H,(by first | omega | exact Nat.le_refl _),S⟩
           · skip
             go_wp2_with (first | ((with_reducible refine gs (t:=88) rfl (L ?_));(first | refine sb (.agg #[_,_]) S sz88 ?_ | refine ro (.agg #[_,_]) S sz88 ?_ (ho:=rfl) (hx:=rfl) (hy:=rfl));(clear S F;intro W S;have F:=S.fc)))
             go_loopg [7,8] k3 (fun kq v7 v8 w'=>∃ (x7_4:Int) (x8_4:Int),v7 = .int .i64 x7_4∧v8 = .int .i64 x8_4∧impl_IsChallenge.l2 kq x7_4 x8_4 a0_0 a0_1 l0_2 l0_3 l0_4 = some r∧kq ≤ k3∧St w w (fun _=>False) [bor at88 A0_2 c0_2 l0_2,bor (atI .i64) A0_3 c0_3 l0_3,bor (atI .i64) A0_4 c0_4 l0_4] w'  [box gb347 31 [.int .i64 a0_0,.int .i64 a0_1,.slice A0_2 l0_2.length c0_2,.slice A0_3 l0_3.length c0_3,.slice A0_4 l0_4.length c0_4]])
             case atStart=>exact ⟨1,0,(by first | rfl | (simp;done) | (simp [*];done) | (rw [w6_ (by omega) (by omega)])),(by first | rfl | (simp;done) | (simp [*];done) | (rw [w6_ (by omega) (by omega)])),H,Nat.le_refl _,S⟩
             case round =>
              clear H S F
              obtain ⟨x7_4,x8_4,rfl,rfl,HA,HK4,S⟩:=hrel
              have F:=S.fc
              cases gk with
              | zero=>exact absurd HA (by simp [impl_IsChallenge.l2])
              | succ k4 =>
               have H:=HA;clear HA;simp only [impl_IsChallenge.l2,F] at H
               replace H:=sp_ H;rcases H with ⟨c75,H⟩ | ⟨c75,H⟩
               · skip
                 replace H:=sp_ H;rcases H with ⟨c76,H⟩ | ⟨c76,H⟩
                 · skip
                   obtain rfl:=Option.some.inj H
                   go_wp2_with (first | ((with_reducible refine gs (t:=88) rfl (L ?_));(first | refine sb (.agg #[_,_]) S sz88 ?_ | refine ro (.agg #[_,_]) S sz88 ?_ (ho:=rfl) (hx:=rfl) (hy:=rfl));(clear S F;intro W S;have F:=S.fc)))
                   go_ret
                   exact ⟨(by first | rfl | (simp [e0_,e1_] <;> rfl) | (simp [*,e0_,e1_] <;> rfl)),S.below⟩
                 · skip
                   go_wp2_with (first | ((with_reducible refine gs (t:=88) rfl (L ?_));(first | refine sb (.agg #[_,_]) S sz88 ?_ | refine ro (.agg #[_,_]) S sz88 ?_ (ho:=rfl) (hx:=rfl) (hy:=rfl));(clear S F;intro W S;have F:=S.fc)))
                   go_roundg k4
                   case measure=>omega
                   case rel=>exact ⟨(wrap64 (x7_4 * (wrap64 ((l0_2.length:Int) + 1)))),(wrap64 (x8_4 + 1)),(by first | rfl | (simp;done) | (simp [*];done) | (rw [w6_ (by omega) (by omega)])),(by first | rfl | (simp;done) | (simp [*];done) | (rw [w6_ (by omega) (by omega)])),H,(by first | omega | exact Nat.le_refl _),S⟩
               · skip
                 obtain rfl:=Option.some.inj H
                 go_wp2_with (first | ((with_reducible refine gs (t:=88) rfl (L ?_));(first | refine sb (.agg #[_,_]) S sz88 ?_ | refine ro (.agg #[_,_]) S sz88 ?_ (ho:=rfl) (hx:=rfl) (hy:=rfl));(clear S F;intro W S;have F:=S.fc)))
                 go_ret
                 exact ⟨(by first | rfl | (simp [e0_,e1_] <;> rfl) | (simp [*,e0_,e1_] <;> rfl)),S.below⟩

/-! ### impl_boardsTried: function 106 -/
def impl_boardsTried.l0:Nat→Int→Int→Int→Int→List (S88)→List Int→List Int→Option (Int)
  | 0,_,_,_,_,_,_,_=>none
  | k + 1,x3,x4,x363000,x363001,x363002,x363003,x363004=>if x4 < (wrap64 (x363000 * x363001)) then (impl_boardsTried.l0 k (wrap64 (x3 * (wrap64 ((x363002.length:Int) + 1)))) (wrap64 (x4 + 1)) x363000 x363001 x363002 x363003 x363004) else (some x3)
def impl_boardsTried.f (k:Nat) (a0_0:Int) (a0_1:Int) (l0_2:List (S88)) (l0_3:List Int) (l0_4:List Int):Option (Int):=impl_boardsTried.l0 k 1 0 a0_0 a0_1 l0_2 l0_3 l0_4
theorem impl_boardsTried.calls (k:Nat) (a0_0:Int) (a0_1:Int) (A0_2:Option Addr) (c0_2:Nat) (l0_2:List (S88)) (A0_3:Option Addr) (c0_3:Nat) (l0_3:List Int) (A0_4:Option Addr) (c0_4:Nat) (l0_4:List Int) (r:Int) (w:World) (hr0_2:Kd.C k88 w A0_2 l0_2.length l0_2) (hc0_2:l0_2.length ≤ c0_2) (hr0_3:Kd.C (Kd.int .i64) w A0_3 l0_3.length l0_3) (hc0_3:l0_3.length ≤ c0_3) (hr0_4:Kd.C (Kd.int .i64) w A0_4 l0_4.length l0_4) (hc0_4:l0_4.length ≤ c0_4) (h:impl_boardsTried.f k a0_0 a0_1 l0_2 l0_3 l0_4 = some r) :
    Calls Try.prog 106 #[.agg #[.int .i64 a0_0,.int .i64 a0_1,.slice A0_2 l0_2.length c0_2,.slice A0_3 l0_3.length c0_3,.slice A0_4 l0_4.length c0_4]] w fun e w'=>e = .returned (.int .i64 r)∧Below w.heap.size w w':=by
 have S:=St.init (w:=w) (dc k88_heap at88 hr0_2 hc0_2 (dc (Kd.heap_int .i64) (atI .i64) hr0_3 hc0_3 (dc (Kd.heap_int .i64) (atI .i64) hr0_4 hc0_4 dn)))
 clear hr0_2 hc0_2 hr0_3 hc0_3 hr0_4 hc0_4
 have F:=S.fc
 have H:=h;clear h;unfold impl_boardsTried.f at H
 go_enter Try.func106,Try.ntmps106
 go_wp2_with (first | ((with_reducible refine gd 1 rfl (L ?_));refine bo 1 (.agg #[_,_,_,_,_]) S ?_;clear S F;intro gb362 W S;have F:=S.fc))
 go_loopg [3,4] k (fun kq v3 v4 w'=>∃ (x3_1:Int) (x4_1:Int),v3 = .int .i64 x3_1∧v4 = .int .i64 x4_1∧impl_boardsTried.l0 kq x3_1 x4_1 a0_0 a0_1 l0_2 l0_3 l0_4 = some r∧kq ≤ k∧St w w (fun _=>False) [bor at88 A0_2 c0_2 l0_2,bor (atI .i64) A0_3 c0_3 l0_3,bor (atI .i64) A0_4 c0_4 l0_4] w'  [box gb362 31 [.int .i64 a0_0,.int .i64 a0_1,.slice A0_2 l0_2.length c0_2,.slice A0_3 l0_3.length c0_3,.slice A0_4 l0_4.length c0_4]])
 case atStart=>exact ⟨1,0,(by first | rfl | (simp;done) | (simp [*];done) | (rw [w6_ (by omega) (by omega)])),(by first | rfl | (simp;done) | (simp [*];done) | (rw [w6_ (by omega) (by omega)])),H,Nat.le_refl _,S⟩
 case round =>
  clear H S F
  obtain ⟨x3_1,x4_1,rfl,rfl,HA,HK1,S⟩:=hrel
  have F:=S.fc
  cases gk with
  | zero=>exact absurd HA (by simp [impl_boardsTried.l0])
  | succ k1 =>
   have H:=HA;clear HA;simp only [impl_boardsTried.l0,F] at H
   replace H:=sp_ H;rcases H with ⟨c3,H⟩ | ⟨c3,H⟩
   · skip
     go_wp2
     go_roundg k1
     case measure=>omega
     case rel=>exact ⟨(wrap64 (x3_1 * (wrap64 ((l0_2.length:Int) + 1)))),(wrap64 (x4_1 + 1)),(by first | rfl | (simp;done) | (simp [*];done) | (rw [w6_ (by omega) (by omega)])),(by first | rfl | (simp;done) | (simp [*];done) | (rw [w6_ (by omega) (by omega)])),H,(by first | omega | exact Nat.le_refl _),S⟩
   · skip
     obtain rfl:=Option.some.inj H
     go_wp2
     go_ret
     exact ⟨(by first | rfl | (simp [e0_,e1_] <;> rfl) | (simp [*,e0_,e1_] <;> rfl)),S.below⟩

/-! ### impl_boardOf: function 107 -/
def impl_boardOf.l0:Nat→Int→Int→Int→Int→List (S88)→List Int→List Int→Int→Int→List (S88)→Option (Int × Int × (List (S88)))
 | 0,_,_,_,_,_,_,_,_,_,_=>none
 | k + 1,x1,x6,x364000,x364001,x364002,x364003,x364004,x369000,x369001,x369002=>if x6 ≥ 0 then (if (wrap64 ((x364002.length:Int) + 1)) = 0 then (none) else (if (Int.tmod x1 (wrap64 ((x364002.length:Int) + 1))) > 0 then (if 0 ≤ (wrap64 ((Int.tmod x1 (wrap64 ((x364002.length:Int) + 1))) - 1)) then (if (wrap64 ((Int.tmod x1 (wrap64 ((x364002.length:Int) + 1))) - 1)) < (x364002.length:Int) then (if 0 ≤ x6 then (if x6 < (x369002.length:Int) then (impl_boardOf.l0 k (wrap64 (Int.tdiv x1 (wrap64 ((x364002.length:Int) + 1)))) (wrap64 (x6 - 1)) x364000 x364001 x364002 x364003 x364004 x369000 x369001 (x369002.set (x6:Int).toNat (⟨(rd_T88 x364002 (wrap64 ((Int.tmod x1 (wrap64 ((x364002.length:Int) + 1))) - 1))).f0,(rd_T88 x364002 (wrap64 ((Int.tmod x1 (wrap64 ((x364002.length:Int) + 1))) - 1))).f1⟩:S88))) else (none)) else (none)) else (none)) else (none)) else (impl_boardOf.l0 k (wrap64 (Int.tdiv x1 (wrap64 ((x364002.length:Int) + 1)))) (wrap64 (x6 - 1)) x364000 x364001 x364002 x364003 x364004 x369000 x369001 x369002))) else (some (x369000,x369001,x369002))
def impl_boardOf.f (k:Nat) (a0_0:Int) (a0_1:Int) (l0_2:List (S88)) (l0_3:List Int) (l0_4:List Int) (a1:Int):Option (Int × Int × (List (S88))):=if 0 ≤ (wrap64 (a0_0 * a0_1)) then (if (wrap64 (a0_0 * a0_1):Int).toNat ≤ 17592186044416 then ((some (List.replicate (wrap64 (a0_0 * a0_1):Int).toNat z88:List (S88))).bind fun y365=>(impl_boardOf.l0 k a1 (wrap64 ((y365.length:Int) - 1)) a0_0 a0_1 l0_2 l0_3 l0_4 a0_0 a0_1 y365)) else (none)) else (none)
def impl_boardOf.T1:Bool × List (List Nat × List Nat):=(true,[([],[]),([0],[0]),([],[]),([2],[2]),([],[]),([4],[4]),([],[]),([6],[6]),([5,7],[5,7]),([8,8],[8]),([1,3,9],[1,3,9]),([],[]),([11,10,0,1,2,3,4,5,6,7,8,9,10,11],[10,11])])
def impl_boardOf.B1:List Nat:=[0,1,0,4,0,16,0,64,240,496,1023,0,4095]
theorem impl_boardOf.tab1:rtab .any (opsOf Try.f107 1) = impl_boardOf.T1:=by kernel_rfl
theorem impl_boardOf.bits1:waitsOk impl_boardOf.T1.2 impl_boardOf.B1 = true:=by kernel_rfl
def impl_boardOf.T8:Bool × List (List Nat × List Nat):=(true,[([],[]),([0],[0]),([],[]),([],[]),([3],[3]),([],[]),([5],[5]),([4,6],[4,6]),([7],[7]),([1,2,0,1,2,3,4,5,6,7,8],[1,2]),([9,8,0,1,2,3,4,5,6,7,8],[8,9])])
def impl_boardOf.B8:List Nat:=[0,1,0,0,8,0,32,120,248,511,1023]
theorem impl_boardOf.tab8:rtab .any (opsOf Try.f107 8) = impl_boardOf.T8:=by kernel_rfl
theorem impl_boardOf.bits8:waitsOk impl_boardOf.T8.2 impl_boardOf.B8 = true:=by kernel_rfl
theorem impl_boardOf.calls (k:Nat) (a0_0:Int) (a0_1:Int) (A0_2:Option Addr) (c0_2:Nat) (l0_2:List (S88)) (A0_3:Option Addr) (c0_3:Nat) (l0_3:List Int) (A0_4:Option Addr) (c0_4:Nat) (l0_4:List Int) (a1:Int) (r1:Int) (r2:Int) (r3:List (S88)) (w:World) (hr0_2:Kd.C k88 w A0_2 l0_2.length l0_2) (hc0_2:l0_2.length ≤ c0_2) (hr0_3:Kd.C (Kd.int .i64) w A0_3 l0_3.length l0_3) (hc0_3:l0_3.length ≤ c0_3) (hr0_4:Kd.C (Kd.int .i64) w A0_4 l0_4.length l0_4) (hc0_4:l0_4.length ≤ c0_4) (h:impl_boardOf.f k a0_0 a0_1 l0_2 l0_3 l0_4 a1 = some (r1,r2,r3)) :
  Calls Try.prog 107 #[.agg #[.int .i64 a0_0,.int .i64 a0_1,.slice A0_2 l0_2.length c0_2,.slice A0_3 l0_3.length c0_3,.slice A0_4 l0_4.length c0_4],.int .i64 a1] w fun e w'=>∃ v2_:Value,e = .returned (.agg #[.int .i64 r1,.int .i64 r2,v2_])∧Kd.R k88 88 w' w.heap.size (fun _=>True) v2_ r3∧Below w.heap.size w w':=by
 have HR0_2:=Aside0.mk hr0_2;have HC0_2:=Aside0.mk hc0_2;clear hr0_2 hc0_2;have HR0_3:=Aside0.mk hr0_3;have HC0_3:=Aside0.mk hc0_3;clear hr0_3 hc0_3;have HR0_4:=Aside0.mk hr0_4;have HC0_4:=Aside0.mk hc0_4;clear hr0_4 hc0_4;have HB:=Aside0.mk (Below.refl w.heap.size w);have H:(if 0 ≤ (wrap64 (a0_0 * a0_1)) then (if (wrap64 (a0_0 * a0_1):Int).toNat ≤ 17592186044416 then ((some (List.replicate (wrap64 (a0_0 * a0_1):Int).toNat z88:List (S88))).bind fun y365=>(impl_boardOf.l0 k a1 (wrap64 ((y365.length:Int) - 1)) a0_0 a0_1 l0_2 l0_3 l0_4 a0_0 a0_1 y365)) else (none)) else (none)) = some (r1,r2,r3):=h;clear h;obtain ⟨ji3,hji3⟩:∃ j_:Int,(wrap64 (a0_0 * a0_1)) = j_:=⟨_,rfl⟩
 replace H:(if 0 ≤ (ji3) then (if (ji3:Int).toNat ≤ 17592186044416 then ((some (List.replicate (ji3:Int).toNat z88:List (S88))).bind fun y365=>(impl_boardOf.l0 k a1 (wrap64 ((y365.length:Int) - 1)) a0_0 a0_1 l0_2 l0_3 l0_4 a0_0 a0_1 y365)) else (none)) else (none)) = some (r1,r2,r3):=by first | (rw [hji3] at H;exact H) | (simp only [hji3] at H ⊢;exact H)
 have hji3w:(IntKind.i64.wrap (a0_0 * a0_1)) = ji3:=(i64_w _).trans hji3;replace H:=np_ H;obtain ⟨c4,H⟩:=H;have c4b0:=eq_true c4;have c4b1:decide (0 ≤ (ji3)) = true:=decide_eq_true c4;clear c4;replace H:=np_ H;obtain ⟨c5,H⟩:=H;have c5b0:=eq_true c5;have c5b1:decide ((ji3:Int).toNat ≤ 17592186044416) = true:=decide_eq_true c5;clear c5;obtain ⟨y365,hy365⟩:∃ y_:List (S88),y_ = (List.replicate (ji3:Int).toNat z88):=⟨_,rfl⟩
 replace H:(impl_boardOf.l0 k a1 (wrap64 ((y365.length:Int) - 1)) a0_0 a0_1 l0_2 l0_3 l0_4 a0_0 a0_1 y365) = some (r1,r2,r3):=by first | (rw [hy365];with_reducible exact H) | (have H2_:=(Option.bind_some _ _).symm.trans H;rw [hy365];with_reducible exact H2_) | (have H2_:=(Option.bind_some _ _).symm.trans H;with_reducible exact H2_) | with_reducible exact H | (rw [hy365];exact H) | exact H
 have Ny365:=Aside0.mk hy365;clear hy365;have H':=Aside0.mk H;clear H;go_enter Try.func107,Try.ntmps107;try go_wp2_with (first | ((with_reducible refine gate_dst (N:=2) rfl ?_);refine box_event ?hg (N:=2) ?hd (cs:=#[.int .i64 a0_0,.int .i64 a0_1,.slice A0_2 l0_2.length c0_2,.slice A0_3 l0_3.length c0_3,.slice A0_4 l0_4.length c0_4]) (t:=31) ?hr ?_;(case hd=>rfl);(case hg=>rfl);(case hr=>first | (go_simp;done) | (go_simp;rfl));intro gb363 hg w6 hbox hb;refine ev4 (bs HB hb) (hbox) (gle hg HB) (gle hg HB) ?_;clear HB;intro HB BK363 GW363 GE363;clear hb hbox hg) | ((with_reducible refine gate_dst (N:=4) rfl ?_);refine box_event ?hg (N:=4) ?hd (cs:=#[.int .i64 0,.int .i64 0,.slice none 0 0]) (t:=50) ?hr ?_;(case hd=>rfl);(case hg=>rfl);(case hr=>first | (go_simp;done) | (go_simp;rfl));intro gb364 hg w7 hbox hb;refine ev7 (kb BK363 hb) (bs HB hb) (hbox) (gle hg HB) (gle hg HB) (gnf hg BK363) (gne hg BK363) ?_;clear BK363 HB;intro BK363 HB BK364 GW364 GE364 NB363_364 NB364_363;clear hb hbox hg))
 refine ev3 (blk_drew BK363.out) (blk_drew BK364.out) (below_drew1 HB.out) ?_;clear BK363 BK364 HB;intro BK363 BK364 HB;refine start_ (n:=13) (S:=fun w'=>w'.cell? ⟨gb363,0,none⟩ = some (.int .i64 a0_0)∧w'.cell? ⟨gb363,1,none⟩ = some (.int .i64 a0_1)∧w'.cell? ⟨gb363,2,none⟩ = some (.slice A0_2 l0_2.length c0_2)∧w'.cell? ⟨gb363,3,none⟩ = some (.slice A0_3 l0_3.length c0_3)∧w'.cell? ⟨gb363,4,none⟩ = some (.slice A0_4 l0_4.length c0_4)) (ds:=[]) #[Z,Z,Z,Z,Z,Z,Z,Z,Z,Z,Z,Z,Z] (by kernel_rfl) rfl rfl ⟨(blk_cell BK363.out 0).trans rfl,(blk_cell BK363.out 1).trans rfl,(blk_cell BK363.out 2).trans rfl,(blk_cell BK363.out 3).trans rfl,(blk_cell BK363.out 4).trans rfl⟩ (fun hHeld=>?_);refine with_tabW impl_boardOf.tab1 impl_boardOf.bits1 (fun HT_ HW_=>?_);generalize w7.drew = w8 at BK363 BK364 HB hHeld ⊢
 refine pA 0 (some 8) ?_ #[Y,Z,Z,Z,Z,Z,Z,Z,Z,Z,Z,Z,Z] rfl rfl HT_ (by kernel_rfl) (fun _ _ _ h=>h) (by rfl) ?_ ?_ ?_ ?_;rotate_left
 ·intro w';go_simp;with_reducible rfl
 rotate_left
 ·simp only [Act.put,za_,zb_,zc_,i64_w,i32_w];rfl
 refine pA 2 (some 10) ?_ #[Y,Z,Y,Z,Z,Z,Z,Z,Z,Z,Z,Z,Z] rfl rfl HT_ (by kernel_rfl) (fun _ _ _ h=>h) (by rfl) ?_ ?_ ?_ ?_;rotate_left
 ·intro w';go_simp;with_reducible rfl
 rotate_left
 ·simp only [Act.put,za_,zb_,zc_,i64_w,i32_w];rfl
 refine pA 4 (some 12) ?_ #[Y,Z,Y,Z,Y,Z,Z,Z,Z,Z,Z,Z,Z] rfl rfl HT_ (by kernel_rfl) (fun _ _ _ h=>h) (by rfl) ?_ ?_ ?_ ?_;rotate_left
 ·intro w';go_simp;with_reducible rfl
 rotate_left
 ·simp only [Act.put,za_,zb_,zc_,i64_w,i32_w];rfl
 refine pA 6 (some 14) ?_ #[Y,Z,Y,Z,Y,Z,Y,Z,Z,Z,Z,Z,Z] rfl rfl HT_ (by kernel_rfl) (fun _ _ _ h=>h) (by rfl) ?_ ?_ ?_ ?_;rotate_left
 ·intro w';go_simp;with_reducible rfl
 rotate_left
 ·simp only [Act.put,za_,zb_,zc_,i64_w,i32_w];rfl
 refine tA 1 (some 9) ?_ #[Y,Y,Y,Z,Y,Z,Y,Z,Z,Z,Z,Z,Z] rfl rfl HT_ HW_ (by kernel_rfl) (fun _ _ _ h=>h) (by rfl) ?_ hHeld ?_ ?_ ?_;rotate_left
 ·rintro w' ⟨s0,s1,s2,s3,s4⟩;go_simp;with_reducible rfl
 rotate_left
 ·simp only [Act.put,za_,zb_,zc_,i64_w,i32_w];rfl
 refine tA 3 (some 11) ?_ #[Y,Y,Y,Y,Y,Z,Y,Z,Z,Z,Z,Z,Z] rfl rfl HT_ HW_ (by kernel_rfl) (fun _ _ _ h=>h) (by rfl) ?_ hHeld ?_ ?_ ?_;rotate_left
 ·rintro w' ⟨s0,s1,s2,s3,s4⟩;go_simp;with_reducible rfl
 rotate_left
 ·simp only [Act.put,za_,zb_,zc_,i64_w,i32_w];rfl
 refine tA 5 (some 13) ?_ #[Y,Y,Y,Y,Y,Y,Y,Z,Z,Z,Z,Z,Z] rfl rfl HT_ HW_ (by kernel_rfl) (fun _ _ _ h=>h) (by rfl) ?_ hHeld ?_ ?_ ?_;rotate_left
 ·rintro w' ⟨s0,s1,s2,s3,s4⟩;go_simp;with_reducible rfl
 rotate_left
 ·simp only [Act.put,za_,zb_,zc_,i64_w,i32_w];rfl
 refine tA 7 (some 15) ?_ #[Y,Y,Y,Y,Y,Y,Y,Y,Z,Z,Z,Z,Z] rfl rfl HT_ HW_ (by kernel_rfl) (fun _ _ _ h=>h) (by rfl) ?_ hHeld ?_ ?_ ?_;rotate_left
 ·rintro w' ⟨s0,s1,s2,s3,s4⟩;go_simp;with_reducible rfl
 rotate_left
 ·simp only [Act.put,za_,zb_,zc_,i64_w,i32_w];rfl
 refine pA 8 (some 16) ?_ #[Y,Y,Y,Y,Y,Y,Y,Y,Y,Z,Z,Z,Z] rfl rfl HT_ (by kernel_rfl) (fun _ _ _ h=>h) (by rfl) ?_ ?_ ?_ ?_;rotate_left
 ·intro w';go_simp;with_reducible rfl
 rotate_left
 ·simp only [Act.put,za_,zb_,zc_,i64_w,i32_w];rfl
 refine join_ (σ:=Value × Nat) 1 #[Y,Y,Y,Y,Y,Y,Y,Y,Y,Y,Y,Y,Z] (fun s_=>[(17,s_.1),(5,.pointer (some ⟨s_.2,0,none⟩)),(18,.agg #[.int .i64 a0_0,.int .i64 a0_1,s_.1])]) (fun s_ w'=>(w'.cell? ⟨gb363,0,none⟩ = some (.int .i64 a0_0)∧w'.cell? ⟨gb363,1,none⟩ = some (.int .i64 a0_1)∧w'.cell? ⟨gb363,2,none⟩ = some (.slice A0_2 l0_2.length c0_2)∧w'.cell? ⟨gb363,3,none⟩ = some (.slice A0_3 l0_3.length c0_3)∧w'.cell? ⟨gb363,4,none⟩ = some (.slice A0_4 l0_4.length c0_4))∧(Kd.R k88 88 w' w.heap.size (fun _=>True) s_.1 y365)∧(w'.heap[gb363]? = some (.cells #[.int .i64 a0_0,.int .i64 a0_1,.slice A0_2 l0_2.length c0_2,.slice A0_3 l0_3.length c0_3,.slice A0_4 l0_4.length c0_4] 31 (0,0)))∧(w'.heap[gb364]? = some (.cells #[.int .i64 0,.int .i64 0,.slice none 0 0] 50 (0,0)))∧(w'.heap[s_.2]? = some (.cells #[.int .i64 0,.int .i64 0,.slice none 0 0] 50 (0,0)))∧(w.heap.size ≤ s_.2)∧(w.heap.size ≤ s_.2)∧(gb363 ≠ s_.2)∧(s_.2 ≠ gb363)∧(gb364 ≠ s_.2)∧(s_.2 ≠ gb364)∧(Below w.heap.size w w')) ?_ ?_;rotate_left
 ·intro hCont;refine two_ (i:=9) (j:=11) (Ni:=some 17) (Nj:=some 5) #[Y,Y,Y,Y,Y,Y,Y,Y,Y,Y,Z,Z,Z] #[Y,Y,Y,Y,Y,Y,Y,Y,Y,Z,Z,Y,Z] rfl rfl rfl rfl (two_of HT_.out (by kernel_rfl)) (by decide) (by decide) (fun K hK=>?_) (fun K hK=>?_)
  ·skip
   refine Kd.R_make_step k88 _ 88 (by rfl) (N:=17) rfl 29 _ _ rfl ji3 rfl rfl Try.underlying29 (.agg #[(.int .i64 0),(.int .i64 0)]) 16 info88 rfl (by decide) (by omega) z88 (ok:=fun _=>True) (okp:=fun _=>True) (k88_mkM _ _ _ z88 ) (fun _ hk=>hk) trivial (of_decide_eq_true (by first | (with_reducible assumption) | assumption)) (Nat.le_trans (Nat.mul_le_mul_right _ (of_decide_eq_true (by first | (with_reducible assumption) | assumption):ji3.toNat ≤ 17592186044416)) (by omega)) (Below.refl _ _) (Nat.le_refl _) ?_;intro v366 w9 ho10 hb hg_ hnew_;clear hg_ hnew_;(first | rw [← Ny365.out] at ho10 | (simp only [Int.reduceToNat] at ho10;rw [← Ny365.out] at ho10))
   refine ev4 (Kd.R_lower ho10 (below_size (bm HB))) (kb BK363 hb) (kb BK364 hb) (bs HB hb) ?_;clear BK363 BK364 HB;intro HO367 BK363 BK364 HB;clear hb ho10;obtain ⟨Ao11,co11,eo11⟩:=Kd.R_slice HO367.out;(first | subst eo11 | (injection eo11 with f1_ f2_ f3_;have f4_:=f1_.symm;have f5_:=f3_.symm;clear f1_ f2_ f3_;subst f4_;subst f5_))
   refine hK.out _ _ ⟨(blk_cell BK363.out 0).trans rfl,(blk_cell BK363.out 1).trans rfl,(blk_cell BK363.out 2).trans rfl,(blk_cell BK363.out 3).trans rfl,(blk_cell BK363.out 4).trans rfl⟩ (fun hHeld=>?_);clear hK K;refine norm_ (a':=?_) ?_ ?_;rotate_left
   ·show Act.put _ (some 17) _ = _
    simp only [Act.put,za_,zb_,zc_,i64_w,i32_w];rfl
   refine pA 10 (some 18) ?_ #[Y,Y,Y,Y,Y,Y,Y,Y,Y,Y,Y,Z,Z] rfl rfl HT_ (by kernel_rfl) (fun _ _ _ h=>h) (by rfl) ?_ ?_ ?_ ?_;rotate_left
   ·intro w';go_simp;with_reducible rfl
   rotate_left
   ·simp only [Act.put,za_,zb_,zc_,i64_w,i32_w];rfl
   refine one_ (i:=11) (N:=some 5) #[Y,Y,Y,Y,Y,Y,Y,Y,Y,Y,Y,Y,Z] rfl rfl (one_of HT_.out (by kernel_rfl)) (by decide) (fun K hK=>?_);refine box_step ?hg (N:=5) ?hd (cs:=#[.int .i64 0,.int .i64 0,.slice none 0 0]) (t:=50) ?hr ?_;(case hd=>rfl);(case hg=>rfl);(case hr=>first | (go_simp;done) | (go_simp;rfl));intro gb368 hg w12 hbox hb;refine ev11 (Kd.R_below (Kd.R_mv HO367.out) hb) (kb BK363 hb) (kb BK364 hb) (bs HB hb) (hbox) (gle hg HB) (gle hg HB) (gnf hg BK363) (gne hg BK363) (gnf hg BK364) (gne hg BK364) ?_;clear HO367 BK363 BK364 HB;intro HO367 BK363 BK364 HB BK368 GW368 GE368 NB363_368 NB368_363 NB364_368 NB368_364;clear hb hbox hg;refine hK.out _ _ ⟨(blk_cell BK363.out 0).trans rfl,(blk_cell BK363.out 1).trans rfl,(blk_cell BK363.out 2).trans rfl,(blk_cell BK363.out 3).trans rfl,(blk_cell BK363.out 4).trans rfl⟩ (fun hHeld=>?_);clear hK K;refine norm_ (a':=?_) ?_ ?_;rotate_left
   ·show Act.put _ (some 5) _ = _
    simp only [Act.put,za_,zb_,zc_,i64_w,i32_w];rfl
   exact norm_ (by simp only [putAll,Act.put,za_,zb_,zc_]) (hCont (.slice Ao11 y365.length co11,gb368) _ ⟨hHeld,(Kd.R_mv HO367.out),(km_ BK363),(km_ BK364),(km_ BK368),GW368.out,GE368.out,NB363_368.out,NB368_363.out,NB364_368.out,NB368_364.out,(bm HB)⟩)
  ·skip
   refine box_step ?hg (N:=5) ?hd (cs:=#[.int .i64 0,.int .i64 0,.slice none 0 0]) (t:=50) ?hr ?_;(case hd=>rfl);(case hg=>rfl);(case hr=>first | (go_simp;done) | (go_simp;rfl));intro gb368 hg w9 hbox hb;refine ev10 (kb BK363 hb) (kb BK364 hb) (bs HB hb) (hbox) (gle hg HB) (gle hg HB) (gnf hg BK363) (gne hg BK363) (gnf hg BK364) (gne hg BK364) ?_;clear BK363 BK364 HB;intro BK363 BK364 HB BK368 GW368 GE368 NB363_368 NB368_363 NB364_368 NB368_364;clear hb hbox hg;refine hK.out _ _ ⟨(blk_cell BK363.out 0).trans rfl,(blk_cell BK363.out 1).trans rfl,(blk_cell BK363.out 2).trans rfl,(blk_cell BK363.out 3).trans rfl,(blk_cell BK363.out 4).trans rfl⟩ (fun hHeld=>?_);clear hK K;refine norm_ (a':=?_) ?_ ?_;rotate_left
   ·show Act.put _ (some 5) _ = _
    simp only [Act.put,za_,zb_,zc_,i64_w,i32_w];rfl
   refine one_ (i:=9) (N:=some 17) #[Y,Y,Y,Y,Y,Y,Y,Y,Y,Y,Z,Y,Z] rfl rfl (one_of HT_.out (by kernel_rfl)) (by decide) (fun K hK=>?_);refine Kd.R_make_step k88 _ 88 (by rfl) (N:=17) rfl 29 _ _ rfl ji3 rfl rfl Try.underlying29 (.agg #[(.int .i64 0),(.int .i64 0)]) 16 info88 rfl (by decide) (by omega) z88 (ok:=fun _=>True) (okp:=fun _=>True) (k88_mkM _ _ _ z88 ) (fun _ hk=>hk) trivial (of_decide_eq_true (by first | (with_reducible assumption) | assumption)) (Nat.le_trans (Nat.mul_le_mul_right _ (of_decide_eq_true (by first | (with_reducible assumption) | assumption):ji3.toNat ≤ 17592186044416)) (by omega)) (Below.refl _ _) (Nat.le_refl _) ?_;intro v366 w10 ho11 hb hg_ hnew_;clear hg_ hnew_;(first | rw [← Ny365.out] at ho11 | (simp only [Int.reduceToNat] at ho11;rw [← Ny365.out] at ho11))
   refine ev5 (Kd.R_lower ho11 (below_size (bm HB))) (kb BK363 hb) (kb BK364 hb) (kb BK368 hb) (bs HB hb) ?_;clear BK363 BK364 BK368 HB;intro HO367 BK363 BK364 BK368 HB;clear hb ho11;obtain ⟨Ao12,co12,eo12⟩:=Kd.R_slice HO367.out;(first | subst eo12 | (injection eo12 with f1_ f2_ f3_;have f4_:=f1_.symm;have f5_:=f3_.symm;clear f1_ f2_ f3_;subst f4_;subst f5_))
   refine hK.out _ _ ⟨(blk_cell BK363.out 0).trans rfl,(blk_cell BK363.out 1).trans rfl,(blk_cell BK363.out 2).trans rfl,(blk_cell BK363.out 3).trans rfl,(blk_cell BK363.out 4).trans rfl⟩ (fun hHeld=>?_);clear hK K;refine norm_ (a':=?_) ?_ ?_;rotate_left
   ·show Act.put _ (some 17) _ = _
    simp only [Act.put,za_,zb_,zc_,i64_w,i32_w];rfl
   refine pA 10 (some 18) ?_ #[Y,Y,Y,Y,Y,Y,Y,Y,Y,Y,Y,Y,Z] rfl rfl HT_ (by kernel_rfl) (fun _ _ _ h=>h) (by rfl) ?_ ?_ ?_ ?_;rotate_left
   ·intro w';go_simp;with_reducible rfl
   rotate_left
   ·simp only [Act.put,za_,zb_,zc_,i64_w,i32_w];rfl
   exact norm_ (by simp only [putAll,Act.put,za_,zb_,zc_]) (hCont (.slice Ao12 y365.length co12,gb368) _ ⟨hHeld,(Kd.R_mv HO367.out),(km_ BK363),(km_ BK364),(km_ BK368),GW368.out,GE368.out,NB363_368.out,NB368_363.out,NB364_368.out,NB368_364.out,(bm HB)⟩)
 rintro ⟨v366,gb368⟩ w13 ⟨hS_,h0_,h1_,h2_,h3_,h4_,h5_,h6_,h7_,h8_,h9_,h10_⟩;have n0_:Aside0 (Kd.R k88 88 w13 w.heap.size (fun _=>True) v366 y365):=⟨h0_⟩
 have n1_:Aside0 (w13.heap[gb363]? = some (.cells #[.int .i64 a0_0,.int .i64 a0_1,.slice A0_2 l0_2.length c0_2,.slice A0_3 l0_3.length c0_3,.slice A0_4 l0_4.length c0_4] 31 (0,0))):=⟨h1_⟩
 have n2_:Aside0 (w13.heap[gb364]? = some (.cells #[.int .i64 0,.int .i64 0,.slice none 0 0] 50 (0,0))):=⟨h2_⟩
 have n3_:Aside0 (w13.heap[gb368]? = some (.cells #[.int .i64 0,.int .i64 0,.slice none 0 0] 50 (0,0))):=⟨h3_⟩
 have n4_:Aside0 (w.heap.size ≤ gb368):=⟨h4_⟩
 have n5_:Aside0 (w.heap.size ≤ gb368):=⟨h5_⟩
 have n6_:Aside0 (gb363 ≠ gb368):=⟨h6_⟩
 have n7_:Aside0 (gb368 ≠ gb363):=⟨h7_⟩
 have n8_:Aside0 (gb364 ≠ gb368):=⟨h8_⟩
 have n9_:Aside0 (gb368 ≠ gb364):=⟨h9_⟩
 have n10_:Aside0 (Below w.heap.size w w13):=⟨h10_⟩
 clear BK363;clear BK364;clear HB;clear h0_ h1_ h2_ h3_ h4_ h5_ h6_ h7_ h8_ h9_ h10_;have HO367:=n0_;have BK363:=n1_;have BK364:=n2_;have BK368:=n3_;have GW368:=n4_;have GE368:=n5_;have NB363_368:=n6_;have NB368_363:=n7_;have NB364_368:=n8_;have NB368_364:=n9_;have HB:=n10_;clear n0_ n1_ n2_ n3_ n4_ n5_ n6_ n7_ n8_ n9_ n10_;have hHeld:w13.cell? ⟨gb363,0,none⟩ = some (.int .i64 a0_0)∧w13.cell? ⟨gb363,1,none⟩ = some (.int .i64 a0_1)∧w13.cell? ⟨gb363,2,none⟩ = some (.slice A0_2 l0_2.length c0_2)∧w13.cell? ⟨gb363,3,none⟩ = some (.slice A0_3 l0_3.length c0_3)∧w13.cell? ⟨gb363,4,none⟩ = some (.slice A0_4 l0_4.length c0_4):=hS_;obtain ⟨Ao14,co14,eo14⟩:=Kd.R_slice HO367.out;(first | subst eo14 | (injection eo14 with f1_ f2_ f3_;have f4_:=f1_.symm;have f5_:=f3_.symm;clear f1_ f2_ f3_;subst f4_;subst f5_))
 refine norm_ (a':=?_) ?_ ?_;rotate_left
 ·simp only [putAll,Act.put,za_,zb_,zc_];rfl
 refine one_ (i:=12) (N:=none) #[Y,Y,Y,Y,Y,Y,Y,Y,Y,Y,Y,Y,Y] rfl rfl (one_of HT_.out (by kernel_rfl)) (by decide) (fun K hK=>?_);have hs15:w13.cell? ⟨gb368,0,none⟩ = some (.int .i64 0):=(blk_cell BK368.out 0).trans rfl;have hfs15:=blk_frozen BK368.out 0;have hns15_0:=NB363_368.out;have hns15_1:=NB364_368.out;have hms15_0:=NB368_363.out;have hms15_1:=NB368_364.out;have hs16:w13.cell? ⟨gb368,1,none⟩ = some (.int .i64 0):=(blk_cell BK368.out 1).trans rfl;have hfs16:=blk_frozen BK368.out 1;have hns16_0:=NB363_368.out;have hns16_1:=NB364_368.out;have hms16_0:=NB368_363.out;have hms16_1:=NB368_364.out;have hs17:w13.cell? ⟨gb368,2,none⟩ = some (.slice none 0 0):=(blk_cell BK368.out 2).trans rfl;have hfs17:=blk_frozen BK368.out 2;have hns17_0:=NB363_368.out;have hns17_1:=NB364_368.out;have hms17_0:=NB368_363.out;have hms17_1:=NB368_364.out;refine skip_ (w1:=?_) (by rfl) rfl ?_ ?_;rotate_left
 ·go_simp;rfl
 refine hK.out _ _ ⟨((cell_far (p:=⟨gb368,_,none⟩) NB363_368.out _).trans (((cell_far (p:=⟨gb368,_,none⟩) NB363_368.out _).trans (((cell_far (p:=⟨gb368,_,none⟩) NB363_368.out _).trans (hHeld.1)))))),((cell_far (p:=⟨gb368,_,none⟩) NB363_368.out _).trans (((cell_far (p:=⟨gb368,_,none⟩) NB363_368.out _).trans (((cell_far (p:=⟨gb368,_,none⟩) NB363_368.out _).trans (hHeld.2.1)))))),((cell_far (p:=⟨gb368,_,none⟩) NB363_368.out _).trans (((cell_far (p:=⟨gb368,_,none⟩) NB363_368.out _).trans (((cell_far (p:=⟨gb368,_,none⟩) NB363_368.out _).trans (hHeld.2.2.1)))))),((cell_far (p:=⟨gb368,_,none⟩) NB363_368.out _).trans (((cell_far (p:=⟨gb368,_,none⟩) NB363_368.out _).trans (((cell_far (p:=⟨gb368,_,none⟩) NB363_368.out _).trans (hHeld.2.2.2.1)))))),((cell_far (p:=⟨gb368,_,none⟩) NB363_368.out _).trans (((cell_far (p:=⟨gb368,_,none⟩) NB363_368.out _).trans (((cell_far (p:=⟨gb368,_,none⟩) NB363_368.out _).trans (hHeld.2.2.2.2))))))⟩ (fun hHeld=>?_);clear hK K;refine done_ (done_of HT_.out (by kernel_rfl)) ?_;have hnb18:=NB368_363.out;have hnc18:=NB363_368.out;have hnb19:=NB368_364.out;have hnc19:=NB364_368.out;obtain ⟨hcz20_0,hcz20_1,hcz20_2,hfz20_0,hfz20_1,hfz20_2⟩:=bt3 BK368;try go_wp2
 go_loopg [1,6] k (fun kq v1 v6 w'=>∃ (x1_1:Int) (x6_1:Int) (x369002_1:List (S88)) (u369002:Value),v1 = .int .i64 x1_1∧v6 = .int .i64 x6_1∧Aside0 (impl_boardOf.l0 kq x1_1 x6_1 a0_0 a0_1 l0_2 l0_3 l0_4 a0_0 a0_1 x369002_1 = some (r1,r2,r3))∧Aside0 (kq ≤ k)∧Aside0 (Kd.R k88 88 w' w.heap.size (fun _=>True) u369002 x369002_1)∧Aside0 (w'.heap[gb363]? = some (.cells #[.int .i64 a0_0,.int .i64 a0_1,(.slice A0_2 l0_2.length c0_2),(.slice A0_3 l0_3.length c0_3),(.slice A0_4 l0_4.length c0_4)] 31 (0,0)))∧Aside0 (w'.heap[gb364]? = some (.cells #[.int .i64 0,.int .i64 0,(.slice none 0 0)] 50 (0,0)))∧Aside0 (w'.heap[gb368]? = some (.cells #[.int .i64 a0_0,.int .i64 a0_1,u369002] 50 (0,0)))∧Aside0 (Below w.heap.size w w'))
 case atStart=>exact ⟨(a1),(wrap64 ((y365.length:Int) - 1)),(y365),(.slice Ao14 y365.length co14),(by first | rfl | (simp;done) | (simp [*];done)),(by first | rfl | (simp;done) | (simp [*];done)),H',⟨Nat.le_refl _⟩,⟨Kd.R_mv (Kd.R_mono (ok':=fun k_=>True) (Kd.R_far (p:=⟨gb368,2,none⟩) (Kd.R_far (p:=⟨gb368,1,none⟩) (Kd.R_far (p:=⟨gb368,0,none⟩) (Kd.R_types HO367.out BK368.out (by decide)) (fun _ hk=>hk.2) (.int .i64 a0_0)) (fun _ hk=>hk.2) (.int .i64 a0_1)) (fun _ hk=>hk.2) (.slice Ao14 y365.length co14)) (fun _ hk=>trivial))⟩,⟨fp BK363 rfl⟩,⟨fp BK364 rfl⟩,⟨fp BK368 rfl⟩,⟨bm HB⟩⟩
 case round =>
  clear H';(try clear c1);(try clear p2);(try clear c4);(try clear c4b0);(try clear c4b1);(try clear c5);(try clear c5b0);(try clear c5b1);(try clear p6);(try clear c10);(try clear c18);(try clear c19);(try clear hcz20_0 hcz20_1 hcz20_2 hfz20_0 hfz20_1 hfz20_2);obtain ⟨x1_1,x6_1,x369002_1,u369002,rfl,rfl,HA,HK1,HO_369002,BK363,BK364,BK368,HB⟩:=hrel;cases gk with
  | zero=>exact absurd HA.out (by simp [impl_boardOf.l0])
  | succ k1 =>
   have H:=HA.out;clear HA;simp only [impl_boardOf.l0] at H;by_cases c21:x6_1 ≥ 0
   ·rw [if_pos c21] at H;have c21b0:decide (0 ≤ x6_1) = true:=decide_eq_true c21;clear c21;replace H:=nn_ H;obtain ⟨c22,H⟩:=H;have c22b0:((wrap64 ((l0_2.length:Int) + 1)) == 0) = false:=beq_eq_false_iff_ne.mpr c22;have c22b1:((wrap64 ((l0_2.length:Int) + 1)) != 0) = true:=bne_iff_ne.mpr c22;by_cases c23:(Int.tmod x1_1 (wrap64 ((l0_2.length:Int) + 1))) > 0
    ·rw [if_pos c23] at H;have c23b0:decide (0 < (Int.tmod x1_1 (wrap64 ((l0_2.length:Int) + 1)))) = true:=decide_eq_true c23;clear c23;obtain ⟨ji24,hji24⟩:∃ j_:Int,(wrap64 ((Int.tmod x1_1 (wrap64 ((l0_2.length:Int) + 1))) - 1)) = j_:=⟨_,rfl⟩
     replace H:(if 0 ≤ (ji24) then (if (ji24) < (l0_2.length:Int) then (if 0 ≤ x6_1 then (if x6_1 < (x369002_1.length:Int) then (impl_boardOf.l0 k1 (wrap64 (Int.tdiv x1_1 (wrap64 ((l0_2.length:Int) + 1)))) (wrap64 (x6_1 - 1)) a0_0 a0_1 l0_2 l0_3 l0_4 a0_0 a0_1 (x369002_1.set (x6_1:Int).toNat (⟨(rd_T88 l0_2 (ji24)).f0,(rd_T88 l0_2 (ji24)).f1⟩:S88))) else (none)) else (none)) else (none)) else (none)) = some (r1,r2,r3):=by first | (rw [hji24] at H;exact H) | (simp only [hji24] at H ⊢;exact H)
     have hji24w:(IntKind.i64.wrap ((Int.tmod x1_1 (wrap64 ((l0_2.length:Int) + 1))) - 1)) = ji24:=(i64_w _).trans hji24;replace H:=np_ H;obtain ⟨c25,H⟩:=H;have c25b0:decide (0 ≤ (ji24)) = true:=decide_eq_true c25;clear c25;replace H:=np_ H;obtain ⟨c26,H⟩:=H;have c26b0:decide ((ji24) < (l0_2.length:Int)) = true:=decide_eq_true c26;clear c26;replace H:=np_ H;obtain ⟨c27,H⟩:=H;have c27b0:decide (0 ≤ x6_1) = true:=decide_eq_true c27;clear c27;replace H:=np_ H;obtain ⟨c28,H⟩:=H;have c28b0:decide (x6_1 < (x369002_1.length:Int)) = true:=decide_eq_true c28;clear c28;obtain ⟨y370,hy370⟩:∃ y_:List (S88),y_ = (x369002_1.set (x6_1:Int).toNat (⟨(rd_T88 l0_2 (ji24)).f0,(rd_T88 l0_2 (ji24)).f1⟩:S88)):=⟨_,rfl⟩
     replace H:(impl_boardOf.l0 k1 (wrap64 (Int.tdiv x1_1 (wrap64 ((l0_2.length:Int) + 1)))) (wrap64 (x6_1 - 1)) a0_0 a0_1 l0_2 l0_3 l0_4 a0_0 a0_1 y370) = some (r1,r2,r3):=by first | (rw [hy370];with_reducible exact H) | (have H2_:=(Option.bind_some _ _).symm.trans H;rw [hy370];with_reducible exact H2_) | (have H2_:=(Option.bind_some _ _).symm.trans H;with_reducible exact H2_) | with_reducible exact H | (rw [hy370];exact H) | exact H
     have Ny370:=Aside0.mk hy370;clear hy370;have H':=Aside0.mk H;clear H;have hnb30:=NB363_364.out;have hnc30:=NB364_363.out;have hnb31:=NB363_368.out;have hnc31:=NB368_363.out;obtain ⟨hcz32_0,hcz32_1,hcz32_2,hcz32_3,hcz32_4,hfz32_0,hfz32_1,hfz32_2,hfz32_3,hfz32_4⟩:=bt5 BK363;try go_wp2
     refine ev5 (Kd.R_drew HO_369002.out) (blk_drew BK363.out) (blk_drew BK364.out) (blk_drew BK368.out) (below_drew1 HB.out) ?_;clear HO_369002 BK363 BK364 BK368 HB;intro HO_369002 BK363 BK364 BK368 HB;have p369:0 ≤ ((ji24):Int):=of_decide_eq_true (by first | (with_reducible assumption) | assumption);have q369:(ji24) < (l0_2.length:Int):=of_decide_eq_true (by first | (with_reducible assumption) | assumption);obtain ⟨ad369,e369,hx369_0,hx369_1⟩:=at_T88 HR0_2.out (ji24) p369 q369;have hw369_1:=hx369_1;have hw369_0:=hx369_0;cases e369;replace hx369_0:=(HB.out.cell (World.block_lt_of_cell? w _ hx369_0)).trans hx369_0;replace hx369_1:=(HB.out.cell (World.block_lt_of_cell? w _ hx369_1)).trans hx369_1;replace p369:=eq_true p369;replace q369:=eq_true q369;have p29:0 ≤ (x6_1:Int):=of_decide_eq_true (by first | (with_reducible assumption) | assumption);have q29:(x6_1:Int) < ((x369002_1.length:Int):Int):=of_decide_eq_true (by first | (with_reducible assumption) | assumption);obtain ⟨go29,co29,eo29,gb29,gl29,cl29,HG29⟩:=Kd.R_form HO_369002.out (by omega);(first | cases eo29 | (injection eo29 with ea_ en_ ec_;(first | subst ea_ | (injection ea_ with ea_;subst ea_));subst ec_;clear en_))
     have GB29:=Aside0.mk gb29;have GG29:=Aside0.mk HG29;clear gb29 gl29 HG29;obtain ⟨ce29,hcl29,hM29,hcc29,hfr29⟩:=Kd.R_elem HO_369002.out z88 (x6_1:Int) p29 q29;obtain rfl:=k88_openM hM29;have hx29_0:World.cell? _ ⟨go29,(x6_1:Int).toNat * 2,none⟩ = some (.int .i64 ((rd_T88 x369002_1 x6_1).f0)):=hcc29 0 _ rfl;have hx29_1:World.cell? _ ⟨go29,(x6_1:Int).toNat * 2 + 1,none⟩ = some (.int .i64 ((rd_T88 x369002_1 x6_1).f1)):=hcc29 1 _ rfl;have hf29_0:World.frozen? _ ⟨go29,(x6_1:Int).toNat * 2,none⟩ = false:=hfr29 0;have hf29_1:World.frozen? _ ⟨go29,(x6_1:Int).toNat * 2 + 1,none⟩ = false:=hfr29 1;clear hcl29 hcc29 hfr29 hM29;replace p29:=eq_true p29;replace q29:=eq_true q29;obtain ⟨ce34,hcl34,hM34,hcc34,hfr34⟩:=Kd.R_elem HO_369002.out z88 (x6_1:Int) (of_decide_eq_true (by first | (with_reducible assumption) | assumption)) (by have h_:(x6_1:Int) < ((x369002_1.length:Int):Int):=of_decide_eq_true (by first | (with_reducible assumption) | assumption);first | exact h_ | (have e_:=(Kd.R_reads' HO_369002.out).1;omega) | simpa using h_);obtain rfl:=k88_openM hM34;have HP34:=(Kd.R_seg HO_369002.out (x6_1:Int) (of_decide_eq_true (by first | (with_reducible assumption) | assumption)) (by have h_:(x6_1:Int) < ((x369002_1.length:Int):Int):=of_decide_eq_true (by first | (with_reducible assumption) | assumption);first | exact h_ | (have e_:=(Kd.R_reads' HO_369002.out).1;omega) | simpa using h_) (seg:=[.int .i64 ((rd_T88 l0_2 (ji24)).f0),.int .i64 ((rd_T88 l0_2 (ji24)).f1)]) (j:=0) hcl34 hcc34 (show 2 ≤ 2 from by decide) (x':=(⟨(rd_T88 l0_2 (ji24)).f0,(rd_T88 l0_2 (ji24)).f1⟩:S88)) (k88_mkM _ _ _ (⟨(rd_T88 l0_2 (ji24)).f0,(rd_T88 l0_2 (ji24)).f1⟩:S88) ) (fun _ hk=>hk)).1;rw [← Ny370.out] at HP34;have HQ34:=Aside0.mk HP34;clear hcl34 hcc34 hfr34 hM34 HP34;refine start_ (n:=11) (S:=fun w'=>w'.cell? ⟨gb368,0,none⟩ = some (.int .i64 a0_0)∧w'.cell? ⟨gb368,1,none⟩ = some (.int .i64 a0_1)∧w'.cell? ⟨gb368,2,none⟩ = some (.slice (some ⟨go29,0,none⟩) x369002_1.length co29)∧w'.cell? ⟨gb363,0,none⟩ = some (.int .i64 a0_0)∧w'.cell? ⟨gb363,1,none⟩ = some (.int .i64 a0_1)∧w'.cell? ⟨gb363,2,none⟩ = some (.slice (some ad369) l0_2.length c0_2)∧w'.cell? ⟨gb363,3,none⟩ = some (.slice A0_3 l0_3.length c0_3)∧w'.cell? ⟨gb363,4,none⟩ = some (.slice A0_4 l0_4.length c0_4)∧w'.cell? (ad369.add (((ji24)).toNat * 2)) = some (.int .i64 ((rd_T88 l0_2 (ji24)).f0))∧w'.cell? ⟨(ad369.add (((ji24)).toNat * 2)).block,(ad369.add (((ji24)).toNat * 2)).off + 1,none⟩ = some (.int .i64 ((rd_T88 l0_2 (ji24)).f1))) (ds:=[10]) #[Z,Z,Z,Z,Z,Z,Z,Z,Z,Z,Z] (by kernel_rfl) rfl rfl ⟨(blk_cell BK368.out 0).trans rfl,(blk_cell BK368.out 1).trans rfl,(blk_cell BK368.out 2).trans rfl,(blk_cell BK363.out 0).trans rfl,(blk_cell BK363.out 1).trans rfl,(blk_cell BK363.out 2).trans rfl,(blk_cell BK363.out 3).trans rfl,(blk_cell BK363.out 4).trans rfl,((HB.out.cell (World.block_lt_of_cell? w _ hw369_0)).trans hw369_0),((HB.out.cell (World.block_lt_of_cell? w _ hw369_1)).trans hw369_1)⟩ (fun hHeld=>?_);refine with_tabW impl_boardOf.tab8 impl_boardOf.bits8 (fun HT_ HW_=>?_)
     generalize wr.drew = w33 at HO_369002 BK363 BK364 BK368 HB GG29 HQ34 hf29_0 hf29_1 hx29_0 hx29_1 hx369_0 hx369_1 hHeld ⊢
     refine pA 0 (some 41) ?_ #[Y,Z,Z,Z,Z,Z,Z,Z,Z,Z,Z] rfl rfl HT_ (by kernel_rfl) (fun _ _ _ h=>h) (by rfl) ?_ ?_ ?_ ?_;rotate_left
     ·intro w';go_simp;with_reducible rfl
     rotate_left
     ·simp only [Act.put,za_,zb_,zc_,i64_w,i32_w];rfl
     refine pA 2 (some 43) ?_ #[Y,Z,Y,Z,Z,Z,Z,Z,Z,Z,Z] rfl rfl HT_ (by kernel_rfl) (fun _ _ _ h=>h) (by rfl) ?_ ?_ ?_ ?_;rotate_left
     ·intro w';go_simp;with_reducible rfl
     rotate_left
     ·simp only [Act.put,za_,zb_,zc_,i64_w,i32_w];rfl
     refine pA 3 (some 44) ?_ #[Y,Z,Y,Y,Z,Z,Z,Z,Z,Z,Z] rfl rfl HT_ (by kernel_rfl) (fun _ _ _ h=>h) (by rfl) ?_ ?_ ?_ ?_;rotate_left
     ·intro w';go_simp;with_reducible rfl
     rotate_left
     ·simp only [Act.put,za_,zb_,zc_,i64_w,i32_w];rfl
     refine pA 5 (some 46) ?_ #[Y,Z,Y,Y,Z,Y,Z,Z,Z,Z,Z] rfl rfl HT_ (by kernel_rfl) (fun _ _ _ h=>h) (by rfl) ?_ ?_ ?_ ?_;rotate_left
     ·intro w';go_simp;with_reducible rfl
     rotate_left
     ·simp only [Act.put,za_,zb_,zc_,i64_w,i32_w];rfl
     refine pA 6 (some 47) ?_ #[Y,Z,Y,Y,Z,Y,Y,Z,Z,Z,Z] rfl rfl HT_ (by kernel_rfl) (fun _ _ _ h=>h) (by rfl) ?_ ?_ ?_ ?_;rotate_left
     ·intro w';go_simp;with_reducible rfl
     rotate_left
     ·simp only [Act.put,za_,zb_,zc_,i64_w,i32_w];rfl
     refine tA 1 (some 42) ?_ #[Y,Y,Y,Y,Z,Y,Y,Z,Z,Z,Z] rfl rfl HT_ HW_ (by kernel_rfl) (fun _ _ _ h=>h) (by rfl) ?_ hHeld ?_ ?_ ?_;rotate_left
     ·rintro w' ⟨s0,s1,s2,s3,s4,s5,s6,s7,s8,s9⟩;go_simp;with_reducible rfl
     rotate_left
     ·simp only [Act.put,za_,zb_,zc_,i64_w,i32_w];rfl
     refine tA 4 (some 45) ?_ #[Y,Y,Y,Y,Y,Y,Y,Z,Z,Z,Z] rfl rfl HT_ HW_ (by kernel_rfl) (fun _ _ _ h=>h) (by rfl) ?_ hHeld ?_ ?_ ?_;rotate_left
     ·rintro w' ⟨s0,s1,s2,s3,s4,s5,s6,s7,s8,s9⟩;go_simp;with_reducible rfl
     rotate_left
     ·simp only [Act.put,za_,zb_,zc_,i64_w,i32_w];rfl
     refine pA 7 (some 48) ?_ #[Y,Y,Y,Y,Y,Y,Y,Y,Z,Z,Z] rfl rfl HT_ (by kernel_rfl) (fun _ _ _ h=>h) (by rfl) ?_ ?_ ?_ ?_;rotate_left
     ·intro w';go_simp;with_reducible rfl
     rotate_left
     ·simp only [Act.put,za_,zb_,zc_,i64_w,i32_w];rfl
     refine tA 8 (some 49) ?_ #[Y,Y,Y,Y,Y,Y,Y,Y,Y,Z,Z] rfl rfl HT_ HW_ (by kernel_rfl) (fun _ _ _ h=>h) (by rfl) ?_ hHeld ?_ ?_ ?_;rotate_left
     ·rintro w' ⟨s0,s1,s2,s3,s4,s5,s6,s7,s8,s9⟩;go_simp;with_reducible rfl
     rotate_left
     ·simp only [Act.put,za_,zb_,zc_,i64_w,i32_w];rfl
     refine pA 9 (some 50) ?_ #[Y,Y,Y,Y,Y,Y,Y,Y,Y,Y,Z] rfl rfl HT_ (by kernel_rfl) (fun _ _ _ h=>h) (by rfl) ?_ ?_ ?_ ?_;rotate_left
     ·intro w';go_simp;with_reducible rfl
     rotate_left
     ·simp only [Act.put,za_,zb_,zc_,i64_w,i32_w];rfl
     refine last_ (i:=10) (N:=none) #[Y,Y,Y,Y,Y,Y,Y,Y,Y,Y,Y] rfl rfl (one_of HT_.out (by kernel_rfl)) (by decide) (fun K hK=>?_);refine skip_ (w1:=?_) (by rfl) rfl ?_ ?_;rotate_left
     ·go_simp;rfl
     refine hK.out _ _ ?_;clear hK K;refine done_ (done_of HT_.out (by kernel_rfl)) ?_;try go_wp2
     go_roundg k1
     case measure=>have:=HK1.out;omega
     case rel=>exact ⟨(wrap64 (Int.tdiv x1_1 (wrap64 ((l0_2.length:Int) + 1)))),(wrap64 (x6_1 - 1)),(y370),(.slice (some ⟨go29,0,none⟩) x369002_1.length co29),(by first | rfl | (simp;done) | (simp [*];done)),(by first | rfl | (simp;done) | (simp [*];done)),H',⟨by have:=HK1.out;omega⟩,⟨by (with_reducible repeat (first | apply Kd.R_alloc | apply Kd.R_drewN | apply Kd.R_drew));exact HQ34.out⟩,⟨by (with_reducible repeat (first | refine blk_drewN ?_ _ | refine blk_drew ?_ | refine blk_alloc ?_ _));refine blk_far ?_ (by have h_:=Kd.R_ne HO_369002.out BK363.out (by decide);intro e_;exact h_ (by rw [e_];rfl)) _;(with_reducible repeat (first | refine blk_drewN ?_ _ | refine blk_drew ?_ | refine blk_alloc ?_ _));refine blk_far ?_ (by have h_:=Kd.R_ne HO_369002.out BK363.out (by decide);intro e_;exact h_ (by rw [e_];rfl)) _;(with_reducible repeat (first | refine blk_drewN ?_ _ | refine blk_drew ?_ | refine blk_alloc ?_ _));exact BK363.out⟩,⟨by (with_reducible repeat (first | refine blk_drewN ?_ _ | refine blk_drew ?_ | refine blk_alloc ?_ _));refine blk_far ?_ (by have h_:=Kd.R_ne HO_369002.out BK364.out (by decide);intro e_;exact h_ (by rw [e_];rfl)) _;(with_reducible repeat (first | refine blk_drewN ?_ _ | refine blk_drew ?_ | refine blk_alloc ?_ _));refine blk_far ?_ (by have h_:=Kd.R_ne HO_369002.out BK364.out (by decide);intro e_;exact h_ (by rw [e_];rfl)) _;(with_reducible repeat (first | refine blk_drewN ?_ _ | refine blk_drew ?_ | refine blk_alloc ?_ _));exact BK364.out⟩,⟨by (with_reducible repeat (first | refine blk_drewN ?_ _ | refine blk_drew ?_ | refine blk_alloc ?_ _));refine blk_far ?_ (by have h_:=Kd.R_ne HO_369002.out BK368.out (by decide);intro e_;exact h_ (by rw [e_];rfl)) _;(with_reducible repeat (first | refine blk_drewN ?_ _ | refine blk_drew ?_ | refine blk_alloc ?_ _));refine blk_far ?_ (by have h_:=Kd.R_ne HO_369002.out BK368.out (by decide);intro e_;exact h_ (by rw [e_];rfl)) _;(with_reducible repeat (first | refine blk_drewN ?_ _ | refine blk_drew ?_ | refine blk_alloc ?_ _));exact BK368.out⟩,⟨by repeat (first | (with_reducible first | exact HB.out | apply below_alloc | apply pw_below_drewN | apply below_drew1 | refine below_set ?_ GB29.out | refine below_set ?_ GB29.out | refine below_set ?_ GE363.out | refine below_set ?_ GE364.out | refine below_set ?_ GE368.out) | exact HB.out)⟩⟩
    ·rw [if_neg c23] at H;have c23b0:decide (0 < (Int.tmod x1_1 (wrap64 ((l0_2.length:Int) + 1)))) = false:=decide_eq_false c23;clear c23;have H':=Aside0.mk H;clear H;have hnb35:=NB363_364.out;have hnc35:=NB364_363.out;have hnb36:=NB363_368.out;have hnc36:=NB368_363.out;obtain ⟨hcz37_0,hcz37_1,hcz37_2,hcz37_3,hcz37_4,hfz37_0,hfz37_1,hfz37_2,hfz37_3,hfz37_4⟩:=bt5 BK363;go_wp2;go_roundg k1
     case measure=>have:=HK1.out;omega
     case rel=>exact ⟨(wrap64 (Int.tdiv x1_1 (wrap64 ((l0_2.length:Int) + 1)))),(wrap64 (x6_1 - 1)),(x369002_1),(u369002),(by first | rfl | (simp;done) | (simp [*];done)),(by first | rfl | (simp;done) | (simp [*];done)),H',⟨by have:=HK1.out;omega⟩,⟨Kd.R_mv HO_369002.out⟩,⟨km_ BK363⟩,⟨km_ BK364⟩,⟨km_ BK368⟩,⟨bm HB⟩⟩
   ·rw [if_neg c21] at H;have c21b0:decide (0 ≤ x6_1) = false:=decide_eq_false c21;clear c21;simp only [Option.some.injEq,Prod.mk.injEq] at H;obtain ⟨rfl,rfl,rfl⟩:=H;have hnb38:=NB368_363.out;have hnc38:=NB363_368.out;have hnb39:=NB368_364.out;have hnc39:=NB364_368.out;obtain ⟨hcz40_0,hcz40_1,hcz40_2,hfz40_0,hfz40_1,hfz40_2⟩:=bt3 BK368;have hnb41:=NB364_363.out;have hnc41:=NB363_364.out;obtain ⟨hcz42_0,hcz42_1,hcz42_2,hfz42_0,hfz42_1,hfz42_2⟩:=bt3 BK364;obtain ⟨Ao43,co43,eo43⟩:=Kd.R_slice HO_369002.out;subst eo43;go_wp2;refine bodyPost_ret (results_cell_row rfl _ _ gb364 50 #[.int .i64 a0_0,.int .i64 a0_1,.slice Ao43 x369002_1.length co43] (0,0) _ rfl (fp BK364 rfl) Try.underlying50 rfl (by kernel_rfl)) rfl ?_;exact ⟨_,by first | rfl | (simp [e0_,e1_] <;> rfl) | (simp only [← hji3];first | rfl | (simp [e0_,e1_] <;> rfl)) | (simp [*,e0_,e1_] <;> rfl),Kd.R_mv (Kd.R_mono (ok':=fun k_=>True) (Kd.R_far (p:=⟨gb364,2,none⟩) (Kd.R_far (p:=⟨gb364,1,none⟩) (Kd.R_far (p:=⟨gb364,0,none⟩) (Kd.R_types HO_369002.out BK364.out (by decide)) (fun _ hk=>hk.2) (.int .i64 a0_0)) (fun _ hk=>hk.2) (.int .i64 a0_1)) (fun _ hk=>hk.2) (.slice Ao43 x369002_1.length co43)) (fun _ hk=>trivial)),bm HB⟩

/-! ### impl_copyBoard: function 117 -/
def impl_copyBoard.f (a0_0:Int) (a0_1:Int) (l0_2:List (S88)):Option (Int × Int × (List (S88))):=(some (([]:List (S88)):List (S88))).bind fun y373=>(if y373.length + l0_2.length < 8796093022208 then (some (a0_0,a0_1,(y373 ++ l0_2))) else (none))
theorem impl_copyBoard.calls (a0_0:Int) (a0_1:Int) (A0_2:Option Addr) (c0_2:Nat) (l0_2:List (S88)) (r1:Int) (r2:Int) (r3:List (S88)) (w:World) (hr0_2:Kd.C k88 w A0_2 l0_2.length l0_2) (hc0_2:l0_2.length ≤ c0_2) (h:impl_copyBoard.f a0_0 a0_1 l0_2 = some (r1,r2,r3)) :
    Calls Try.prog 117 #[.agg #[.int .i64 a0_0,.int .i64 a0_1,.slice A0_2 l0_2.length c0_2]] w fun e w'=>∃ v2_:Value,e = .returned (.agg #[.int .i64 r1,.int .i64 r2,v2_])∧Kd.R k88 88 w' w.heap.size (fun _=>True) v2_ r3∧Below w.heap.size w w':=by
 have S:=St.init (w:=w) (dc k88_heap at88 hr0_2 hc0_2 dn)
 clear hr0_2 hc0_2
 have F:=S.fc
 have H:=h;clear h;unfold impl_copyBoard.f at H
 (first | (with_reducible replace H:=ob_ H;obtain ⟨y373,hy373,H⟩:=H;(try dsimp only at H)) | (obtain ⟨y373,hy373⟩:∃ y_:List (S88),y_ = (([]:List (S88))):=⟨_,rfl⟩;(try rw [← hy373] at H);(try simp only [Option.bind_some] at H)));have Ny373:=Aside0.mk hy373;clear hy373
 replace H:=np_ H;obtain ⟨c2,H⟩:=H
 (first | (with_reducible replace H:=ob_ H;obtain ⟨y376,hy376,H⟩:=H;(try dsimp only at H)) | (obtain ⟨y376,hy376⟩:∃ y_:List (S88),y_ = (y373 ++ l0_2):=⟨_,rfl⟩;(try rw [← hy376] at H);(try simp only [Option.bind_some] at H)));have Ny376:=Aside0.mk hy376;clear hy376
 simp only [Option.some.injEq,Prod.mk.injEq] at H
 obtain ⟨rfl,rfl,rfl⟩:=H
 go_enter Try.func117,Try.ntmps117
 go_wp2_with (first | ((with_reducible refine gd 1 rfl (L ?_));refine bo 1 (.agg #[_,_,_]) S ?_;clear S F;intro gb371 W S;have F:=S.fc) | ((with_reducible refine gd 2 rfl (L ?_));refine al 2 S zi50 ?_;clear S F;intro gb372 W S;have F:=S.fc) | ((with_reducible refine gs (t:=50) rfl (L ?_));(first | refine sb (.agg #[_,_,_]) S sz50 ?_ | refine ro (.agg #[_,_,_]) S sz50 ?_ (ho:=rfl) (hx:=rfl) (hy:=rfl));clear S F;intro W S;(try rw [← Ny376.out] at S);have F:=S.fc))
 refine rgP S (fun _ S=>(S.pm [1])) [(0,0),(0,2),(0,5),(1,1),(1,3),(1,6),(2,4),(2,7),(0,8),(2,9)] [] (by kernel_rfl) (by kernel_rfl) (fun _ d _ _ _ h=>by cases d <;> exact h) ?_;clear S F;intro W S;have S0:=(S.pm [1]);have F:=S.fc
 repeat (first | (refine q0 (h:=?_)) | (refine q1 S0 (h:=?_)) | (refine q0n (h:=?_)) | (refine q1n S0 (h:=?_)))
 refine lk2 (by rfl) (by exact (Eq.refl true)) ?_;refine lia 7 at88 88 S ([]:List (S88)) (fun _ _=>(Reps.none _ _)) (by first | (go_simp;done) | (go_simp;rfl)) ?_;clear S F;intro Ay373 cy373 W S;(try rw [← Ny373.out] at S ⊢);(try rw [← Ny376.out] at S ⊢);have F:=S.fc
 clear S0;have S0:=(S.pm [2]);refine ⟨S0,?_⟩
 refine lk2 (by rfl) (by exact (Eq.refl true)) ?_;refine apr (A:=Ay373) (ys:=l0_2) 10 S Try.underlying29 info88 S.c ?_ (ho:=rfl) (hs:=rfl) (hx:=rfl);clear S F;intro Ay376 cy376 W S;(try rw [← Ny376.out] at S ⊢);have F:=S.fc
 clear S0;have S0:=(S.pm [2]);refine ⟨S0,?_⟩
 repeat (first | (refine q0 (h:=?_)) | (refine q1 S0 (h:=?_)) | (refine q0n (h:=?_)) | (refine q1n S0 (h:=?_)))
 refine lk2 (by rfl) (by exact (Eq.refl true)) ?_;(first | refine sb (.agg #[_,_,_]) S sz50 ?_ | refine ro (.agg #[_,_,_]) S sz50 ?_ (ho:=rfl) (hx:=rfl) (hy:=rfl));clear S F;intro W S;(try rw [← Ny376.out] at S);have F:=S.fc
 clear S0;have S0:=(S.pm [2]);refine ⟨S0,?_⟩
 refine oz ?_
 try clear S0
 go_wp2_with (first | ((with_reducible refine gs (t:=50) rfl (L ?_));(first | refine sb (.agg #[_,_,_]) S sz50 ?_ | refine ro (.agg #[_,_,_]) S sz50 ?_ (ho:=rfl) (hx:=rfl) (hy:=rfl));clear S F;intro W S;(try rw [← Ny376.out] at S);have F:=S.fc))
 refine bodyPost_ret (results_cell_row rfl _ _ gb372 50 #[.int .i64 a0_0,.int .i64 a0_1,.slice Ay376 y376.length cy376] (0,0) _ rfl S.hb Try.underlying50 rfl (by kernel_rfl)) rfl ?_
 exact ⟨_,(by first | rfl | (simp [e0_,e1_] <;> rfl) | (simp [*,e0_,e1_] <;> rfl)),(by first | exact S.r | exact Kd.R_nil _ _ _ _ _),S.below⟩

/-! ### impl_endNumber: function 121 -/
def impl_endNumber.f (a0_0:Int) (a0_1:Int) (l0_2:List (S88)) (a1_0:Int) (a1_1:Int) (a1_2:Int):Option (Int):=if a1_0 = 1 then (some a1_2) else (if a1_0 = 2 then (some a0_1) else (some (wrap64 (a0_1 + 1))))
theorem impl_endNumber.calls (a0_0:Int) (a0_1:Int) (A0_2:Option Addr) (c0_2:Nat) (l0_2:List (S88)) (a1_0:Int) (a1_1:Int) (a1_2:Int) (r:Int) (w:World) (hr0_2:Kd.C k88 w A0_2 l0_2.length l0_2) (hc0_2:l0_2.length ≤ c0_2) (h:impl_endNumber.f a0_0 a0_1 l0_2 a1_0 a1_1 a1_2 = some r) :
    Calls Try.prog 121 #[.agg #[.int .i64 a0_0,.int .i64 a0_1,.slice A0_2 l0_2.length c0_2],.agg #[.int .i64 a1_0,.int .i64 a1_1,.int .i64 a1_2]] w fun e w'=>e = .returned (.int .i64 r)∧Below w.heap.size w w':=by
 have S:=St.init (w:=w) (dc k88_heap at88 hr0_2 hc0_2 dn)
 clear hr0_2 hc0_2
 have F:=S.fc
 have H:=h;clear h;unfold impl_endNumber.f at H
 replace H:=sp_ H;rcases H with ⟨c3,H⟩ | ⟨c3,H⟩
 · skip
   replace c3:=ceq c3
   obtain rfl:=Option.some.inj H
   go_enter Try.func121,Try.ntmps121
   go_wp2_with (first | ((with_reducible refine gd 2 rfl (L ?_));refine bo 2 (.agg #[_,_,_]) S ?_;clear S F;intro gb379 W S;have F:=S.fc) | ((with_reducible refine gd 3 rfl (L ?_));refine bo 3 (.agg #[_,_,_]) S ?_;clear S F;intro gb380 W S;have F:=S.fc))
   go_ret
   exact ⟨(by first | rfl | (simp [e0_,e1_] <;> rfl) | (simp [*,e0_,e1_] <;> rfl)),S.below⟩
 · skip
   replace c3:=cne c3
   replace H:=sp_ H;rcases H with ⟨c8,H⟩ | ⟨c8,H⟩
   · skip
     replace c8:=ceq c8
     obtain rfl:=Option.some.inj H
     go_enter Try.func121,Try.ntmps121
     go_wp2_with (first | ((with_reducible refine gd 2 rfl (L ?_));refine bo 2 (.agg #[_,_,_]) S ?_;clear S F;intro gb379 W S;have F:=S.fc) | ((with_reducible refine gd 3 rfl (L ?_));refine bo 3 (.agg #[_,_,_]) S ?_;clear S F;intro gb380 W S;have F:=S.fc))
     go_ret
     exact ⟨(by first | rfl | (simp [e0_,e1_] <;> rfl) | (simp [*,e0_,e1_] <;> rfl)),S.below⟩
   · skip
     replace c8:=cne c8
     obtain rfl:=Option.some.inj H
     go_enter Try.func121,Try.ntmps121
     go_wp2_with (first | ((with_reducible refine gd 2 rfl (L ?_));refine bo 2 (.agg #[_,_,_]) S ?_;clear S F;intro gb379 W S;have F:=S.fc) | ((with_reducible refine gd 3 rfl (L ?_));refine bo 3 (.agg #[_,_,_]) S ?_;clear S F;intro gb380 W S;have F:=S.fc))
     go_ret
     exact ⟨(by first | rfl | (simp [e0_,e1_] <;> rfl) | (simp [*,e0_,e1_] <;> rfl)),S.below⟩

/-! ### impl_isGeared: function 137 -/
def impl_isGeared.f (a0_0:Int) (a0_1:Int):Option (Bool):=if a0_0 = 6 then (some true) else (some (a0_0 == 7))
theorem impl_isGeared.calls (a0_0:Int) (a0_1:Int) (r:Bool) (w:World) (h:impl_isGeared.f a0_0 a0_1 = some r) :
    Calls Try.prog 137 #[.agg #[.int .i64 a0_0,.int .i64 a0_1]] w fun e w'=>e = .returned (.bool r)∧Below w.heap.size w w':=by
 have S:=St.init (w:=w) dn
 have F:=S.fc
 have H:=h;clear h;unfold impl_isGeared.f at H
 replace H:=sp_ H;rcases H with ⟨c2,H⟩ | ⟨c2,H⟩
 · skip
   replace c2:=ceq c2
   obtain rfl:=Option.some.inj H
   go_enter Try.func137,Try.ntmps137
   go_wp2_with (first | ((with_reducible refine gd 1 rfl (L ?_));refine bo 1 (.agg #[_,_]) S ?_;clear S F;intro gb381 W S;have F:=S.fc))
   go_ret
   exact ⟨(by first | rfl | (simp [e0_,e1_] <;> rfl) | (simp [*,e0_,e1_] <;> rfl)),S.below⟩
 · skip
   replace c2:=cne c2
   obtain rfl:=Option.some.inj H
   go_enter Try.func137,Try.ntmps137
   go_wp2_with (first | ((with_reducible refine gd 1 rfl (L ?_));refine bo 1 (.agg #[_,_]) S ?_;clear S F;intro gb381 W S;have F:=S.fc))
   go_ret
   exact ⟨(by first | rfl | (simp [e0_,e1_] <;> rfl) | (simp [*,e0_,e1_] <;> rfl)),S.below⟩

/-! ### impl_besideOf: function 138 -/
mutual
def impl_besideOf.j0:Nat→Int→List Int→Int→Int→Int→Int→List (S88)→Option (List Int)
  | 0,_,_,_,_,_,_,_=>none
  | k + 1,x1,x5,x6,x7,x383000,x383001,x383002=>if x7 > 0 then (if x5.length < 17592186044416 then (impl_besideOf.j1 k x1 (x5 ++ [wrap64 (x1 - 1)]) x6 x7 x383000 x383001 x383002) else (none)) else (impl_besideOf.j1 k x1 x5 x6 x7 x383000 x383001 x383002)
def impl_besideOf.j1:Nat→Int→List Int→Int→Int→Int→Int→List (S88)→Option (List Int)
  | 0,_,_,_,_,_,_,_=>none
  | k + 1,x1,x5,x6,x7,x383000,x383001,x383002=>if (wrap64 (x7 + 1)) < x383001 then (if x5.length < 17592186044416 then ((some (x5 ++ [wrap64 (x1 + 1)]:List Int)).bind fun y392=>(if (wrap64 (x6 + 1)) < x383000 then (if y392.length < 17592186044416 then (some (y392 ++ [wrap64 (x1 + x383001)])) else (none)) else (some y392))) else (none)) else (if (wrap64 (x6 + 1)) < x383000 then (if x5.length < 17592186044416 then (some (x5 ++ [wrap64 (x1 + x383001)])) else (none)) else (some x5))
end
def impl_besideOf.f (k:Nat) (a0_0:Int) (a0_1:Int) (l0_2:List (S88)) (a1:Int):Option (List Int):=(some (([]:List Int):List Int)).bind fun y383=>(if a0_1 = 0 then (none) else (if (wrap64 (Int.tdiv a1 a0_1)) > 0 then (if y383.length < 17592186044416 then (impl_besideOf.j0 k a1 (y383 ++ [wrap64 (a1 - a0_1)]) (wrap64 (Int.tdiv a1 a0_1)) (Int.tmod a1 a0_1) a0_0 a0_1 l0_2) else (none)) else (impl_besideOf.j0 k a1 y383 (wrap64 (Int.tdiv a1 a0_1)) (Int.tmod a1 a0_1) a0_0 a0_1 l0_2)))
theorem impl_besideOf.calls (k:Nat) (a0_0:Int) (a0_1:Int) (A0_2:Option Addr) (c0_2:Nat) (l0_2:List (S88)) (a1:Int) (r:List Int) (w:World) (hr0_2:Kd.C k88 w A0_2 l0_2.length l0_2) (hc0_2:l0_2.length ≤ c0_2) (h:impl_besideOf.f k a0_0 a0_1 l0_2 a1 = some r) :
    Calls Try.prog 138 #[.agg #[.int .i64 a0_0,.int .i64 a0_1,.slice A0_2 l0_2.length c0_2],.int .i64 a1] w fun e w'=>∃ v0_:Value,e = .returned (v0_)∧Kd.R (Kd.int .i64) 3 w' w.heap.size (fun _=>True) v0_ r∧Below w.heap.size w w':=by
 have S:=St.init (w:=w) (dc k88_heap at88 hr0_2 hc0_2 dn)
 clear hr0_2 hc0_2
 have F:=S.fc
 have H:=h;clear h;unfold impl_besideOf.f at H
 (first | (with_reducible replace H:=ob_ H;obtain ⟨y383,hy383,H⟩:=H;(try dsimp only at H)) | (obtain ⟨y383,hy383⟩:∃ y_:List Int,y_ = (([]:List Int)):=⟨_,rfl⟩;(try rw [← hy383] at H);(try simp only [Option.bind_some] at H)));have Ny383:=Aside0.mk hy383;clear hy383
 replace H:=nn_ H;obtain ⟨c3,H⟩:=H
 replace c3:=cne c3
 go_enter Try.func138,Try.ntmps138
 go_upto_if 18 with (first | ((with_reducible refine gd 2 rfl (L ?_));refine bo 2 (.agg #[_,_,_]) S ?_;clear S F;intro gb382 W S;have F:=S.fc) | ((with_reducible refine gd 8 rfl (L ?_));refine lia 8 (atI .i64) 3 S ([]:List Int) (fun _ _=>(Reps.none _ _)) (by first | (go_simp;done) | (go_simp;rfl)) ?_;clear S F;intro Ay383 cy383 W S;(try rw [← Ny383.out] at S ⊢);have F:=S.fc))
 go_upto_if 18 with (first | ((with_reducible refine gd 2 rfl (L ?_));refine bo 2 (.agg #[_,_,_]) S ?_;clear S F;intro gb382 W S;have F:=S.fc) | ((with_reducible refine gd 8 rfl (L ?_));refine lia 8 (atI .i64) 3 S ([]:List Int) (fun _ _=>(Reps.none _ _)) (by first | (go_simp;done) | (go_simp;rfl)) ?_;clear S F;intro Ay383 cy383 W S;(try rw [← Ny383.out] at S ⊢);have F:=S.fc) | ((with_reducible refine gd 2 rfl (L ?_));refine bo 2 (.agg #[_,_,_]) S ?_;clear S F;intro gb382 W S;have F:=S.fc) | ((with_reducible refine gd 8 rfl (L ?_));refine lia 8 (atI .i64) 3 S ([]:List Int) (fun _ _=>(Reps.none _ _)) (by first | (go_simp;done) | (go_simp;rfl)) ?_;clear S F;intro Ay383 cy383 W S;(try rw [← Ny383.out] at S ⊢);have F:=S.fc) | ((refine rq (id:=2) S [(0,0),(0,1),(0,4),(0,5),(1,2),(0,3),(0,8),(1,6),(0,7),(0,9)] [] (h:=?_);clear S F;intro W S;have S0:=S;have F:=S.fc)) | (refine q0 (h:=?_)) | (refine q1 S0 (h:=?_)) | (refine q0n (h:=?_)) | (refine q1n S0 (h:=?_)) | refine oz ?_)
 go_cut [5] (fun v5 wc=>∃ (kq:Nat) (x5_3:List Int) (Ax5_3:Option Addr) (cx5_3:Nat),v5 = .slice Ax5_3 x5_3.length cx5_3∧impl_besideOf.j0 kq a1 x5_3 (wrap64 (Int.tdiv a1 a0_1)) (Int.tmod a1 a0_1) a0_0 a0_1 l0_2 = some r∧kq ≤ k∧St w w (fun _=>False) [bor at88 A0_2 c0_2 l0_2] wc  [row (atI .i64) 3 Ax5_3 x5_3.length cx5_3 x5_3,box gb382 50 [.int .i64 a0_0,.int .i64 a0_1,.slice A0_2 l0_2.length c0_2]])
 case first =>
  replace H:=sp_ H;rcases H with ⟨c9,H⟩ | ⟨c9,H⟩
  · skip
    replace H:=np_ H;obtain ⟨c10,H⟩:=H
    (first | (with_reducible replace H:=ob_ H;obtain ⟨y386,hy386,H⟩:=H;(try dsimp only at H)) | (obtain ⟨y386,hy386⟩:∃ y_:List Int,y_ = (y383 ++ [wrap64 (a1 - a0_1)]):=⟨_,rfl⟩;(try rw [← hy386] at H);(try simp only [Option.bind_some] at H)));have Ny386:=Aside0.mk hy386;clear hy386
    go_wp2_with (first | ((with_reducible refine gd 25 rfl (L ?_));refine apa (A:=Ay383) 25 S Try.underlying23 info3 ?_ (ho:=rfl) (hs:=rfl) (hx:=rfl);clear S F;intro Ay386 cy386 W S;(try rw [← Ny386.out] at S ⊢);have F:=S.fc))
    go_wp2_with (first | ((with_reducible refine gd 25 rfl (L ?_));refine apa (A:=Ay383) 25 S Try.underlying23 info3 ?_ (ho:=rfl) (hs:=rfl) (hx:=rfl);clear S F;intro Ay386 cy386 W S;(try rw [← Ny386.out] at S ⊢);have F:=S.fc) | ((with_reducible refine gd 25 rfl (L ?_));refine apa (A:=Ay383) 25 S Try.underlying23 info3 ?_ (ho:=rfl) (hs:=rfl) (hx:=rfl);clear S F;intro Ay386 cy386 W S;(try rw [← Ny386.out] at S ⊢);have F:=S.fc) | ((refine rq (id:=2) S [(0,0),(0,1),(0,4),(0,5),(1,2),(0,3),(0,8),(1,6),(0,7),(0,9)] [] (h:=?_);clear S F;intro W S;have S0:=S;have F:=S.fc)) | (refine q0 (h:=?_)) | (refine q1 S0 (h:=?_)) | (refine q0n (h:=?_)) | (refine q1n S0 (h:=?_)) | refine oz ?_)
    go_meet
    case rel=>exact ⟨_,y386,_,_,rfl,H,(by first | omega | exact Nat.le_refl _),S⟩
  · skip
    go_wp2
    go_wp2_with (first | ((refine rq (id:=2) S [(0,0),(0,1),(0,4),(0,5),(1,2),(0,3),(0,8),(1,6),(0,7),(0,9)] [] (h:=?_);clear S F;intro W S;have S0:=S;have F:=S.fc)) | (refine q0 (h:=?_)) | (refine q1 S0 (h:=?_)) | (refine q0n (h:=?_)) | (refine q1n S0 (h:=?_)) | refine oz ?_)
    go_meet
    case rel=>exact ⟨_,y383,_,_,rfl,H,(by first | omega | exact Nat.le_refl _),S⟩
 case rest =>
  clear H S F
  obtain ⟨kq,x5_3,Ax5_3,cx5_3,rfl,HA,HJ3,S⟩:=hcut
  have F:=S.fc
  cases kq with
  | zero=>exact absurd HA (by simp [impl_besideOf.j0])
  | succ kj3 =>
   have H:=HA;clear HA;simp only [impl_besideOf.j0,F] at H
   go_upto_if 27 with (fail)
   go_upto_if 27 with (first | ((refine rq (id:=2) S [(0,0),(0,1),(0,4),(0,5),(1,2),(0,3),(0,8),(1,6),(0,7),(0,9)] [] (h:=?_);clear S F;intro W S;have S0:=S;have F:=S.fc)) | (refine q0 (h:=?_)) | (refine q1 S0 (h:=?_)) | (refine q0n (h:=?_)) | (refine q1n S0 (h:=?_)) | refine oz ?_)
   go_cut [5] (fun v5 wc=>∃ (kq:Nat) (x5_12:List Int) (Ax5_12:Option Addr) (cx5_12:Nat),v5 = .slice Ax5_12 x5_12.length cx5_12∧impl_besideOf.j1 kq a1 x5_12 (wrap64 (Int.tdiv a1 a0_1)) (Int.tmod a1 a0_1) a0_0 a0_1 l0_2 = some r∧kq ≤ kj3∧St w w (fun _=>False) [bor at88 A0_2 c0_2 l0_2] wc  [row (atI .i64) 3 Ax5_12 x5_12.length cx5_12 x5_12,box gb382 50 [.int .i64 a0_0,.int .i64 a0_1,.slice A0_2 l0_2.length c0_2]])
   case first =>
    replace H:=sp_ H;rcases H with ⟨c14,H⟩ | ⟨c14,H⟩
    · skip
      replace H:=np_ H;obtain ⟨c15,H⟩:=H
      (first | (with_reducible replace H:=ob_ H;obtain ⟨y389,hy389,H⟩:=H;(try dsimp only at H)) | (obtain ⟨y389,hy389⟩:∃ y_:List Int,y_ = (x5_3 ++ [wrap64 (a1 - 1)]):=⟨_,rfl⟩;(try rw [← hy389] at H);(try simp only [Option.bind_some] at H)));have Ny389:=Aside0.mk hy389;clear hy389
      go_wp2_with (first | ((with_reducible refine gd 32 rfl (L ?_));refine apa (A:=Ax5_3) 32 S Try.underlying23 info3 ?_ (ho:=rfl) (hs:=rfl) (hx:=rfl);clear S F;intro Ay389 cy389 W S;(try rw [← Ny389.out] at S ⊢);have F:=S.fc))
      go_wp2_with (first | ((with_reducible refine gd 32 rfl (L ?_));refine apa (A:=Ax5_3) 32 S Try.underlying23 info3 ?_ (ho:=rfl) (hs:=rfl) (hx:=rfl);clear S F;intro Ay389 cy389 W S;(try rw [← Ny389.out] at S ⊢);have F:=S.fc) | ((with_reducible refine gd 32 rfl (L ?_));refine apa (A:=Ax5_3) 32 S Try.underlying23 info3 ?_ (ho:=rfl) (hs:=rfl) (hx:=rfl);clear S F;intro Ay389 cy389 W S;(try rw [← Ny389.out] at S ⊢);have F:=S.fc) | ((refine rq (id:=2) S [(0,0),(0,1),(0,4),(0,5),(1,2),(0,3),(0,8),(1,6),(0,7),(0,9)] [] (h:=?_);clear S F;intro W S;have S0:=S;have F:=S.fc)) | (refine q0 (h:=?_)) | (refine q1 S0 (h:=?_)) | (refine q0n (h:=?_)) | (refine q1n S0 (h:=?_)) | refine oz ?_)
      go_meet
      case rel=>exact ⟨_,y389,_,_,rfl,H,(by first | omega | exact Nat.le_refl _),S⟩
    · skip
      go_wp2
      go_wp2_with (first | ((refine rq (id:=2) S [(0,0),(0,1),(0,4),(0,5),(1,2),(0,3),(0,8),(1,6),(0,7),(0,9)] [] (h:=?_);clear S F;intro W S;have S0:=S;have F:=S.fc)) | (refine q0 (h:=?_)) | (refine q1 S0 (h:=?_)) | (refine q0n (h:=?_)) | (refine q1n S0 (h:=?_)) | refine oz ?_)
      go_meet
      case rel=>exact ⟨_,x5_3,_,_,rfl,H,(by first | omega | exact Nat.le_refl _),S⟩
   case rest =>
    clear H S F
    obtain ⟨kq,x5_12,Ax5_12,cx5_12,rfl,HA,HJ12,S⟩:=hcut
    have F:=S.fc
    cases kq with
    | zero=>exact absurd HA (by simp [impl_besideOf.j1])
    | succ kj12 =>
     have H:=HA;clear HA;simp only [impl_besideOf.j1,F] at H
     replace H:=sp_ H;rcases H with ⟨c17,H⟩ | ⟨c17,H⟩
     · skip
       replace H:=np_ H;obtain ⟨c18,H⟩:=H
       (first | (with_reducible replace H:=ob_ H;obtain ⟨y392,hy392,H⟩:=H;(try dsimp only at H)) | (obtain ⟨y392,hy392⟩:∃ y_:List Int,y_ = (x5_12 ++ [wrap64 (a1 + 1)]):=⟨_,rfl⟩;(try rw [← hy392] at H);(try simp only [Option.bind_some] at H)));have Ny392:=Aside0.mk hy392;clear hy392
       replace H:=sp_ H;rcases H with ⟨c19,H⟩ | ⟨c19,H⟩
       · skip
         replace H:=np_ H;obtain ⟨c20,H⟩:=H
         (first | (with_reducible replace H:=ob_ H;obtain ⟨y395,hy395,H⟩:=H;(try dsimp only at H)) | (obtain ⟨y395,hy395⟩:∃ y_:List Int,y_ = (y392 ++ [wrap64 (a1 + a0_1)]):=⟨_,rfl⟩;(try rw [← hy395] at H);(try simp only [Option.bind_some] at H)));have Ny395:=Aside0.mk hy395;clear hy395
         obtain rfl:=Option.some.inj H
         go_wp2_with (first | ((with_reducible refine gd 42 rfl (L ?_));refine apa (A:=Ax5_12) 42 S Try.underlying23 info3 ?_ (ho:=rfl) (hs:=rfl) (hx:=rfl);clear S F;intro Ay392 cy392 W S;(try rw [← Ny392.out] at S ⊢);(try rw [← Ny395.out] at S ⊢);have F:=S.fc) | ((with_reducible refine gd 54 rfl (L ?_));refine apa (A:=Ay392) 54 S Try.underlying23 info3 ?_ (ho:=rfl) (hs:=rfl) (hx:=rfl);clear S F;intro Ay395 cy395 W S;(try rw [← Ny392.out] at S ⊢);(try rw [← Ny395.out] at S ⊢);have F:=S.fc))
         go_wp2_with (first | ((with_reducible refine gd 42 rfl (L ?_));refine apa (A:=Ax5_12) 42 S Try.underlying23 info3 ?_ (ho:=rfl) (hs:=rfl) (hx:=rfl);clear S F;intro Ay392 cy392 W S;(try rw [← Ny392.out] at S ⊢);(try rw [← Ny395.out] at S ⊢);have F:=S.fc) | ((with_reducible refine gd 54 rfl (L ?_));refine apa (A:=Ay392) 54 S Try.underlying23 info3 ?_ (ho:=rfl) (hs:=rfl) (hx:=rfl);clear S F;intro Ay395 cy395 W S;(try rw [← Ny392.out] at S ⊢);(try rw [← Ny395.out] at S ⊢);have F:=S.fc) | ((with_reducible refine gd 42 rfl (L ?_));refine apa (A:=Ax5_12) 42 S Try.underlying23 info3 ?_ (ho:=rfl) (hs:=rfl) (hx:=rfl);clear S F;intro Ay392 cy392 W S;(try rw [← Ny392.out] at S ⊢);(try rw [← Ny395.out] at S ⊢);have F:=S.fc) | ((with_reducible refine gd 54 rfl (L ?_));refine apa (A:=Ay392) 54 S Try.underlying23 info3 ?_ (ho:=rfl) (hs:=rfl) (hx:=rfl);clear S F;intro Ay395 cy395 W S;(try rw [← Ny392.out] at S ⊢);(try rw [← Ny395.out] at S ⊢);have F:=S.fc) | ((refine rq (id:=2) S [(0,0),(0,1),(0,4),(0,5),(1,2),(0,3),(0,8),(1,6),(0,7),(0,9)] [] (h:=?_);clear S F;intro W S;have S0:=S;have F:=S.fc)) | (refine q0 (h:=?_)) | (refine q1 S0 (h:=?_)) | (refine q0n (h:=?_)) | (refine q1n S0 (h:=?_)) | refine oz ?_)
         go_ret
         exact ⟨_,(by first | rfl | (simp [e0_,e1_] <;> rfl) | (simp [*,e0_,e1_] <;> rfl)),(by first | exact S.r | exact Kd.R_nil _ _ _ _ _),S.below⟩
       · skip
         obtain rfl:=Option.some.inj H
         go_wp2_with (first | ((with_reducible refine gd 42 rfl (L ?_));refine apa (A:=Ax5_12) 42 S Try.underlying23 info3 ?_ (ho:=rfl) (hs:=rfl) (hx:=rfl);clear S F;intro Ay392 cy392 W S;(try rw [← Ny392.out] at S ⊢);have F:=S.fc))
         go_wp2_with (first | ((with_reducible refine gd 42 rfl (L ?_));refine apa (A:=Ax5_12) 42 S Try.underlying23 info3 ?_ (ho:=rfl) (hs:=rfl) (hx:=rfl);clear S F;intro Ay392 cy392 W S;(try rw [← Ny392.out] at S ⊢);have F:=S.fc) | ((with_reducible refine gd 42 rfl (L ?_));refine apa (A:=Ax5_12) 42 S Try.underlying23 info3 ?_ (ho:=rfl) (hs:=rfl) (hx:=rfl);clear S F;intro Ay392 cy392 W S;(try rw [← Ny392.out] at S ⊢);have F:=S.fc) | ((refine rq (id:=2) S [(0,0),(0,1),(0,4),(0,5),(1,2),(0,3),(0,8),(1,6),(0,7),(0,9)] [] (h:=?_);clear S F;intro W S;have S0:=S;have F:=S.fc)) | (refine q0 (h:=?_)) | (refine q1 S0 (h:=?_)) | (refine q0n (h:=?_)) | (refine q1n S0 (h:=?_)) | refine oz ?_)
         go_ret
         exact ⟨_,(by first | rfl | (simp [e0_,e1_] <;> rfl) | (simp [*,e0_,e1_] <;> rfl)),(by first | exact S.r | exact Kd.R_nil _ _ _ _ _),S.below⟩
     · skip
       replace H:=sp_ H;rcases H with ⟨c28,H⟩ | ⟨c28,H⟩
       · skip
         replace H:=np_ H;obtain ⟨c29,H⟩:=H
         (first | (with_reducible replace H:=ob_ H;obtain ⟨y398,hy398,H⟩:=H;(try dsimp only at H)) | (obtain ⟨y398,hy398⟩:∃ y_:List Int,y_ = (x5_12 ++ [wrap64 (a1 + a0_1)]):=⟨_,rfl⟩;(try rw [← hy398] at H);(try simp only [Option.bind_some] at H)));have Ny398:=Aside0.mk hy398;clear hy398
         obtain rfl:=Option.some.inj H
         go_wp2_with (first | ((with_reducible refine gd 54 rfl (L ?_));refine apa (A:=Ax5_12) 54 S Try.underlying23 info3 ?_ (ho:=rfl) (hs:=rfl) (hx:=rfl);clear S F;intro Ay398 cy398 W S;(try rw [← Ny398.out] at S ⊢);have F:=S.fc))
         go_wp2_with (first | ((with_reducible refine gd 54 rfl (L ?_));refine apa (A:=Ax5_12) 54 S Try.underlying23 info3 ?_ (ho:=rfl) (hs:=rfl) (hx:=rfl);clear S F;intro Ay398 cy398 W S;(try rw [← Ny398.out] at S ⊢);have F:=S.fc) | ((with_reducible refine gd 54 rfl (L ?_));refine apa (A:=Ax5_12) 54 S Try.underlying23 info3 ?_ (ho:=rfl) (hs:=rfl) (hx:=rfl);clear S F;intro Ay398 cy398 W S;(try rw [← Ny398.out] at S ⊢);have F:=S.fc) | ((refine rq (id:=2) S [(0,0),(0,1),(0,4),(0,5),(1,2),(0,3),(0,8),(1,6),(0,7),(0,9)] [] (h:=?_);clear S F;intro W S;have S0:=S;have F:=S.fc)) | (refine q0 (h:=?_)) | (refine q1 S0 (h:=?_)) | (refine q0n (h:=?_)) | (refine q1n S0 (h:=?_)) | refine oz ?_)
         go_ret
         exact ⟨_,(by first | rfl | (simp [e0_,e1_] <;> rfl) | (simp [*,e0_,e1_] <;> rfl)),(by first | exact S.r | exact Kd.R_nil _ _ _ _ _),S.below⟩
       · skip
         obtain rfl:=Option.some.inj H
         go_wp2
         go_wp2_with (first | ((refine rq (id:=2) S [(0,0),(0,1),(0,4),(0,5),(1,2),(0,3),(0,8),(1,6),(0,7),(0,9)] [] (h:=?_);clear S F;intro W S;have S0:=S;have F:=S.fc)) | (refine q0 (h:=?_)) | (refine q1 S0 (h:=?_)) | (refine q0n (h:=?_)) | (refine q1n S0 (h:=?_)) | refine oz ?_)
         go_ret
         exact ⟨_,(by first | rfl | (simp [e0_,e1_] <;> rfl) | (simp [*,e0_,e1_] <;> rfl)),(by first | exact S.r | exact Kd.R_nil _ _ _ _ _),S.below⟩
end Go.Proofs.Ytipaimgpmgbkiaa.F
