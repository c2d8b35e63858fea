-- Printed by a program; checked here.
import Derived.Test.YtipaimgpmgbkiaaF0
import Derived.Test.YtipaimgpmgbkiaaF1
import Derived.Test.YtipaimgpmgbkiaaF2
import Derived.Test.YtipaimgpmgbkiaaF3
import Derived.Test.YtipaimgpmgbkiaaF4
namespace Go.Proofs.Ytipaimgpmgbkiaa.F
open Go.RowKit Go.Proofs.YtipaimgpmgbkiaaV.PrintWords Go.Proofs.YtipaimgpmgbkiaaV.PrintLast Go.Proofs.YtipaimgpmgbkiaaV.PrintMore Go.Proofs.YtipaimgpmgbkiaaV.Sl
attribute [local go_sem] max2_int min2_int max_two min_two max_three min_three max_four min_four ia_opt it_opt
attribute [local go_sem] Try.underlying23 Try.underlying29 Try.underlying41 Try.underlying42 Try.underlying46 Try.underlying50 Try.underlying63 Try.underlying88 Try.underlying106 Try.underlying127
set_option maxHeartbeats 8000000
set_option maxRecDepth 100000
set_option linter.unusedVariables false
set_option linter.unusedSimpArgs false

/-! ### spec_TableByFlips: function 31 -/
def spec_TableByFlips.f (k:Nat) (a0_0:Int) (a0_1:Int) (l0_2:List (S88)) (a1:Int) (l2:List (List Int)) (a3:Int):Option (Int × List Int × Bool):=(spec_vfFlips.f k a0_0 a0_1 l0_2 a1 l2 a3).bind fun t285=>(if t285 = true then ((spec_vfByFlips.f k a0_0 a0_1 l0_2 a1 l2 a3).bind fun t286=>((spec_ttGood.f k (l2.length:Int) t286).bind fun t290=>(if t290 = true then (some ((l2.length:Int),t286,true)) else (some (0,([]:List Int),false))))) else (some (0,([]:List Int),false)))
theorem spec_TableByFlips.calls (k:Nat) (a0_0:Int) (a0_1:Int) (A0_2:Option Addr) (c0_2:Nat) (l0_2:List (S88)) (a1:Int) (A2:Option Addr) (c2:Nat) (l2:List (List Int)) (a3:Int) (r1:Int) (r2:List Int) (r3:Bool) (w:World) (hr0_2:Kd.C k88 w A0_2 l0_2.length l0_2) (hc0_2:l0_2.length ≤ c0_2) (hr2:Kd.C (Kd.slice 3 (Kd.int .i64)) w A2 l2.length l2) (hc2:l2.length ≤ c2) (h:spec_TableByFlips.f k a0_0 a0_1 l0_2 a1 l2 a3 = some (r1,r2,r3)) :
    Calls Try.prog 31 #[.agg #[.int .i64 a0_0,.int .i64 a0_1,.slice A0_2 l0_2.length c0_2],.int .i64 a1,.slice A2 l2.length c2,.int .i64 a3] w fun e w'=>∃ v1_:Value,e = .returned (.tuple #[.agg #[.int .i64 r1,v1_],.bool r3])∧Kd.R (Kd.int .i64) 3 w' w.heap.size (fun _=>True) v1_ r2∧Below w.heap.size w w':=by
 have S:=St.init (w:=w) (dc k88_heap at88 hr0_2 hc0_2 (dc (Kd.heap_slice 3 (Kd.heap_int .i64)) (atU (d:=Kd.slice 3 (Kd.int .i64))) hr2 hc2 dn))
 clear hr0_2 hc0_2 hr2 hc2
 have F:=S.fc
 have H:=h;clear h;unfold spec_TableByFlips.f at H
 replace H:=Option.bind_eq_some_iff.mp H;obtain ⟨t285,A5,H⟩:=H;(try dsimp only at H)
 replace H:=sp_ H;rcases H with ⟨c6,H⟩ | ⟨c6,H⟩
 · skip
   subst c6
   replace H:=Option.bind_eq_some_iff.mp H;obtain ⟨t286,A7,H⟩:=H;(try dsimp only at H)
   replace H:=Option.bind_eq_some_iff.mp H;obtain ⟨t290,A8,H⟩:=H;(try dsimp only at H)
   replace H:=sp_ H;rcases H with ⟨c9,H⟩ | ⟨c9,H⟩
   · skip
     subst c9
     simp only [Option.some.injEq,Prod.mk.injEq] at H
     obtain ⟨rfl,rfl,rfl⟩:=H
     go_enter Try.func31,Try.ntmps31
     go_wp2_with (first | ((with_reducible refine gd 4 rfl (L ?_));refine bo 4 (.agg #[_,_,_]) S ?_;clear S F;intro gb283 W S;have F:=S.fc) | ((with_reducible refine gd 8 rfl (L ?_));refine al 8 S zi46 ?_;clear S F;intro gb284 W S;have F:=S.fc) | ((with_reducible refine gate_callee (f:=76) rfl (L ?_));refine cl (some 15) Try.func76 (spec_vfFlips.calls _ _ _ _ _ _ _ _ _ _ _ _ _ S.c S.n S.c S.n A5) (hargs:=by (simp only [ma_,mb_,mc_,F] <;> rfl)) (h:=?_);rintro e W ⟨rfl,hb⟩;refine ⟨_,rfl,?_⟩;replace S:=S.go hb;clear F hb;have F:=S.fc) | ((with_reducible refine gate_callee (f:=77) rfl (L ?_));refine cl (some 24) Try.func77 (spec_vfByFlips.calls _ _ _ _ _ _ _ _ _ _ _ _ _ S.c S.n S.c S.n A7) (hargs:=by (simp only [ma_,mb_,mc_,F] <;> rfl)) (h:=?_);rintro e W ⟨v287,rfl,ho0,hb⟩;refine ⟨_,rfl,?_⟩;replace S:=S.got (atI .i64) hb ho0;obtain ⟨At286,ct286,rfl,S⟩:=S;clear F hb ho0;have F:=S.fc) | ((with_reducible refine gd 10 rfl (L ?_));refine al 10 S zi46 ?_;clear S F;intro gb289 W S;have F:=S.fc) | ((with_reducible refine gate_callee (f:=78) rfl (L ?_));refine cl (some 27) Try.func78 (spec_ttGood.calls _ _ _ _ _ _ _ S.c S.n A8) (hargs:=by (simp only [ma_,mb_,mc_,F] <;> rfl)) (h:=?_);rintro e W ⟨rfl,hb⟩;refine ⟨_,rfl,?_⟩;replace S:=S.go hb;clear F hb;have F:=S.fc) | ((with_reducible refine gs (t:=46) rfl (L ?_));(first | refine sb (.agg #[_,_]) S sz46 ?_ | refine ro (.agg #[_,_]) S sz46 ?_ (ho:=rfl) (hx:=rfl) (hy:=rfl));(clear S F;intro W S;have F:=S.fc)))
     refine bodyPost_ret (results_ct rfl _ _ gb284 46 #[.int .i64 (l2.length:Int),.slice At286 t286.length ct286] (0,0) _ rfl S.hb Try.underlying46 rfl (by kernel_rfl)) rfl ?_
     exact ⟨_,(by first | rfl | (simp [e0_,e1_] <;> rfl) | (simp [*,e0_,e1_] <;> rfl)),(by first | exact S.r | exact Kd.R_nil _ _ _ _ _),S.below⟩
   · skip
     replace c9:=cbf c9;subst c9
     simp only [Option.some.injEq,Prod.mk.injEq] at H
     obtain ⟨rfl,rfl,rfl⟩:=H
     go_enter Try.func31,Try.ntmps31
     go_wp2_with (first | ((with_reducible refine gd 4 rfl (L ?_));refine bo 4 (.agg #[_,_,_]) S ?_;clear S F;intro gb283 W S;have F:=S.fc) | ((with_reducible refine gd 8 rfl (L ?_));refine al 8 S zi46 ?_;clear S F;intro gb284 W S;have F:=S.fc) | ((with_reducible refine gate_callee (f:=76) rfl (L ?_));refine cl (some 15) Try.func76 (spec_vfFlips.calls _ _ _ _ _ _ _ _ _ _ _ _ _ S.c S.n S.c S.n A5) (hargs:=by (simp only [ma_,mb_,mc_,F] <;> rfl)) (h:=?_);rintro e W ⟨rfl,hb⟩;refine ⟨_,rfl,?_⟩;replace S:=S.go hb;clear F hb;have F:=S.fc) | ((with_reducible refine gate_callee (f:=77) rfl (L ?_));refine cl (some 24) Try.func77 (spec_vfByFlips.calls _ _ _ _ _ _ _ _ _ _ _ _ _ S.c S.n S.c S.n A7) (hargs:=by (simp only [ma_,mb_,mc_,F] <;> rfl)) (h:=?_);rintro e W ⟨v287,rfl,ho0,hb⟩;refine ⟨_,rfl,?_⟩;replace S:=S.got (atI .i64) hb ho0;obtain ⟨At286,ct286,rfl,S⟩:=S;clear F hb ho0;have F:=S.fc) | ((with_reducible refine gd 10 rfl (L ?_));refine al 10 S zi46 ?_;clear S F;intro gb289 W S;have F:=S.fc) | ((with_reducible refine gate_callee (f:=78) rfl (L ?_));refine cl (some 27) Try.func78 (spec_ttGood.calls _ _ _ _ _ _ _ S.c S.n A8) (hargs:=by (simp only [ma_,mb_,mc_,F] <;> rfl)) (h:=?_);rintro e W ⟨rfl,hb⟩;refine ⟨_,rfl,?_⟩;replace S:=S.go hb;clear F hb;have F:=S.fc) | ((with_reducible refine gs (t:=46) rfl (L ?_));(first | refine sb (.agg #[_,_]) S sz46 ?_ | refine ro (.agg #[_,_]) S sz46 ?_ (ho:=rfl) (hx:=rfl) (hy:=rfl));(clear S F;intro W S;have F:=S.fc)))
     refine bodyPost_ret (results_ct rfl _ _ gb284 46 #[.int .i64 0,.slice none 0 0] (0,0) _ rfl S.hb Try.underlying46 rfl (by kernel_rfl)) rfl ?_
     exact ⟨_,(by first | rfl | (simp [e0_,e1_] <;> rfl) | (simp [*,e0_,e1_] <;> rfl)),(by first | exact S.r | exact Kd.R_nil _ _ _ _ _),S.below⟩
 · skip
   replace c6:=cbf c6;subst c6
   simp only [Option.some.injEq,Prod.mk.injEq] at H
   obtain ⟨rfl,rfl,rfl⟩:=H
   go_enter Try.func31,Try.ntmps31
   go_wp2_with (first | ((with_reducible refine gd 4 rfl (L ?_));refine bo 4 (.agg #[_,_,_]) S ?_;clear S F;intro gb283 W S;have F:=S.fc) | ((with_reducible refine gd 8 rfl (L ?_));refine al 8 S zi46 ?_;clear S F;intro gb284 W S;have F:=S.fc) | ((with_reducible refine gate_callee (f:=76) rfl (L ?_));refine cl (some 15) Try.func76 (spec_vfFlips.calls _ _ _ _ _ _ _ _ _ _ _ _ _ S.c S.n S.c S.n A5) (hargs:=by (simp only [ma_,mb_,mc_,F] <;> rfl)) (h:=?_);rintro e W ⟨rfl,hb⟩;refine ⟨_,rfl,?_⟩;replace S:=S.go hb;clear F hb;have F:=S.fc) | ((with_reducible refine gs (t:=46) rfl (L ?_));(first | refine sb (.agg #[_,_]) S sz46 ?_ | refine ro (.agg #[_,_]) S sz46 ?_ (ho:=rfl) (hx:=rfl) (hy:=rfl));(clear S F;intro W S;have F:=S.fc)))
   refine bodyPost_ret (results_ct rfl _ _ gb284 46 #[.int .i64 0,.slice none 0 0] (0,0) _ rfl S.hb Try.underlying46 rfl (by kernel_rfl)) rfl ?_
   exact ⟨_,(by first | rfl | (simp [e0_,e1_] <;> rfl) | (simp [*,e0_,e1_] <;> rfl)),(by first | exact S.r | exact Kd.R_nil _ _ _ _ _),S.below⟩

/-! ### impl_TableByFlips: function 34 -/
def impl_TableByFlips.l0:Nat→List (List Int)→List Int→Int→Int→Option (Int × List Int × Bool)
  | 0,_,_,_,_=>none
  | k + 1,x2,x10,x26,x27=>if x27 < x26 then (if 0 ≤ x27 then (if x27 < (x10.length:Int) then (if (rd x10 x27) < 0 then (some (0,([]:List Int),false)) else (impl_TableByFlips.l0 k x2 x10 x26 (wrap64 (x27 + 1)))) else (none)) else (none)) else (some ((x2.length:Int),x10,true))
def impl_TableByFlips.f (k:Nat) (a0_0:Int) (a0_1:Int) (l0_2:List (S88)) (a1:Int) (l2:List (List Int)) (a3:Int):Option (Int × List Int × Bool):=(impl_readByFlips.f k a0_0 a0_1 l0_2 a1 l2 a3).bind fun t458=>(if t458 = true then ((impl_flipValues.f k a0_0 a0_1 l0_2 a1 l2 a3).bind fun t459=>(impl_TableByFlips.l0 k l2 t459 (t459.length:Int) 0)) else (some (0,([]:List Int),false)))
theorem impl_TableByFlips.calls (k:Nat) (a0_0:Int) (a0_1:Int) (A0_2:Option Addr) (c0_2:Nat) (l0_2:List (S88)) (a1:Int) (A2:Option Addr) (c2:Nat) (l2:List (List Int)) (a3:Int) (r1:Int) (r2:List Int) (r3:Bool) (w:World) (hr0_2:Kd.C k88 w A0_2 l0_2.length l0_2) (hc0_2:l0_2.length ≤ c0_2) (hr2:Kd.C (Kd.slice 3 (Kd.int .i64)) w A2 l2.length l2) (hc2:l2.length ≤ c2) (h:impl_TableByFlips.f k a0_0 a0_1 l0_2 a1 l2 a3 = some (r1,r2,r3)) :
    Calls Try.prog 34 #[.agg #[.int .i64 a0_0,.int .i64 a0_1,.slice A0_2 l0_2.length c0_2],.int .i64 a1,.slice A2 l2.length c2,.int .i64 a3] w fun e w'=>∃ v1_:Value,e = .returned (.tuple #[.agg #[.int .i64 r1,v1_],.bool r3])∧Kd.R (Kd.int .i64) 3 w' w.heap.size (fun _=>True) v1_ r2∧Below w.heap.size w w':=by
 have S:=St.init (w:=w) (dc k88_heap at88 hr0_2 hc0_2 (dc (Kd.heap_slice 3 (Kd.heap_int .i64)) (atU (d:=Kd.slice 3 (Kd.int .i64))) hr2 hc2 dn))
 clear hr0_2 hc0_2 hr2 hc2
 have F:=S.fc
 have H:=h;clear h;unfold impl_TableByFlips.f at H
 replace H:=Option.bind_eq_some_iff.mp H;obtain ⟨t458,A5,H⟩:=H;(try dsimp only at H)
 replace H:=sp_ H;rcases H with ⟨c6,H⟩ | ⟨c6,H⟩
 · skip
   subst c6
   replace H:=Option.bind_eq_some_iff.mp H;obtain ⟨t459,A7,H⟩:=H;(try dsimp only at H)
   go_enter Try.func34,Try.ntmps34
   go_wp2_with (first | ((with_reducible refine gd 4 rfl (L ?_));refine bo 4 (.agg #[_,_,_]) S ?_;clear S F;intro gb456 W S;have F:=S.fc) | ((with_reducible refine gd 8 rfl (L ?_));refine al 8 S zi46 ?_;clear S F;intro gb457 W S;have F:=S.fc) | ((with_reducible refine gate_callee (f:=79) rfl (L ?_));refine cl (some 17) Try.func79 (impl_readByFlips.calls _ _ _ _ _ _ _ _ _ _ _ _ _ S.c S.n S.c S.n A5) (hargs:=by (simp only [ma_,mb_,mc_,F] <;> rfl)) (h:=?_);rintro e W ⟨rfl,hb⟩;refine ⟨_,rfl,?_⟩;replace S:=S.go hb;clear F hb;have F:=S.fc) | ((with_reducible refine gate_callee (f:=80) rfl (L ?_));refine cl (some 24) Try.func80 (impl_flipValues.calls _ _ _ _ _ _ _ _ _ _ _ _ _ S.c S.n S.c S.n A7) (hargs:=by (simp only [ma_,mb_,mc_,F] <;> rfl)) (h:=?_);rintro e W ⟨v460,rfl,ho0,hb⟩;refine ⟨_,rfl,?_⟩;replace S:=S.got (atI .i64) hb ho0;obtain ⟨At459,ct459,rfl,S⟩:=S;clear F hb ho0;have F:=S.fc) | ((with_reducible refine gs (t:=46) rfl (L ?_));(first | refine sb (.agg #[_,_]) S sz46 ?_ | refine ro (.agg #[_,_]) S sz46 ?_ (ho:=rfl) (hx:=rfl) (hy:=rfl));(clear S F;intro W S;have F:=S.fc)))
   go_loopg [27] k (fun kq v27 w'=>∃ (x27_1:Int) (x458000_1:Int),v27 = .int .i64 x27_1∧impl_TableByFlips.l0 kq l2 t459 (t459.length:Int) x27_1 = some (r1,r2,r3)∧kq ≤ k∧St w w (fun _=>False) [bor at88 A0_2 c0_2 l0_2,bor (atU (d:=Kd.slice 3 (Kd.int .i64))) A2 c2 l2] w'  [row (atI .i64) 3 At459 t459.length ct459 t459,box gb457 46 [.int .i64 x458000_1,.slice none 0 0],box gb456 50 [.int .i64 a0_0,.int .i64 a0_1,.slice A0_2 l0_2.length c0_2]])
   case atStart=>exact ⟨0,0,(by first | rfl | (simp;done) | (simp [*];done) | (rw [w6_ (by omega) (by omega)])),H,Nat.le_refl _,S⟩
   case round =>
    clear H S F
    obtain ⟨x27_1,x458000_1,rfl,HA,HK1,S⟩:=hrel
    have F:=S.fc
    cases gk with
    | zero=>exact absurd HA (by simp [impl_TableByFlips.l0])
    | succ k1 =>
     have H:=HA;clear HA;simp only [impl_TableByFlips.l0,F] at H
     replace H:=sp_ H;rcases H with ⟨c16,H⟩ | ⟨c16,H⟩
     · skip
       replace H:=np_ H;obtain ⟨c17,H⟩:=H
       replace H:=np_ H;obtain ⟨c18,H⟩:=H
       replace H:=sp_ H;rcases H with ⟨c19,H⟩ | ⟨c19,H⟩
       · skip
         simp only [Option.some.injEq,Prod.mk.injEq] at H
         obtain ⟨rfl,rfl,rfl⟩:=H
         go_wp2_with (first | ((with_reducible refine gs (t:=46) rfl (L ?_));(first | refine sb (.agg #[_,_]) S sz46 ?_ | refine ro (.agg #[_,_]) S sz46 ?_ (ho:=rfl) (hx:=rfl) (hy:=rfl));(clear S F;intro W S;have F:=S.fc)))
         refine bodyPost_ret (results_ct rfl _ _ gb457 46 #[.int .i64 0,.slice none 0 0] (0,0) _ rfl S.hb Try.underlying46 rfl (by kernel_rfl)) rfl ?_
         exact ⟨_,(by first | rfl | (simp [e0_,e1_] <;> rfl) | (simp [*,e0_,e1_] <;> rfl)),(by first | exact S.r | exact Kd.R_nil _ _ _ _ _),S.below⟩
       · skip
         go_wp2_with (first | ((with_reducible refine gs (t:=46) rfl (L ?_));(first | refine sb (.agg #[_,_]) S sz46 ?_ | refine ro (.agg #[_,_]) S sz46 ?_ (ho:=rfl) (hx:=rfl) (hy:=rfl));(clear S F;intro W S;have F:=S.fc)))
         go_roundg k1
         case measure=>omega
         case rel=>exact ⟨(wrap64 (x27_1 + 1)),x458000_1,(by first | rfl | (simp;done) | (simp [*];done) | (rw [w6_ (by omega) (by omega)])),H,(by first | omega | exact Nat.le_refl _),S⟩
     · skip
       simp only [Option.some.injEq,Prod.mk.injEq] at H
       obtain ⟨rfl,rfl,rfl⟩:=H
       go_wp2_with (first | ((with_reducible refine gs (t:=46) rfl (L ?_));(first | refine sb (.agg #[_,_]) S sz46 ?_ | refine ro (.agg #[_,_]) S sz46 ?_ (ho:=rfl) (hx:=rfl) (hy:=rfl));(clear S F;intro W S;have F:=S.fc)))
       refine bodyPost_ret (results_ct rfl _ _ gb457 46 #[.int .i64 (l2.length:Int),.slice At459 t459.length ct459] (0,0) _ rfl S.hb Try.underlying46 rfl (by kernel_rfl)) rfl ?_
       exact ⟨_,(by first | rfl | (simp [e0_,e1_] <;> rfl) | (simp [*,e0_,e1_] <;> rfl)),(by first | exact S.r | exact Kd.R_nil _ _ _ _ _),S.below⟩
 · skip
   replace c6:=cbf c6;subst c6
   simp only [Option.some.injEq,Prod.mk.injEq] at H
   obtain ⟨rfl,rfl,rfl⟩:=H
   go_enter Try.func34,Try.ntmps34
   go_wp2_with (first | ((with_reducible refine gd 4 rfl (L ?_));refine bo 4 (.agg #[_,_,_]) S ?_;clear S F;intro gb456 W S;have F:=S.fc) | ((with_reducible refine gd 8 rfl (L ?_));refine al 8 S zi46 ?_;clear S F;intro gb457 W S;have F:=S.fc) | ((with_reducible refine gate_callee (f:=79) rfl (L ?_));refine cl (some 17) Try.func79 (impl_readByFlips.calls _ _ _ _ _ _ _ _ _ _ _ _ _ S.c S.n S.c S.n A5) (hargs:=by (simp only [ma_,mb_,mc_,F] <;> rfl)) (h:=?_);rintro e W ⟨rfl,hb⟩;refine ⟨_,rfl,?_⟩;replace S:=S.go hb;clear F hb;have F:=S.fc) | ((with_reducible refine gs (t:=46) rfl (L ?_));(first | refine sb (.agg #[_,_]) S sz46 ?_ | refine ro (.agg #[_,_]) S sz46 ?_ (ho:=rfl) (hx:=rfl) (hy:=rfl));(clear S F;intro W S;have F:=S.fc)))
   refine bodyPost_ret (results_ct rfl _ _ gb457 46 #[.int .i64 0,.slice none 0 0] (0,0) _ rfl S.hb Try.underlying46 rfl (by kernel_rfl)) rfl ?_
   exact ⟨_,(by first | rfl | (simp [e0_,e1_] <;> rfl) | (simp [*,e0_,e1_] <;> rfl)),(by first | exact S.r | exact Kd.R_nil _ _ _ _ _),S.below⟩

/-! ### laws_heldTable: function 41 -/
def laws_heldTable.f (k:Nat) (a0_0:Int) (l0_1:List Int) (a1:Int):Option (Int):=(laws_heldIntS.f k l0_1 a1).bind fun t491=>(if t491 < 0 then (some (-1)) else (some t491))
theorem laws_heldTable.calls (k:Nat) (a0_0:Int) (A0_1:Option Addr) (c0_1:Nat) (l0_1:List Int) (a1:Int) (r:Int) (w:World) (hr0_1:Kd.C (Kd.int .i64) w A0_1 l0_1.length l0_1) (hc0_1:l0_1.length ≤ c0_1) (h:laws_heldTable.f k a0_0 l0_1 a1 = some r) :
    Calls Try.prog 41 #[.agg #[.int .i64 a0_0,.slice A0_1 l0_1.length c0_1],.int .i64 a1] w fun e w'=>e = .returned (.int .i64 r)∧Below w.heap.size w w':=by
 have S:=St.init (w:=w) (dc (Kd.heap_int .i64) (atI .i64) hr0_1 hc0_1 dn)
 clear hr0_1 hc0_1
 have F:=S.fc
 have H:=h;clear h;unfold laws_heldTable.f at H
 replace H:=Option.bind_eq_some_iff.mp H;obtain ⟨t491,A3,H⟩:=H;(try dsimp only at H)
 replace H:=sp_ H;rcases H with ⟨c4,H⟩ | ⟨c4,H⟩
 · skip
   obtain rfl:=Option.some.inj H
   go_enter Try.func41,Try.ntmps41
   go_wp2_with (first | ((with_reducible refine gd 2 rfl (L ?_));refine bo 2 (.agg #[_,_]) S ?_;clear S F;intro gb490 W S;have F:=S.fc) | ((with_reducible refine gate_callee (f:=24) rfl (L ?_));refine cl (some 8) Try.func24 (laws_heldIntS.calls _ _ _ _ _ _ _ S.c S.n A3) (hargs:=by (simp only [ma_,mb_,mc_,F] <;> rfl)) (h:=?_);rintro e W ⟨rfl,hb⟩;refine ⟨_,rfl,?_⟩;replace S:=S.gw hb;clear F hb;have F:=S.fc))
   go_ret
   exact ⟨(by first | rfl | (simp [e0_,e1_] <;> rfl) | (simp [*,e0_,e1_] <;> rfl)),S.below⟩
 · skip
   obtain rfl:=Option.some.inj H
   go_enter Try.func41,Try.ntmps41
   go_wp2_with (first | ((with_reducible refine gd 2 rfl (L ?_));refine bo 2 (.agg #[_,_]) S ?_;clear S F;intro gb490 W S;have F:=S.fc) | ((with_reducible refine gate_callee (f:=24) rfl (L ?_));refine cl (some 8) Try.func24 (laws_heldIntS.calls _ _ _ _ _ _ _ S.c S.n A3) (hargs:=by (simp only [ma_,mb_,mc_,F] <;> rfl)) (h:=?_);rintro e W ⟨rfl,hb⟩;refine ⟨_,rfl,?_⟩;replace S:=S.gw hb;clear F hb;have F:=S.fc))
   go_ret
   exact ⟨(by first | rfl | (simp [e0_,e1_] <;> rfl) | (simp [*,e0_,e1_] <;> rfl)),S.below⟩

/-! ### laws_FnExactTableByFlips: function 7 -/
mutual
def laws_FnExactTableByFlips.j0:Nat→Int→List (List Int)→Int→Bool→List (List Int)→Bool→Bool→Int→Int→List (S106)→Int→List Int→Int→Int→List (S88)→Int→List Int→Option (Bool)
  | 0,_,_,_,_,_,_,_,_,_,_,_,_,_,_,_,_,_=>none
  | k + 1,x1,x2,x3,x11,x13,x15,x61,x493000,x493001,x493002,x509000,x509001,x515000,x515001,x515002,x524000,x524001=>if x61 = true then (some false) else ((laws_toBoard.f k x493000 x493001 x493002).bind fun bt525=>((laws_eqBoard.f k x515000 x515001 x515002 bt525.1 bt525.2.1 bt525.2.2).bind fun t530=>(if t530 = true then ((laws_toIntSS.f k x2).bind fun t531=>((laws_eqIntSS.f k x13 t531).bind fun t534=>(if t534 = true then ((laws_markBoard.f k x515000 x515001 x515002 1).bind fun bt535=>((laws_markIntSS.f k x13 bt535.1).bind fun t537=>(if t537 < 0 then (laws_FnExactTableByFlips.j1 k x1 x2 x3 x11 true x493000 x493001 x493002 x509000 x509001 x524000 x524001) else ((laws_eqTable.f k x524000 x524001 x509000 x509001).bind fun t538=>(if t538 = true then (laws_FnExactTableByFlips.j1 k x1 x2 x3 x11 (x15 != x11) x493000 x493001 x493002 x509000 x509001 x524000 x524001) else (laws_FnExactTableByFlips.j1 k x1 x2 x3 x11 true x493000 x493001 x493002 x509000 x509001 x524000 x524001)))))) else (some false)))) else (some false))))
def laws_FnExactTableByFlips.j1:Nat→Int→List (List Int)→Int→Bool→Bool→Int→Int→List (S106)→Int→List Int→Int→List Int→Option (Bool)
  | 0,_,_,_,_,_,_,_,_,_,_,_,_=>none
  | k + 1,x1,x2,x3,x11,x90,x493000,x493001,x493002,x509000,x509001,x524000,x524001=>if x90 = true then (some false) else ((laws_markTable.f k x524000 x524001 1).bind fun bt539=>((laws_heldTable.f k x524000 bt539.2 1).bind fun t541=>(if t541 < 0 then (some false) else (if t541 = bt539.1 then ((laws_toBoard.f k x493000 x493001 x493002).bind fun bt542=>((laws_toIntSS.f k x2).bind fun t547=>((impl_TableByFlips.f k bt542.1 bt542.2.1 bt542.2.2 x1 t547 x3).bind fun bt550=>((laws_eqTable.f k bt550.1 bt550.2.1 x509000 x509001).bind fun t556=>(if t556 = true then (laws_FnExactTableByFlips.j2 k bt539.1 (bt550.2.2 != x11) x524000 bt539.2) else (laws_FnExactTableByFlips.j2 k bt539.1 true x524000 bt539.2)))))) else (some false)))))
def laws_FnExactTableByFlips.j2:Nat→Int→Bool→Int→List Int→Option (Bool)
  | 0,_,_,_,_=>none
  | k + 1,x17,x120,x524000,x524001=>if x120 = true then (some false) else ((laws_heldTable.f k x524000 x524001 1).bind fun t557=>(if t557 < 0 then (some false) else (if t557 = x17 then (some true) else (some false))))
end
def laws_FnExactTableByFlips.f (k:Nat) (a0_0:Int) (a0_1:Int) (l0_2:List (S106)) (a1:Int) (l2:List (List Int)) (a3:Int):Option (Bool):=(laws_szBoard.f a0_0 a0_1 l0_2 1048576).bind fun t493=>(if t493 < 0 then (some true) else ((laws_szIntSS.f k l2 t493).bind fun t494=>(if t494 < 0 then (some true) else ((laws_toBoard.f k a0_0 a0_1 l0_2).bind fun bt495=>((laws_toIntSS.f k l2).bind fun t500=>((spec_TableByFlips.f k bt495.1 bt495.2.1 bt495.2.2 a1 t500 a3).bind fun bt503=>((laws_toBoard.f k a0_0 a0_1 l0_2).bind fun bt509=>((laws_toIntSS.f k l2).bind fun t515=>((impl_TableByFlips.f k bt509.1 bt509.2.1 bt509.2.2 a1 t515 a3).bind fun bt518=>((laws_eqTable.f k bt518.1 bt518.2.1 bt503.1 bt503.2.1).bind fun t524=>(if t524 = true then (laws_FnExactTableByFlips.j0 k a1 l2 a3 bt503.2.2 t515 bt518.2.2 (bt518.2.2 != bt503.2.2) a0_0 a0_1 l0_2 bt503.1 bt503.2.1 bt509.1 bt509.2.1 bt509.2.2 bt518.1 bt518.2.1) else (laws_FnExactTableByFlips.j0 k a1 l2 a3 bt503.2.2 t515 bt518.2.2 true a0_0 a0_1 l0_2 bt503.1 bt503.2.1 bt509.1 bt509.2.1 bt509.2.2 bt518.1 bt518.2.1))))))))))))
theorem laws_FnExactTableByFlips.calls (k:Nat) (a0_0:Int) (a0_1:Int) (A0_2:Option Addr) (c0_2:Nat) (l0_2:List (S106)) (a1:Int) (A2:Option Addr) (c2:Nat) (l2:List (List Int)) (a3:Int) (r:Bool) (w:World) (hr0_2:Kd.C k106 w A0_2 l0_2.length l0_2) (hc0_2:l0_2.length ≤ c0_2) (hr2:Kd.C (Kd.slice 3 (Kd.int .i64)) w A2 l2.length l2) (hc2:l2.length ≤ c2) (hrt:r = true) (h:laws_FnExactTableByFlips.f k a0_0 a0_1 l0_2 a1 l2 a3 = some r) :
    Calls Try.prog 7 #[.agg #[.int .i64 a0_0,.int .i64 a0_1,.slice A0_2 l0_2.length c0_2],.int .i64 a1,.slice A2 l2.length c2,.int .i64 a3] w fun e w'=>e = .returned (.bool r)∧Below w.heap.size w w':=by
 have S:=St.init (w:=w) (dc k106_heap at106 hr0_2 hc0_2 (dc (Kd.heap_slice 3 (Kd.heap_int .i64)) (atU (d:=Kd.slice 3 (Kd.int .i64))) hr2 hc2 dn))
 have HRT:=Aside0.mk hrt;clear hrt
 clear hr0_2 hc0_2 hr2 hc2
 have F:=S.fc
 have H:=h;clear h;unfold laws_FnExactTableByFlips.f at H
 replace H:=Option.bind_eq_some_iff.mp H;obtain ⟨t493,A5,H⟩:=H;(try dsimp only at H)
 replace H:=sp_ H;rcases H with ⟨c6,H⟩ | ⟨c6,H⟩
 · skip
   obtain rfl:=Option.some.inj H
   go_enter Try.func7,Try.ntmps7
   go_wp2_with (first | ((with_reducible refine gd 4 rfl (L ?_));refine bo 4 (.agg #[_,_,_]) S ?_;clear S F;intro gb492 W S;have F:=S.fc) | ((with_reducible refine gate_callee (f:=29) rfl (L ?_));refine cl (some 23) Try.func29 (laws_szBoard.calls _ _ _ _ _ _ _ _ S.c S.n A5) (hargs:=by (simp only [ma_,mb_,mc_,F] <;> rfl)) (h:=?_);rintro e W ⟨rfl,hb⟩;refine ⟨_,rfl,?_⟩;replace S:=S.go hb;clear F hb;have F:=S.fc) | ((with_reducible refine gs (t:=46) rfl (L ?_));(first | refine sb (.agg #[_,_]) S sz46 ?_ | refine ro (.agg #[_,_]) S sz46 ?_ (ho:=rfl) (hx:=rfl) (hy:=rfl));(clear S F;intro W S;have F:=S.fc)) | ((with_reducible refine gs (t:=50) rfl (L ?_));(first | refine sb (.agg #[_,_,_]) S sz50 ?_ | refine ro (.agg #[_,_,_]) S sz50 ?_ (ho:=rfl) (hx:=rfl) (hy:=rfl));(clear S F;intro W S;have F:=S.fc)))
   go_ret
   exact ⟨(by first | rfl | (simp [e0_,e1_] <;> rfl) | (simp [*,e0_,e1_] <;> rfl)),S.below⟩
 · skip
   replace H:=Option.bind_eq_some_iff.mp H;obtain ⟨t494,A10,H⟩:=H;(try dsimp only at H)
   replace H:=sp_ H;rcases H with ⟨c11,H⟩ | ⟨c11,H⟩
   · skip
     obtain rfl:=Option.some.inj H
     go_enter Try.func7,Try.ntmps7
     go_wp2_with (first | ((with_reducible refine gd 4 rfl (L ?_));refine bo 4 (.agg #[_,_,_]) S ?_;clear S F;intro gb492 W S;have F:=S.fc) | ((with_reducible refine gate_callee (f:=29) rfl (L ?_));refine cl (some 23) Try.func29 (laws_szBoard.calls _ _ _ _ _ _ _ _ S.c S.n A5) (hargs:=by (simp only [ma_,mb_,mc_,F] <;> rfl)) (h:=?_);rintro e W ⟨rfl,hb⟩;refine ⟨_,rfl,?_⟩;replace S:=S.go hb;clear F hb;have F:=S.fc) | ((with_reducible refine gate_callee (f:=30) rfl (L ?_));refine cl (some 28) Try.func30 (laws_szIntSS.calls _ _ _ _ _ _ _ S.c S.n A10) (hargs:=by (simp only [ma_,mb_,mc_,F] <;> rfl)) (h:=?_);rintro e W ⟨rfl,hb⟩;refine ⟨_,rfl,?_⟩;replace S:=S.gw hb;clear F hb;have F:=S.fc) | ((with_reducible refine gs (t:=46) rfl (L ?_));(first | refine sb (.agg #[_,_]) S sz46 ?_ | refine ro (.agg #[_,_]) S sz46 ?_ (ho:=rfl) (hx:=rfl) (hy:=rfl));(clear S F;intro W S;have F:=S.fc)) | ((with_reducible refine gs (t:=50) rfl (L ?_));(first | refine sb (.agg #[_,_,_]) S sz50 ?_ | refine ro (.agg #[_,_,_]) S sz50 ?_ (ho:=rfl) (hx:=rfl) (hy:=rfl));(clear S F;intro W S;have F:=S.fc)))
     go_ret
     exact ⟨(by first | rfl | (simp [e0_,e1_] <;> rfl) | (simp [*,e0_,e1_] <;> rfl)),S.below⟩
   · skip
     replace H:=Option.bind_eq_some_iff.mp H;obtain ⟨⟨t495,t496,t497⟩,A15,H⟩:=H;(try dsimp only at H)
     replace H:=Option.bind_eq_some_iff.mp H;obtain ⟨t500,A16,H⟩:=H;(try dsimp only at H)
     replace H:=Option.bind_eq_some_iff.mp H;obtain ⟨⟨t503,t504,t507⟩,A17,H⟩:=H;(try dsimp only at H)
     replace H:=Option.bind_eq_some_iff.mp H;obtain ⟨⟨t509,t510,t511⟩,A18,H⟩:=H;(try dsimp only at H)
     replace H:=Option.bind_eq_some_iff.mp H;obtain ⟨t515,A19,H⟩:=H;(try dsimp only at H)
     replace H:=Option.bind_eq_some_iff.mp H;obtain ⟨⟨t518,t519,t522⟩,A20,H⟩:=H;(try dsimp only at H)
     go_enter Try.func7,Try.ntmps7
     go_upto_region 12 with (first | ((with_reducible refine gd 4 rfl (L ?_));refine bo 4 (.agg #[_,_,_]) S ?_;clear S F;intro gb492 W S;have F:=S.fc) | ((with_reducible refine gate_callee (f:=29) rfl (L ?_));refine cl (some 23) Try.func29 (laws_szBoard.calls _ _ _ _ _ _ _ _ S.c S.n A5) (hargs:=by (simp only [ma_,mb_,mc_,F] <;> rfl)) (h:=?_);rintro e W ⟨rfl,hb⟩;refine ⟨_,rfl,?_⟩;replace S:=S.go hb;clear F hb;have F:=S.fc) | ((with_reducible refine gate_callee (f:=30) rfl (L ?_));refine cl (some 28) Try.func30 (laws_szIntSS.calls _ _ _ _ _ _ _ S.c S.n A10) (hargs:=by (simp only [ma_,mb_,mc_,F] <;> rfl)) (h:=?_);rintro e W ⟨rfl,hb⟩;refine ⟨_,rfl,?_⟩;replace S:=S.gw hb;clear F hb;have F:=S.fc) | ((with_reducible refine gate_callee (f:=32) rfl (L ?_));refine cl (some 33) Try.func32 (laws_toBoard.calls _ _ _ _ _ _ _ _ _ _ S.c S.n A15) (hargs:=by (simp only [ma_,mb_,mc_,F] <;> rfl)) (h:=?_);rintro e W ⟨v498,rfl,ho0,hb⟩;refine ⟨_,rfl,?_⟩;replace S:=S.got at88 hb ho0;obtain ⟨At497,ct497,rfl,S⟩:=S;clear F hb ho0;have F:=S.fc) | ((with_reducible refine gate_callee (f:=33) rfl (L ?_));refine cl (some 36) Try.func33 (laws_toIntSS.calls _ _ _ _ _ _ S.c S.n A16) (hargs:=by (simp only [ma_,mb_,mc_,F] <;> rfl)) (h:=?_);rintro e W ⟨v501,rfl,ho0,hb⟩;refine ⟨_,rfl,?_⟩;replace S:=S.gotS hb ho0;obtain ⟨At500,ct500,rfl,S⟩:=S;clear F hb ho0;have F:=S.fc) | ((with_reducible refine gate_callee (f:=31) rfl (L ?_));refine cl (some 38) Try.func31 (spec_TableByFlips.calls _ _ _ _ _ _ _ _ _ _ _ _ _ _ _ S.c S.n S.c S.n A17) (hargs:=by (simp only [ma_,mb_,mc_,F] <;> rfl)) (h:=?_);rintro e W ⟨v505,rfl,ho0,hb⟩;refine ⟨_,rfl,?_⟩;replace S:=S.got (atI .i64) hb ho0;obtain ⟨At504,ct504,rfl,S⟩:=S;clear F hb ho0;have F:=S.fc) | ((with_reducible refine gd 10 rfl (L ?_));refine al 10 S zi46 ?_;clear S F;intro gb508 W S;have F:=S.fc) | ((with_reducible refine gate_callee (f:=32) rfl (L ?_));refine cl (some 42) Try.func32 (laws_toBoard.calls _ _ _ _ _ _ _ _ _ _ S.c S.n A18) (hargs:=by (simp only [ma_,mb_,mc_,F] <;> rfl)) (h:=?_);rintro e W ⟨v512,rfl,ho0,hb⟩;refine ⟨_,rfl,?_⟩;replace S:=S.got at88 hb ho0;obtain ⟨At511,ct511,rfl,S⟩:=S;clear F hb ho0;have F:=S.fc) | ((with_reducible refine gd 12 rfl (L ?_));refine al 12 S zi50 ?_;clear S F;intro gb514 W S;have F:=S.fc) | ((with_reducible refine gate_callee (f:=33) rfl (L ?_));refine cl (some 44) Try.func33 (laws_toIntSS.calls _ _ _ _ _ _ S.c S.n A19) (hargs:=by (simp only [ma_,mb_,mc_,F] <;> rfl)) (h:=?_);rintro e W ⟨v516,rfl,ho0,hb⟩;refine ⟨_,rfl,?_⟩;replace S:=S.gotS hb ho0;obtain ⟨At515,ct515,rfl,S⟩:=S;clear F hb ho0;have F:=S.fc) | ((with_reducible refine gate_callee (f:=34) rfl (L ?_));refine cl (some 50) Try.func34 (impl_TableByFlips.calls _ _ _ _ _ _ _ _ _ _ _ _ _ _ _ S.c S.n S.c S.n A20) (hargs:=by (simp only [ma_,mb_,mc_,F] <;> rfl)) (h:=?_);rintro e W ⟨v520,rfl,ho0,hb⟩;refine ⟨_,rfl,?_⟩;replace S:=S.got (atI .i64) hb ho0;obtain ⟨At519,ct519,rfl,S⟩:=S;clear F hb ho0;have F:=S.fc) | ((with_reducible refine gd 14 rfl (L ?_));refine al 14 S zi46 ?_;clear S F;intro gb523 W S;have F:=S.fc) | ((with_reducible refine gs (t:=46) rfl (L ?_));(first | refine sb (.agg #[_,_]) S sz46 ?_ | refine ro (.agg #[_,_]) S sz46 ?_ (ho:=rfl) (hx:=rfl) (hy:=rfl));(clear S F;intro W S;have F:=S.fc)) | ((with_reducible refine gs (t:=50) rfl (L ?_));(first | refine sb (.agg #[_,_,_]) S sz50 ?_ | refine ro (.agg #[_,_,_]) S sz50 ?_ (ho:=rfl) (hx:=rfl) (hy:=rfl));(clear S F;intro W S;have F:=S.fc)))
     (try simp only [Act.put,List.setIfInBounds_toArray,List.set_cons_zero,List.set_cons_succ])
     go_cut [61] (fun v61 wc=>∃ (kq:Nat) (x61_20:Bool),v61 = .bool x61_20∧laws_FnExactTableByFlips.j0 kq a1 l2 a3 t507 t515 t522 x61_20 a0_0 a0_1 l0_2 t503 t504 t509 t510 t511 t518 t519 = some r∧kq ≤ k∧St w w (fun _=>False) [bor at106 A0_2 c0_2 l0_2,bor (atU (d:=Kd.slice 3 (Kd.int .i64))) A2 c2 l2] wc  [box gb523 46 [.int .i64 t518,.slice At519 t519.length ct519],row (atI .i64) 3 At519 t519.length ct519 t519,srow (Kd.slice 3 (Kd.int .i64)) 23 At515 t515.length ct515 t515,box gb514 50 [.int .i64 t509,.int .i64 t510,.slice At511 t511.length ct511],row at88 88 At511 t511.length ct511 t511,box gb508 46 [.int .i64 t503,.slice At504 t504.length ct504],row (atI .i64) 3 At504 t504.length ct504 t504,box gb492 41 [.int .i64 a0_0,.int .i64 a0_1,.slice A0_2 l0_2.length c0_2]])
     case first =>
      replace H:=Option.bind_eq_some_iff.mp H;obtain ⟨t524,A52,H⟩:=H;(try dsimp only at H)
      replace H:=sp_ H;rcases H with ⟨c53,H⟩ | ⟨c53,H⟩
      · skip
        subst c53
        go_wp2_with (first | ((with_reducible refine gate_callee (f:=35) rfl (L ?_));refine cl (some 55) Try.func35 (laws_eqTable.calls _ _ _ _ _ _ _ _ _ _ _ S.c S.n S.c S.n A52) (hargs:=by (simp only [ma_,mb_,mc_,F] <;> rfl)) (h:=?_);rintro e W ⟨rfl,hb⟩;refine ⟨_,rfl,?_⟩;replace S:=S.go hb;clear F hb;have F:=S.fc) | ((with_reducible refine gs (t:=46) rfl (L ?_));(first | refine sb (.agg #[_,_]) S sz46 ?_ | refine ro (.agg #[_,_]) S sz46 ?_ (ho:=rfl) (hx:=rfl) (hy:=rfl));(clear S F;intro W S;have F:=S.fc)) | ((with_reducible refine gs (t:=50) rfl (L ?_));(first | refine sb (.agg #[_,_,_]) S sz50 ?_ | refine ro (.agg #[_,_,_]) S sz50 ?_ (ho:=rfl) (hx:=rfl) (hy:=rfl));(clear S F;intro W S;have F:=S.fc)))
        go_meet
        case rel=>exact ⟨_,(t522 != t507),(by first | rfl | (simp;done) | (simp [*];done) | (rw [w6_ (by omega) (by omega)])),H,(by first | omega | exact Nat.le_refl _),(S.ms [1,1,1,1,1,1,1,0,0])⟩
      · skip
        replace c53:=cbf c53;subst c53
        go_wp2_with (first | ((with_reducible refine gate_callee (f:=35) rfl (L ?_));refine cl (some 55) Try.func35 (laws_eqTable.calls _ _ _ _ _ _ _ _ _ _ _ S.c S.n S.c S.n A52) (hargs:=by (simp only [ma_,mb_,mc_,F] <;> rfl)) (h:=?_);rintro e W ⟨rfl,hb⟩;refine ⟨_,rfl,?_⟩;replace S:=S.go hb;clear F hb;have F:=S.fc) | ((with_reducible refine gs (t:=46) rfl (L ?_));(first | refine sb (.agg #[_,_]) S sz46 ?_ | refine ro (.agg #[_,_]) S sz46 ?_ (ho:=rfl) (hx:=rfl) (hy:=rfl));(clear S F;intro W S;have F:=S.fc)) | ((with_reducible refine gs (t:=50) rfl (L ?_));(first | refine sb (.agg #[_,_,_]) S sz50 ?_ | refine ro (.agg #[_,_,_]) S sz50 ?_ (ho:=rfl) (hx:=rfl) (hy:=rfl));(clear S F;intro W S;have F:=S.fc)))
        go_meet
        case rel=>exact ⟨_,true,(by first | rfl | (simp;done) | (simp [*];done) | (rw [w6_ (by omega) (by omega)])),H,(by first | omega | exact Nat.le_refl _),(S.ms [1,1,1,1,1,1,1,0,0])⟩
     case rest =>
      clear H S F
      obtain ⟨kq,x61_20,rfl,HA,HJ20,S⟩:=hcut
      have F:=S.fc
      cases kq with
      | zero=>exact absurd HA (by simp [laws_FnExactTableByFlips.j0])
      | succ kj20 =>
       have H:=HA;clear HA;simp only [laws_FnExactTableByFlips.j0,F] at H
       replace H:=sp_ H;rcases H with ⟨c70,H⟩ | ⟨c70,H⟩
       · skip
         subst c70
         exact absurd (H.trans (congrArg some HRT.out)) (by simp)
       · skip
         replace c70:=cbf c70;subst c70
         replace H:=Option.bind_eq_some_iff.mp H;obtain ⟨⟨t525,t526,t527⟩,A71,H⟩:=H;(try dsimp only at H)
         replace H:=Option.bind_eq_some_iff.mp H;obtain ⟨t530,A72,H⟩:=H;(try dsimp only at H)
         replace H:=sp_ H;rcases H with ⟨c73,H⟩ | ⟨c73,H⟩
         · skip
           subst c73
           replace H:=Option.bind_eq_some_iff.mp H;obtain ⟨t531,A74,H⟩:=H;(try dsimp only at H)
           replace H:=Option.bind_eq_some_iff.mp H;obtain ⟨t534,A75,H⟩:=H;(try dsimp only at H)
           replace H:=sp_ H;rcases H with ⟨c76,H⟩ | ⟨c76,H⟩
           · skip
             subst c76
             replace H:=Option.bind_eq_some_iff.mp H;obtain ⟨⟨t535,t536⟩,A77,H⟩:=H;(try dsimp only at H)
             replace H:=Option.bind_eq_some_iff.mp H;obtain ⟨t537,A78,H⟩:=H;(try dsimp only at H)
             go_wp2_with (first | ((with_reducible refine gs (t:=46) rfl (L ?_));(first | refine sb (.agg #[_,_]) S sz46 ?_ | refine ro (.agg #[_,_]) S sz46 ?_ (ho:=rfl) (hx:=rfl) (hy:=rfl));(clear S F;intro W S;have F:=S.fc)) | ((with_reducible refine gs (t:=50) rfl (L ?_));(first | refine sb (.agg #[_,_,_]) S sz50 ?_ | refine ro (.agg #[_,_,_]) S sz50 ?_ (ho:=rfl) (hx:=rfl) (hy:=rfl));(clear S F;intro W S;have F:=S.fc)))
             refine rq S [(1,0),(1,1),(2,2),(2,3),(0,4)] [] (h:=?_);clear S F;intro W S;have S0:=S;have F:=S.fc
             repeat (first | (refine q0 (h:=?_)) | (refine q1 S0 (h:=?_)) | (refine q0n (h:=?_)) | (refine q1n S0 (h:=?_)))
             refine lk2 (by rfl) (by exact (Eq.refl true)) ?_;refine cl (some 64) Try.func32 (laws_toBoard.calls _ _ _ _ _ _ _ _ _ _ S.c S.n A71) (hargs:=by (simp only [ma_,mb_,mc_,F] <;> rfl)) (h:=?_);rintro e W ⟨v528,rfl,ho0,hb⟩;refine ⟨_,rfl,?_⟩;replace S:=S.got at88 hb ho0;obtain ⟨At527,ct527,rfl,S⟩:=S;clear F hb ho0;have F:=S.fc
             clear S0;have S0:=S.tl;refine ⟨S0,?_⟩
             refine lk2 (by rfl) (by exact (Eq.refl true)) ?_;refine cl (some 65) Try.func36 (laws_eqBoard.calls _ _ _ _ _ _ _ _ _ _ _ _ _ S.c S.n S.c S.n A72) (hargs:=by (simp only [ma_,mb_,mc_,F] <;> rfl)) (h:=?_);rintro e W ⟨rfl,hb⟩;refine ⟨_,rfl,?_⟩;replace S:=S.go hb;clear F hb;have F:=S.fc
             clear S0;have S0:=S.tl;refine ⟨S0,?_⟩
             repeat (first | (refine q0 (h:=?_)) | (refine q1 S0 (h:=?_)) | (refine q0n (h:=?_)) | (refine q1n S0 (h:=?_)))
             refine oz ?_
             try clear S0
             go_upto_region 21 with (first | ((with_reducible refine gate_callee (f:=33) rfl (L ?_));refine cl (some 69) Try.func33 (laws_toIntSS.calls _ _ _ _ _ _ S.c S.n A74) (hargs:=by (simp only [ma_,mb_,mc_,F] <;> rfl)) (h:=?_);rintro e W ⟨v532,rfl,ho0,hb⟩;refine ⟨_,rfl,?_⟩;replace S:=S.gotS hb ho0;obtain ⟨At531,ct531,rfl,S⟩:=S;clear F hb ho0;have F:=S.fc) | ((with_reducible refine gate_callee (f:=37) rfl (L ?_));refine cl (some 70) Try.func37 (laws_eqIntSS.calls _ _ _ _ _ _ _ _ _ S.c S.n S.c S.n A75) (hargs:=by (simp only [ma_,mb_,mc_,F] <;> rfl)) (h:=?_);rintro e W ⟨rfl,hb⟩;refine ⟨_,rfl,?_⟩;replace S:=S.gw hb;clear F hb;have F:=S.fc) | ((with_reducible refine gate_callee (f:=38) rfl (L ?_));obtain ⟨ok_,k_⟩:=S.lend (A:=At511);refine cl (some 74) Try.func38 (laws_markBoard.calls _ _ _ ok_ _ _ _ _ _ _ _ k_.below k_.own A77) (hargs:=by (simp only [ma_,mb_,mc_,F] <;> rfl)) (h:=?_);rintro e W ⟨rfl,hy,hb,hk⟩;refine ⟨_,rfl,?_⟩;clear S F;have S:=k_.back _ _ hy hb hk;clear k_ hy hb hk ok_;have F:=S.fc) | ((with_reducible refine gate_callee (f:=39) rfl (L ?_));obtain ⟨ok_,hb0_,ho_,bk_⟩:=S.lendS (A:=At515);refine cl (some 77) Try.func39 (laws_markIntSS.calls _ ok_ _ _ _ _ _ _ hb0_ ho_ A78) (hargs:=by (simp only [ma_,mb_,mc_,F] <;> rfl)) (h:=?_);rintro e W ⟨rfl,hb,hk⟩;refine ⟨_,rfl,?_⟩;clear S F;have S:=bk_ W hb hk;clear bk_ hb0_ ho_ hb hk ok_;have F:=S.fc) | ((with_reducible refine gs (t:=46) rfl (L ?_));(first | refine sb (.agg #[_,_]) S sz46 ?_ | refine ro (.agg #[_,_]) S sz46 ?_ (ho:=rfl) (hx:=rfl) (hy:=rfl));(clear S F;intro W S;have F:=S.fc)) | ((with_reducible refine gs (t:=50) rfl (L ?_));(first | refine sb (.agg #[_,_,_]) S sz50 ?_ | refine ro (.agg #[_,_,_]) S sz50 ?_ (ho:=rfl) (hx:=rfl) (hy:=rfl));(clear S F;intro W S;have F:=S.fc)))
             (try simp only [Act.put,List.setIfInBounds_toArray,List.set_cons_zero,List.set_cons_succ])
             go_cut [90] (fun v90 wc=>∃ (kq:Nat) (x90_78:Bool),v90 = .bool x90_78∧laws_FnExactTableByFlips.j1 kq a1 l2 a3 t507 x90_78 a0_0 a0_1 l0_2 t503 t504 t518 t519 = some r∧kq ≤ kj20∧St w w (fun _=>False) [bor at106 A0_2 c0_2 l0_2,bor (atU (d:=Kd.slice 3 (Kd.int .i64))) A2 c2 l2] wc  [box gb523 46 [.int .i64 t518,.slice At519 t519.length ct519],row (atI .i64) 3 At519 t519.length ct519 t519,box gb514 50 [.int .i64 t509,.int .i64 t510,.slice At511 t511.length ct511],row at88 88 At511 t511.length ct511 t536,box gb508 46 [.int .i64 t503,.slice At504 t504.length ct504],row (atI .i64) 3 At504 t504.length ct504 t504,box gb492 41 [.int .i64 a0_0,.int .i64 a0_1,.slice A0_2 l0_2.length c0_2]])
             case first =>
              replace H:=sp_ H;rcases H with ⟨c91,H⟩ | ⟨c91,H⟩
              · skip
                go_wp2_with (first | ((with_reducible refine gs (t:=46) rfl (L ?_));(first | refine sb (.agg #[_,_]) S sz46 ?_ | refine ro (.agg #[_,_]) S sz46 ?_ (ho:=rfl) (hx:=rfl) (hy:=rfl));(clear S F;intro W S;have F:=S.fc)) | ((with_reducible refine gs (t:=50) rfl (L ?_));(first | refine sb (.agg #[_,_,_]) S sz50 ?_ | refine ro (.agg #[_,_,_]) S sz50 ?_ (ho:=rfl) (hx:=rfl) (hy:=rfl));(clear S F;intro W S;have F:=S.fc)))
                go_meet
                case rel=>exact ⟨_,true,(by first | rfl | (simp;done) | (simp [*];done) | (rw [w6_ (by omega) (by omega)])),(by first | exact H | (simp only [F];exact H)),(by first | omega | exact Nat.le_refl _),(S.ms [0,0,1,1,0])⟩
              · skip
                replace H:=Option.bind_eq_some_iff.mp H;obtain ⟨t538,A92,H⟩:=H;(try dsimp only at H)
                replace H:=sp_ H;rcases H with ⟨c93,H⟩ | ⟨c93,H⟩
                · skip
                  subst c93
                  go_wp2_with (first | (go_at_call 35;(try simp only [F]);refine (laws_eqTable.calls _ _ _ _ _ _ _ _ _ _ _ S.c S.n S.c S.n A92).mono ?_;rintro e W ⟨rfl,hb⟩;replace S:=S.go hb;clear F hb;have F:=S.fc) | ((with_reducible refine gs (t:=46) rfl (L ?_));(first | refine sb (.agg #[_,_]) S sz46 ?_ | refine ro (.agg #[_,_]) S sz46 ?_ (ho:=rfl) (hx:=rfl) (hy:=rfl));(clear S F;intro W S;have F:=S.fc)) | ((with_reducible refine gs (t:=50) rfl (L ?_));(first | refine sb (.agg #[_,_,_]) S sz50 ?_ | refine ro (.agg #[_,_,_]) S sz50 ?_ (ho:=rfl) (hx:=rfl) (hy:=rfl));(clear S F;intro W S;have F:=S.fc)))
                  go_meet
                  case rel=>exact ⟨_,(t522 != t507),(by first | rfl | (simp;done) | (simp [*];done) | (rw [w6_ (by omega) (by omega)])),(by first | exact H | (simp only [F];exact H)),(by first | omega | exact Nat.le_refl _),(S.ms [0,0,1,1,0])⟩
                · skip
                  replace c93:=cbf c93;subst c93
                  go_wp2_with (first | (go_at_call 35;(try simp only [F]);refine (laws_eqTable.calls _ _ _ _ _ _ _ _ _ _ _ S.c S.n S.c S.n A92).mono ?_;rintro e W ⟨rfl,hb⟩;replace S:=S.go hb;clear F hb;have F:=S.fc) | ((with_reducible refine gs (t:=46) rfl (L ?_));(first | refine sb (.agg #[_,_]) S sz46 ?_ | refine ro (.agg #[_,_]) S sz46 ?_ (ho:=rfl) (hx:=rfl) (hy:=rfl));(clear S F;intro W S;have F:=S.fc)) | ((with_reducible refine gs (t:=50) rfl (L ?_));(first | refine sb (.agg #[_,_,_]) S sz50 ?_ | refine ro (.agg #[_,_,_]) S sz50 ?_ (ho:=rfl) (hx:=rfl) (hy:=rfl));(clear S F;intro W S;have F:=S.fc)))
                  go_meet
                  case rel=>exact ⟨_,true,(by first | rfl | (simp;done) | (simp [*];done) | (rw [w6_ (by omega) (by omega)])),(by first | exact H | (simp only [F];exact H)),(by first | omega | exact Nat.le_refl _),(S.ms [0,0,1,1,0])⟩
             case rest =>
              clear H S F
              obtain ⟨kq,x90_78,rfl,HA,HJ78,S⟩:=hcut
              have F:=S.fc
              cases kq with
              | zero=>exact absurd HA (by simp [laws_FnExactTableByFlips.j1])
              | succ kj78 =>
               have H:=HA;clear HA;simp only [laws_FnExactTableByFlips.j1,F] at H
               replace H:=sp_ H;rcases H with ⟨c110,H⟩ | ⟨c110,H⟩
               · skip
                 subst c110
                 exact absurd (H.trans (congrArg some HRT.out)) (by simp)
               · skip
                 replace c110:=cbf c110;subst c110
                 replace H:=Option.bind_eq_some_iff.mp H;obtain ⟨⟨t539,t540⟩,A111,H⟩:=H;(try dsimp only at H)
                 replace H:=Option.bind_eq_some_iff.mp H;obtain ⟨t541,A112,H⟩:=H;(try dsimp only at H)
                 replace H:=sp_ H;rcases H with ⟨c113,H⟩ | ⟨c113,H⟩
                 · skip
                   exact absurd (H.trans (congrArg some HRT.out)) (by simp)
                 · skip
                   replace H:=sp_ H;rcases H with ⟨c114,H⟩ | ⟨c114,H⟩
                   · skip
                     replace c114:=ceq c114
                     replace H:=Option.bind_eq_some_iff.mp H;obtain ⟨⟨t542,t543,t544⟩,A115,H⟩:=H;(try dsimp only at H)
                     replace H:=Option.bind_eq_some_iff.mp H;obtain ⟨t547,A116,H⟩:=H;(try dsimp only at H)
                     replace H:=Option.bind_eq_some_iff.mp H;obtain ⟨⟨t550,t551,t554⟩,A117,H⟩:=H;(try dsimp only at H)
                     go_upto_region 32 with (first | ((with_reducible refine gate_callee (f:=40) rfl (L ?_));obtain ⟨ok_,k_⟩:=S.lend (A:=At519);refine cl (some 93) Try.func40 (laws_markTable.calls _ _ ok_ _ _ _ _ _ _ _ k_.below k_.own A111) (hargs:=by (simp only [ma_,mb_,mc_,F] <;> rfl)) (h:=?_);rintro e W ⟨rfl,hy,hb,hk⟩;refine ⟨_,rfl,?_⟩;clear S F;have S:=k_.back _ _ hy hb hk;clear k_ hy hb hk ok_;have F:=S.fc) | ((with_reducible refine gate_callee (f:=41) rfl (L ?_));refine cl (some 96) Try.func41 (laws_heldTable.calls _ _ _ _ _ _ _ _ S.c S.n A112) (hargs:=by (simp only [ma_,mb_,mc_,F] <;> rfl)) (h:=?_);rintro e W ⟨rfl,hb⟩;refine ⟨_,rfl,?_⟩;replace S:=S.go hb;clear F hb;have F:=S.fc) | ((with_reducible refine gate_callee (f:=32) rfl (L ?_));refine cl (some 104) Try.func32 (laws_toBoard.calls _ _ _ _ _ _ _ _ _ _ S.c S.n A115) (hargs:=by (simp only [ma_,mb_,mc_,F] <;> rfl)) (h:=?_);rintro e W ⟨v545,rfl,ho0,hb⟩;refine ⟨_,rfl,?_⟩;replace S:=S.got at88 hb ho0;obtain ⟨At544,ct544,rfl,S⟩:=S;clear F hb ho0;have F:=S.fc) | ((with_reducible refine gate_callee (f:=33) rfl (L ?_));refine cl (some 107) Try.func33 (laws_toIntSS.calls _ _ _ _ _ _ S.c S.n A116) (hargs:=by (simp only [ma_,mb_,mc_,F] <;> rfl)) (h:=?_);rintro e W ⟨v548,rfl,ho0,hb⟩;refine ⟨_,rfl,?_⟩;replace S:=S.gotS hb ho0;obtain ⟨At547,ct547,rfl,S⟩:=S;clear F hb ho0;have F:=S.fc) | ((with_reducible refine gate_callee (f:=34) rfl (L ?_));refine cl (some 109) Try.func34 (impl_TableByFlips.calls _ _ _ _ _ _ _ _ _ _ _ _ _ _ _ S.c S.n S.c S.n A117) (hargs:=by (simp only [ma_,mb_,mc_,F] <;> rfl)) (h:=?_);rintro e W ⟨v552,rfl,ho0,hb⟩;refine ⟨_,rfl,?_⟩;replace S:=S.got (atI .i64) hb ho0;obtain ⟨At551,ct551,rfl,S⟩:=S;clear F hb ho0;have F:=S.fc) | ((with_reducible refine gd 19 rfl (L ?_));refine al 19 S zi46 ?_;clear S F;intro gb555 W S;have F:=S.fc) | ((with_reducible refine gs (t:=46) rfl (L ?_));(first | refine sb (.agg #[_,_]) S sz46 ?_ | refine ro (.agg #[_,_]) S sz46 ?_ (ho:=rfl) (hx:=rfl) (hy:=rfl));(clear S F;intro W S;have F:=S.fc)) | ((with_reducible refine gs (t:=50) rfl (L ?_));(first | refine sb (.agg #[_,_,_]) S sz50 ?_ | refine ro (.agg #[_,_,_]) S sz50 ?_ (ho:=rfl) (hx:=rfl) (hy:=rfl));(clear S F;intro W S;have F:=S.fc)))
                     (try simp only [Act.put,List.setIfInBounds_toArray,List.set_cons_zero,List.set_cons_succ])
                     go_cut [120] (fun v120 wc=>∃ (kq:Nat) (x120_117:Bool),v120 = .bool x120_117∧laws_FnExactTableByFlips.j2 kq t539 x120_117 t518 t540 = some r∧kq ≤ kj78∧St w w (fun _=>False) [bor at106 A0_2 c0_2 l0_2,bor (atU (d:=Kd.slice 3 (Kd.int .i64))) A2 c2 l2] wc  [box gb555 46 [.int .i64 t550,.slice At551 t551.length ct551],row (atI .i64) 3 At551 t551.length ct551 t551,box gb523 46 [.int .i64 t518,.slice At519 t519.length ct519],row (atI .i64) 3 At519 t519.length ct519 t540,box gb514 50 [.int .i64 t509,.int .i64 t510,.slice At511 t511.length ct511],row at88 88 At511 t511.length ct511 t536,box gb508 46 [.int .i64 t503,.slice At504 t504.length ct504],row (atI .i64) 3 At504 t504.length ct504 t504,box gb492 41 [.int .i64 a0_0,.int .i64 a0_1,.slice A0_2 l0_2.length c0_2]])
                     case first =>
                      replace H:=Option.bind_eq_some_iff.mp H;obtain ⟨t556,A141,H⟩:=H;(try dsimp only at H)
                      replace H:=sp_ H;rcases H with ⟨c142,H⟩ | ⟨c142,H⟩
                      · skip
                        subst c142
                        go_wp2_with (first | ((with_reducible refine gate_callee (f:=35) rfl (L ?_));refine cl (some 114) Try.func35 (laws_eqTable.calls _ _ _ _ _ _ _ _ _ _ _ S.c S.n S.c S.n A141) (hargs:=by (simp only [ma_,mb_,mc_,F] <;> rfl)) (h:=?_);rintro e W ⟨rfl,hb⟩;refine ⟨_,rfl,?_⟩;replace S:=S.go hb;clear F hb;have F:=S.fc) | ((with_reducible refine gs (t:=46) rfl (L ?_));(first | refine sb (.agg #[_,_]) S sz46 ?_ | refine ro (.agg #[_,_]) S sz46 ?_ (ho:=rfl) (hx:=rfl) (hy:=rfl));(clear S F;intro W S;have F:=S.fc)) | ((with_reducible refine gs (t:=50) rfl (L ?_));(first | refine sb (.agg #[_,_,_]) S sz50 ?_ | refine ro (.agg #[_,_,_]) S sz50 ?_ (ho:=rfl) (hx:=rfl) (hy:=rfl));(clear S F;intro W S;have F:=S.fc)))
                        go_meet
                        case rel=>exact ⟨_,(t554 != t507),(by first | rfl | (simp;done) | (simp [*];done) | (rw [w6_ (by omega) (by omega)])),(by first | exact H | (simp only [F];exact H)),(by first | omega | exact Nat.le_refl _),(S.ms [1,1,0,0])⟩
                      · skip
                        replace c142:=cbf c142;subst c142
                        go_wp2_with (first | ((with_reducible refine gate_callee (f:=35) rfl (L ?_));refine cl (some 114) Try.func35 (laws_eqTable.calls _ _ _ _ _ _ _ _ _ _ _ S.c S.n S.c S.n A141) (hargs:=by (simp only [ma_,mb_,mc_,F] <;> rfl)) (h:=?_);rintro e W ⟨rfl,hb⟩;refine ⟨_,rfl,?_⟩;replace S:=S.go hb;clear F hb;have F:=S.fc) | ((with_reducible refine gs (t:=46) rfl (L ?_));(first | refine sb (.agg #[_,_]) S sz46 ?_ | refine ro (.agg #[_,_]) S sz46 ?_ (ho:=rfl) (hx:=rfl) (hy:=rfl));(clear S F;intro W S;have F:=S.fc)) | ((with_reducible refine gs (t:=50) rfl (L ?_));(first | refine sb (.agg #[_,_,_]) S sz50 ?_ | refine ro (.agg #[_,_,_]) S sz50 ?_ (ho:=rfl) (hx:=rfl) (hy:=rfl));(clear S F;intro W S;have F:=S.fc)))
                        go_meet
                        case rel=>exact ⟨_,true,(by first | rfl | (simp;done) | (simp [*];done) | (rw [w6_ (by omega) (by omega)])),(by first | exact H | (simp only [F];exact H)),(by first | omega | exact Nat.le_refl _),(S.ms [1,1,0,0])⟩
                     case rest =>
                      clear H S F
                      obtain ⟨kq,x120_117,rfl,HA,HJ117,S⟩:=hcut
                      have F:=S.fc
                      cases kq with
                      | zero=>exact absurd HA (by simp [laws_FnExactTableByFlips.j2])
                      | succ kj117 =>
                       have H:=HA;clear HA;simp only [laws_FnExactTableByFlips.j2,F] at H
                       replace H:=sp_ H;rcases H with ⟨c163,H⟩ | ⟨c163,H⟩
                       · skip
                         subst c163
                         exact absurd (H.trans (congrArg some HRT.out)) (by simp)
                       · skip
                         replace c163:=cbf c163;subst c163
                         replace H:=Option.bind_eq_some_iff.mp H;obtain ⟨t557,A164,H⟩:=H;(try dsimp only at H)
                         replace H:=sp_ H;rcases H with ⟨c165,H⟩ | ⟨c165,H⟩
                         · skip
                           exact absurd (H.trans (congrArg some HRT.out)) (by simp)
                         · skip
                           replace H:=sp_ H;rcases H with ⟨c166,H⟩ | ⟨c166,H⟩
                           · skip
                             replace c166:=ceq c166
                             obtain rfl:=Option.some.inj H
                             go_wp2_with (first | ((with_reducible refine gate_callee (f:=41) rfl (L ?_));refine cl (some 123) Try.func41 (laws_heldTable.calls _ _ _ _ _ _ _ _ S.c S.n A164) (hargs:=by (simp only [ma_,mb_,mc_,F] <;> rfl)) (h:=?_);rintro e W ⟨rfl,hb⟩;refine ⟨_,rfl,?_⟩;replace S:=S.go hb;clear F hb;have F:=S.fc) | ((with_reducible refine gs (t:=46) rfl (L ?_));(first | refine sb (.agg #[_,_]) S sz46 ?_ | refine ro (.agg #[_,_]) S sz46 ?_ (ho:=rfl) (hx:=rfl) (hy:=rfl));(clear S F;intro W S;have F:=S.fc)) | ((with_reducible refine gs (t:=50) rfl (L ?_));(first | refine sb (.agg #[_,_,_]) S sz50 ?_ | refine ro (.agg #[_,_,_]) S sz50 ?_ (ho:=rfl) (hx:=rfl) (hy:=rfl));(clear S F;intro W S;have F:=S.fc)))
                             go_ret
                             exact ⟨(by first | rfl | (simp [e0_,e1_] <;> rfl) | (simp [*,e0_,e1_] <;> rfl)),S.below⟩
                           · skip
                             replace c166:=cne c166
                             exact absurd (H.trans (congrArg some HRT.out)) (by simp)
                   · skip
                     replace c114:=cne c114
                     exact absurd (H.trans (congrArg some HRT.out)) (by simp)
           · skip
             replace c76:=cbf c76;subst c76
             exact absurd (H.trans (congrArg some HRT.out)) (by simp)
         · skip
           replace c73:=cbf c73;subst c73
           exact absurd (H.trans (congrArg some HRT.out)) (by simp)
end Go.Proofs.Ytipaimgpmgbkiaa.F
