-- Printed by a program; checked here.
import Derived.Test.YtipaimgpmgbkiaaF0
import Derived.Test.YtipaimgpmgbkiaaF1
namespace Go.Proofs.Ytipaimgpmgbkiaa.F
open Go.RowKit Go.Proofs.YtipaimgpmgbkiaaV.PrintWords Go.Proofs.YtipaimgpmgbkiaaV.PrintLast Go.Proofs.YtipaimgpmgbkiaaV.PrintMore Go.Proofs.YtipaimgpmgbkiaaV.Sl
attribute [local go_sem] max2_int min2_int max_two min_two max_three min_three max_four min_four ia_opt it_opt
attribute [local go_sem] Try.underlying23 Try.underlying29 Try.underlying41 Try.underlying42 Try.underlying46 Try.underlying50 Try.underlying63 Try.underlying88 Try.underlying106 Try.underlying127
set_option maxHeartbeats 8000000
set_option maxRecDepth 100000
set_option linter.unusedVariables false
set_option linter.unusedSimpArgs false

/-! ### spec_flRun: function 123 -/
def spec_flRun.f (k:Nat) (a0_0:Int) (a0_1:Int) (l0_2:List (S88)) (a1:Int):Option (Int × Int × Int × Int × Int × (List (S88))):=(spec_ggGroups.f k a0_0 a0_1 l0_2).bind fun t235=>((spec_flGo.f k a0_0 a0_1 l0_2 t235 a1).bind fun bt238=>(some (bt238.1,bt238.2.1,bt238.2.2.1,bt238.2.2.2.1,bt238.2.2.2.2.1,bt238.2.2.2.2.2.1)))
theorem spec_flRun.calls (k:Nat) (a0_0:Int) (a0_1:Int) (A0_2:Option Addr) (c0_2:Nat) (l0_2:List (S88)) (a1:Int) (r1:Int) (r2:Int) (r3:Int) (r4:Int) (r5:Int) (r6:List (S88)) (w:World) (hr0_2:Kd.C k88 w A0_2 l0_2.length l0_2) (hc0_2:l0_2.length ≤ c0_2) (h:spec_flRun.f k a0_0 a0_1 l0_2 a1 = some (r1,r2,r3,r4,r5,r6)) :
    Calls Try.prog 123 #[.agg #[.int .i64 a0_0,.int .i64 a0_1,.slice A0_2 l0_2.length c0_2],.int .i64 a1] w fun e w'=>∃ v5_:Value,e = .returned (.tuple #[.agg #[.int .i64 r1,.int .i64 r2,.int .i64 r3],.agg #[.int .i64 r4,.int .i64 r5,v5_]])∧Kd.R k88 88 w' w.heap.size (fun _=>True) v5_ r6∧Below w.heap.size w w':=by
 have S:=St.init (w:=w) (dc k88_heap at88 hr0_2 hc0_2 dn)
 clear hr0_2 hc0_2
 have F:=S.fc
 have H:=h;clear h;unfold spec_flRun.f at H
 replace H:=Option.bind_eq_some_iff.mp H;obtain ⟨t235,A3,H⟩:=H;(try dsimp only at H)
 replace H:=Option.bind_eq_some_iff.mp H;obtain ⟨⟨t238,t239,t240,t241,t242,t243,t246⟩,A4,H⟩:=H;(try dsimp only at H)
 simp only [Option.some.injEq,Prod.mk.injEq] at H
 obtain ⟨rfl,rfl,rfl,rfl,rfl,rfl⟩:=H
 go_enter Try.func123,Try.ntmps123
 go_wp2_with (first | ((with_reducible refine gd 2 rfl (L ?_));refine bo 2 (.agg #[_,_,_]) S ?_;clear S F;intro gb232 W S;have F:=S.fc) | ((with_reducible refine gd 4 rfl (L ?_));refine al 4 S zi127 ?_;clear S F;intro gb233 W S;have F:=S.fc) | ((with_reducible refine gd 5 rfl (L ?_));refine al 5 S zi50 ?_;clear S F;intro gb234 W S;have F:=S.fc) | ((with_reducible refine gs (t:=50) rfl (L ?_));(first | refine sb (.agg #[_,_,_]) S sz50 ?_ | refine ro (.agg #[_,_,_]) S sz50 ?_ (ho:=rfl) (hx:=rfl) (hy:=rfl));(clear S F;intro W S;have F:=S.fc)) | ((with_reducible refine gs (t:=127) rfl (L ?_));(first | refine sb (.agg #[_,_,_]) S sz127 ?_ | refine ro (.agg #[_,_,_]) S sz127 ?_ (ho:=rfl) (hx:=rfl) (hy:=rfl));(clear S F;intro W S;have F:=S.fc)))
 refine rgF S (fun _ S=>S) (fkc 9 6 zi127 (fkc 10 7 zi50 fk0)) [(0,3),(1,0),(1,1),(2,2),(2,4),(0,5),(0,6),(0,7),(0,8)] [(3,11),(3,12),(0,13)] [11,12] (id:=1) (h:=?_);clear S F;intro W S;have S0:=S;have F:=S.fc
 repeat (first | (refine f0 (h:=?_)) | (refine f1 S0 (h:=?_)) | (refine f0n (h:=?_)) | (refine f1n S0 (h:=?_)))
 refine fe2 S (by rfl) ?_;intro x6_ x7_ X W S;simp only [List.cons_append,List.nil_append,putF,Act.put,za_,zb_,zc_] at S ⊢;clear F;have F:=S.fc;refine ⟨rfl,?_⟩;refine cl (some 12) Try.func136 (spec_ggGroups.calls _ _ _ _ _ _ _ _ S.c S.n A3) (hargs:=by (simp only [ma_,mb_,mc_,F] <;> rfl)) (h:=?_);rintro e W ⟨v236,rfl,ho0,hb⟩;refine ⟨_,rfl,?_⟩;replace S:=S.got (atI .i64) hb ho0;obtain ⟨At235,ct235,rfl,S⟩:=S;clear F hb ho0;have F:=S.fc
 clear S0;have S0:=(S.nx X).tl;refine ⟨S0,?_⟩
 refine fe2 S (by rfl) ?_;intro x6_ x7_ X W S;simp only [List.cons_append,List.nil_append,putF,Act.put,za_,zb_,zc_] at S ⊢;clear F;have F:=S.fc;refine ⟨rfl,?_⟩;refine cl (some 14) Try.func135 (spec_flGo.calls _ _ _ _ _ _ _ _ _ _ _ _ _ _ _ _ _ _ S.c S.n S.c S.n A4) (hargs:=by (simp only [ma_,mb_,mc_,F] <;> rfl)) (h:=?_);rintro e W ⟨v244,v247,rfl,ho0,ho1,hb⟩;refine ⟨_,rfl,?_⟩;replace S:=S.got2 at88 (atU (d:=Kd.slice 3 (Kd.int .i64))) hb ho0 ho1 (by decide);obtain ⟨At243,ct243,At246,ct246,rfl,rfl,S⟩:=S;clear F hb ho0 ho1;have F:=S.fc
 clear S0;have S0:=(S.nx X).tl.tl.tl;refine ⟨S0,?_⟩
 repeat (first | (refine f0 (h:=?_)) | (refine f1 S0 (h:=?_)) | (refine f0n (h:=?_)) | (refine f1n S0 (h:=?_)))
 refine fz S ?_;intro gb249 gb250 W S;simp only [bxs,fbox,ptr,List.map_cons,List.map_nil,List.cons_append,List.nil_append,putF,Act.put,za_,zb_,zc_] at S ⊢;clear F S0;have S0:=S.tl.tl.tl.tl.tl;have F:=S.fc
 refine lk3 (by rfl) (by exact (Eq.refl true)) ?_;(first | refine sb (.agg #[_,_,_]) S sz50 ?_ | refine ro (.agg #[_,_,_]) S sz50 ?_ (ho:=rfl) (hx:=rfl) (hy:=rfl) | refine sb (.agg #[_,_,_]) S sz127 ?_ | refine ro (.agg #[_,_,_]) S sz127 ?_ (ho:=rfl) (hx:=rfl) (hy:=rfl));(clear S F;intro W S;have F:=S.fc)
 refine lk3 (by rfl) (by exact (Eq.refl true)) ?_;(first | refine sb (.agg #[_,_,_]) S sz50 ?_ | refine ro (.agg #[_,_,_]) S sz50 ?_ (ho:=rfl) (hx:=rfl) (hy:=rfl) | refine sb (.agg #[_,_,_]) S sz127 ?_ | refine ro (.agg #[_,_,_]) S sz127 ?_ (ho:=rfl) (hx:=rfl) (hy:=rfl));(clear S F;intro W S;have F:=S.fc)
 repeat (first | (refine q0 (h:=?_)) | (refine q1 S0 (h:=?_)) | (refine q0n (h:=?_)) | (refine q1n S0 (h:=?_)))
 refine oz ?_
 try clear S0
 go_wp2_with (first | ((with_reducible refine gs (t:=50) rfl (L ?_));(first | refine sb (.agg #[_,_,_]) S sz50 ?_ | refine ro (.agg #[_,_,_]) S sz50 ?_ (ho:=rfl) (hx:=rfl) (hy:=rfl));(clear S F;intro W S;have F:=S.fc)) | ((with_reducible refine gs (t:=127) rfl (L ?_));(first | refine sb (.agg #[_,_,_]) S sz127 ?_ | refine ro (.agg #[_,_,_]) S sz127 ?_ (ho:=rfl) (hx:=rfl) (hy:=rfl));(clear S F;intro W S;have F:=S.fc)))
 refine rgP S (fun _ S=>(S.ms [1,1,1,1,1,0,0])) [(1,0),(1,1),(2,2),(2,3)] [] (by kernel_rfl) (by kernel_rfl) (fun _ d _ _ _ h=>by cases d <;> exact h) ?_;clear S F;intro W S;have S0:=(S.ms [1,1,1,1,1,0,0]);have F:=S.fc
 repeat (first | (refine q0 (h:=?_)) | (refine q1 S0 (h:=?_)) | (refine q0n (h:=?_)) | (refine q1n S0 (h:=?_)))
 refine lk2 (by rfl) (by exact (Eq.refl true)) ?_;(first | refine sb (.agg #[_,_,_]) S sz50 ?_ | refine ro (.agg #[_,_,_]) S sz50 ?_ (ho:=rfl) (hx:=rfl) (hy:=rfl) | refine sb (.agg #[_,_,_]) S sz127 ?_ | refine ro (.agg #[_,_,_]) S sz127 ?_ (ho:=rfl) (hx:=rfl) (hy:=rfl));(clear S F;intro W S;have F:=S.fc)
 clear S0;have S0:=(S.ms [1,1,1,1,1,0,0]);refine ⟨S0,?_⟩
 refine lk2 (by rfl) (by exact (Eq.refl true)) ?_;(first | refine sb (.agg #[_,_,_]) S sz50 ?_ | refine ro (.agg #[_,_,_]) S sz50 ?_ (ho:=rfl) (hx:=rfl) (hy:=rfl) | refine sb (.agg #[_,_,_]) S sz127 ?_ | refine ro (.agg #[_,_,_]) S sz127 ?_ (ho:=rfl) (hx:=rfl) (hy:=rfl));(clear S F;intro W S;have F:=S.fc)
 clear S0;have S0:=(S.ms [1,1,1,1,1,0,0]);refine ⟨S0,?_⟩
 refine oz ?_
 try clear S0
 go_wp2_with (first | ((with_reducible refine gs (t:=50) rfl (L ?_));(first | refine sb (.agg #[_,_,_]) S sz50 ?_ | refine ro (.agg #[_,_,_]) S sz50 ?_ (ho:=rfl) (hx:=rfl) (hy:=rfl));(clear S F;intro W S;have F:=S.fc)) | ((with_reducible refine gs (t:=127) rfl (L ?_));(first | refine sb (.agg #[_,_,_]) S sz127 ?_ | refine ro (.agg #[_,_,_]) S sz127 ?_ (ho:=rfl) (hx:=rfl) (hy:=rfl));(clear S F;intro W S;have F:=S.fc)))
 refine bodyPost_ret (results_cc rfl _ _ gb233 gb234 127 50 #[.int .i64 t238,.int .i64 t239,.int .i64 t240] #[.int .i64 t241,.int .i64 t242,.slice At243 t243.length ct243] (0,0) (0,0) _ _ rfl S.hb Try.underlying127 rfl (by kernel_rfl) rfl S.hb Try.underlying50 rfl (by kernel_rfl)) rfl ?_
 exact ⟨_,(by first | rfl | (simp [e0_,e1_] <;> rfl) | (simp [*,e0_,e1_] <;> rfl)),(by first | exact S.r | exact Kd.R_nil _ _ _ _ _),S.below⟩

/-! ### spec_vfValue: function 113 -/
def spec_vfValue.f (k:Nat) (a0_0:Int) (a0_1:Int) (l0_2:List (S88)) (a1:Int) (a2:Int):Option (Int):=(spec_flRun.f k a0_0 a0_1 l0_2 a2).bind fun bt252=>(if bt252.1 = 1 then (if bt252.2.2.1 ≥ a1 then (some 1) else (some 0)) else (some (-1)))
theorem spec_vfValue.calls (k:Nat) (a0_0:Int) (a0_1:Int) (A0_2:Option Addr) (c0_2:Nat) (l0_2:List (S88)) (a1:Int) (a2:Int) (r:Int) (w:World) (hr0_2:Kd.C k88 w A0_2 l0_2.length l0_2) (hc0_2:l0_2.length ≤ c0_2) (h:spec_vfValue.f k a0_0 a0_1 l0_2 a1 a2 = some r) :
    Calls Try.prog 113 #[.agg #[.int .i64 a0_0,.int .i64 a0_1,.slice A0_2 l0_2.length c0_2],.int .i64 a1,.int .i64 a2] w fun e w'=>e = .returned (.int .i64 r)∧Below w.heap.size w w':=by
 have S:=St.init (w:=w) (dc k88_heap at88 hr0_2 hc0_2 dn)
 clear hr0_2 hc0_2
 have F:=S.fc
 have H:=h;clear h;unfold spec_vfValue.f at H
 replace H:=Option.bind_eq_some_iff.mp H;obtain ⟨⟨t252,t253,t254,t255,t256,t257⟩,A4,H⟩:=H;(try dsimp only at H)
 replace H:=sp_ H;rcases H with ⟨c5,H⟩ | ⟨c5,H⟩
 · skip
   replace c5:=ceq c5
   replace H:=sp_ H;rcases H with ⟨c6,H⟩ | ⟨c6,H⟩
   · skip
     obtain rfl:=Option.some.inj H
     go_enter Try.func113,Try.ntmps113
     go_wp2_with (first | ((with_reducible refine gd 3 rfl (L ?_));refine bo 3 (.agg #[_,_,_]) S ?_;clear S F;intro gb251 W S;have F:=S.fc) | ((with_reducible refine gate_callee (f:=123) rfl (L ?_));refine cl (some 12) Try.func123 (spec_flRun.calls _ _ _ _ _ _ _ _ _ _ _ _ _ _ S.c S.n A4) (hargs:=by (simp only [ma_,mb_,mc_,F] <;> rfl)) (h:=?_);rintro e W ⟨v258,rfl,ho0,hb⟩;refine ⟨_,rfl,?_⟩;replace S:=S.got at88 hb ho0;obtain ⟨At257,ct257,rfl,S⟩:=S;clear F hb ho0;have F:=S.fc) | ((with_reducible refine gd 7 rfl (L ?_));refine al 7 S zi127 ?_;clear S F;intro gb260 W S;have F:=S.fc) | ((with_reducible refine gd 8 rfl (L ?_));refine al 8 S zi50 ?_;clear S F;intro gb261 W S;have F:=S.fc) | ((with_reducible refine gs (t:=50) rfl (L ?_));(first | refine sb (.agg #[_,_,_]) S sz50 ?_ | refine ro (.agg #[_,_,_]) S sz50 ?_ (ho:=rfl) (hx:=rfl) (hy:=rfl));(clear S F;intro W S;have F:=S.fc)) | ((with_reducible refine gs (t:=127) rfl (L ?_));(first | refine sb (.agg #[_,_,_]) S sz127 ?_ | refine ro (.agg #[_,_,_]) S sz127 ?_ (ho:=rfl) (hx:=rfl) (hy:=rfl));(clear S F;intro W S;have F:=S.fc)))
     go_ret
     exact ⟨(by first | rfl | (simp [e0_,e1_] <;> rfl) | (simp [*,e0_,e1_] <;> rfl)),S.below⟩
   · skip
     obtain rfl:=Option.some.inj H
     go_enter Try.func113,Try.ntmps113
     go_wp2_with (first | ((with_reducible refine gd 3 rfl (L ?_));refine bo 3 (.agg #[_,_,_]) S ?_;clear S F;intro gb251 W S;have F:=S.fc) | ((with_reducible refine gate_callee (f:=123) rfl (L ?_));refine cl (some 12) Try.func123 (spec_flRun.calls _ _ _ _ _ _ _ _ _ _ _ _ _ _ S.c S.n A4) (hargs:=by (simp only [ma_,mb_,mc_,F] <;> rfl)) (h:=?_);rintro e W ⟨v258,rfl,ho0,hb⟩;refine ⟨_,rfl,?_⟩;replace S:=S.got at88 hb ho0;obtain ⟨At257,ct257,rfl,S⟩:=S;clear F hb ho0;have F:=S.fc) | ((with_reducible refine gd 7 rfl (L ?_));refine al 7 S zi127 ?_;clear S F;intro gb260 W S;have F:=S.fc) | ((with_reducible refine gd 8 rfl (L ?_));refine al 8 S zi50 ?_;clear S F;intro gb261 W S;have F:=S.fc) | ((with_reducible refine gs (t:=50) rfl (L ?_));(first | refine sb (.agg #[_,_,_]) S sz50 ?_ | refine ro (.agg #[_,_,_]) S sz50 ?_ (ho:=rfl) (hx:=rfl) (hy:=rfl));(clear S F;intro W S;have F:=S.fc)) | ((with_reducible refine gs (t:=127) rfl (L ?_));(first | refine sb (.agg #[_,_,_]) S sz127 ?_ | refine ro (.agg #[_,_,_]) S sz127 ?_ (ho:=rfl) (hx:=rfl) (hy:=rfl));(clear S F;intro W S;have F:=S.fc)))
     go_ret
     exact ⟨(by first | rfl | (simp [e0_,e1_] <;> rfl) | (simp [*,e0_,e1_] <;> rfl)),S.below⟩
 · skip
   replace c5:=cne c5
   obtain rfl:=Option.some.inj H
   go_enter Try.func113,Try.ntmps113
   go_wp2_with (first | ((with_reducible refine gd 3 rfl (L ?_));refine bo 3 (.agg #[_,_,_]) S ?_;clear S F;intro gb251 W S;have F:=S.fc) | ((with_reducible refine gate_callee (f:=123) rfl (L ?_));refine cl (some 12) Try.func123 (spec_flRun.calls _ _ _ _ _ _ _ _ _ _ _ _ _ _ S.c S.n A4) (hargs:=by (simp only [ma_,mb_,mc_,F] <;> rfl)) (h:=?_);rintro e W ⟨v258,rfl,ho0,hb⟩;refine ⟨_,rfl,?_⟩;replace S:=S.got at88 hb ho0;obtain ⟨At257,ct257,rfl,S⟩:=S;clear F hb ho0;have F:=S.fc) | ((with_reducible refine gd 7 rfl (L ?_));refine al 7 S zi127 ?_;clear S F;intro gb260 W S;have F:=S.fc) | ((with_reducible refine gd 8 rfl (L ?_));refine al 8 S zi50 ?_;clear S F;intro gb261 W S;have F:=S.fc) | ((with_reducible refine gs (t:=50) rfl (L ?_));(first | refine sb (.agg #[_,_,_]) S sz50 ?_ | refine ro (.agg #[_,_,_]) S sz50 ?_ (ho:=rfl) (hx:=rfl) (hy:=rfl));(clear S F;intro W S;have F:=S.fc)) | ((with_reducible refine gs (t:=127) rfl (L ?_));(first | refine sb (.agg #[_,_,_]) S sz127 ?_ | refine ro (.agg #[_,_,_]) S sz127 ?_ (ho:=rfl) (hx:=rfl) (hy:=rfl));(clear S F;intro W S;have F:=S.fc)))
   go_ret
   exact ⟨(by first | rfl | (simp [e0_,e1_] <;> rfl) | (simp [*,e0_,e1_] <;> rfl)),S.below⟩

/-! ### spec_vfByFlips: function 77 -/
mutual
def spec_vfByFlips.l0:Nat→Int→List (List Int)→Int→List Int→Int→Int→Int→List (S88)→Option (List Int)
  | 0,_,_,_,_,_,_,_,_=>none
  | k + 1,x1,x2,x3,x9,x10,x263000,x263001,x263002=>if 0 ≤ (IntKind.u64.wrap ((x2.length:Int))) then (if x10 < (shl .i64 1 (IntKind.u64.wrap ((x2.length:Int)))) then ((spec_boOwn.f x263000 x263001 x263002).bind fun bt263=>(spec_vfByFlips.l1 k x1 x2 x3 x9 x10 x2 (x2.length:Int) 0 x263000 x263001 x263002 bt263.1 bt263.2.1 bt263.2.2)) else (some x9)) else (none)
def spec_vfByFlips.l1:Nat→Int→List (List Int)→Int→List Int→Int→List (List Int)→Int→Int→Int→Int→List (S88)→Int→Int→List (S88)→Option (List Int)
  | 0,_,_,_,_,_,_,_,_,_,_,_,_,_,_=>none
  | k + 1,x1,x2,x3,x9,x10,x26,x27,x28,x263000,x263001,x263002,x269000,x269001,x269002=>if x28 < x27 then (if 0 ≤ x28 then (if x28 < (x26.length:Int) then (spec_vfByFlips.l2 k x1 x2 x3 x9 x10 x28 x26 x27 x28 (rd_L2 x26 x28) ((rd_L2 x26 x28).length:Int) 0 x263000 x263001 x263002 x269000 x269001 x269002) else (none)) else (none)) else ((spec_vfValue.f k x269000 x269001 x269002 x3 x1).bind fun t269=>(if x9.length < 17592186044416 then (spec_vfByFlips.l0 k x1 x2 x3 (x9 ++ [t269]) (wrap64 (x10 + 1)) x263000 x263001 x263002) else (none)))
def spec_vfByFlips.l2:Nat→Int→List (List Int)→Int→List Int→Int→Int→List (List Int)→Int→Int→List Int→Int→Int→Int→Int→List (S88)→Int→Int→List (S88)→Option (List Int)
  | 0,_,_,_,_,_,_,_,_,_,_,_,_,_,_,_,_,_,_=>none
  | k + 1,x1,x2,x3,x9,x10,x12,x26,x27,x28,x33,x34,x35,x263000,x263001,x263002,x269000,x269001,x269002=>if x35 < x34 then (if 0 ≤ x35 then (if x35 < (x33.length:Int) then ((spec_ttBit.f x10 x12).bind fun t275=>(if 0 ≤ (rd x33 x35) then (if (rd x33 x35) < (x269002.length:Int) then (spec_vfByFlips.l2 k x1 x2 x3 x9 x10 x12 x26 x27 x28 x33 x34 (wrap64 (x35 + 1)) x263000 x263001 x263002 x269000 x269001 (x269002.set ((rd x33 x35):Int).toNat (⟨(rd_T88 x269002 (rd x33 x35)).f0,t275⟩:S88))) else (none)) else (none))) else (none)) else (none)) else (spec_vfByFlips.l1 k x1 x2 x3 x9 x10 x26 x27 (wrap64 (x28 + 1)) x263000 x263001 x263002 x269000 x269001 x269002)
end
def spec_vfByFlips.f (k:Nat) (a0_0:Int) (a0_1:Int) (l0_2:List (S88)) (a1:Int) (l2:List (List Int)) (a3:Int):Option (List Int):=spec_vfByFlips.l0 k a1 l2 a3 ([]:List Int) 0 a0_0 a0_1 l0_2
theorem spec_vfByFlips.calls (k:Nat) (a0_0:Int) (a0_1:Int) (A0_2:Option Addr) (c0_2:Nat) (l0_2:List (S88)) (a1:Int) (A2:Option Addr) (c2:Nat) (l2:List (List Int)) (a3:Int) (r:List Int) (w:World) (hr0_2:Kd.C k88 w A0_2 l0_2.length l0_2) (hc0_2:l0_2.length ≤ c0_2) (hr2:Kd.C (Kd.slice 3 (Kd.int .i64)) w A2 l2.length l2) (hc2:l2.length ≤ c2) (h:spec_vfByFlips.f k a0_0 a0_1 l0_2 a1 l2 a3 = some r) :
    Calls Try.prog 77 #[.agg #[.int .i64 a0_0,.int .i64 a0_1,.slice A0_2 l0_2.length c0_2],.int .i64 a1,.slice A2 l2.length c2,.int .i64 a3] w fun e w'=>∃ v0_:Value,e = .returned (v0_)∧Kd.R (Kd.int .i64) 3 w' w.heap.size (fun _=>True) v0_ r∧Below w.heap.size w w':=by
 have S:=St.init (w:=w) (dc k88_heap at88 hr0_2 hc0_2 (dc (Kd.heap_slice 3 (Kd.heap_int .i64)) (atU (d:=Kd.slice 3 (Kd.int .i64))) hr2 hc2 dn))
 clear hr0_2 hc0_2 hr2 hc2
 have F:=S.fc
 have H:=h;clear h;unfold spec_vfByFlips.f at H
 go_enter Try.func77,Try.ntmps77
 go_wp2_with (first | ((with_reducible refine gd 4 rfl (L ?_));refine bo 4 (.agg #[_,_,_]) S ?_;clear S F;intro gb262 W S;have F:=S.fc) | ((with_reducible refine gs (t:=3) rfl (L ?_));(first | refine sb (.int _ _) S sz3 ?_ | refine ro (.int _ _) S sz3 ?_ (ho:=rfl) (hx:=rfl) (hy:=rfl));clear S F;intro W S;(try simp only [gd88] at S);have F:=S.fc) | ((with_reducible refine gs (t:=50) rfl (L ?_));(first | refine sb (.agg #[_,_,_]) S sz50 ?_ | refine ro (.agg #[_,_,_]) S sz50 ?_ (ho:=rfl) (hx:=rfl) (hy:=rfl));clear S F;intro W S;(try simp only [gd88] at S);have F:=S.fc))
 go_loopg [9,10] k (fun kq v9 v10 w'=>∃ (x9_1:List Int) (x10_1:Int) (Ax9_1:Option Addr) (cx9_1:Nat),v10 = .int .i64 x10_1∧v9 = .slice Ax9_1 x9_1.length cx9_1∧spec_vfByFlips.l0 kq a1 l2 a3 x9_1 x10_1 a0_0 a0_1 l0_2 = some r∧kq ≤ k∧St w w (fun _=>False) [bor at88 A0_2 c0_2 l0_2,bor (atU (d:=Kd.slice 3 (Kd.int .i64))) A2 c2 l2] w'  [row (atI .i64) 3 Ax9_1 x9_1.length cx9_1 x9_1,box gb262 50 [.int .i64 a0_0,.int .i64 a0_1,.slice A0_2 l0_2.length c0_2]])
 case atStart=>exact ⟨_,0,_,_,(by first | rfl | (simp;done) | (simp [*];done) | (rw [w6_ (by omega) (by omega)])),rfl,H,Nat.le_refl _,(S.nl (e:=3) (atI .i64))⟩
 case round =>
  clear H S F
  obtain ⟨x9_1,x10_1,Ax9_1,cx9_1,rfl,rfl,HA,HK1,S⟩:=hrel
  have F:=S.fc
  cases gk with
  | zero=>exact absurd HA (by simp [spec_vfByFlips.l0])
  | succ k1 =>
   have H:=HA;clear HA;simp only [spec_vfByFlips.l0,F] at H
   obtain ⟨ji6,hji6⟩:∃ j_:Int,(IntKind.u64.wrap ((l2.length:Int))) = j_:=⟨_,rfl⟩;simp only [hji6] at H
   replace H:=np_ H;obtain ⟨c7,H⟩:=H
   obtain ⟨ji8,hji8⟩:∃ j_:Int,(shl .i64 1 (ji6)) = j_:=⟨_,rfl⟩;simp only [hji8] at H
   have hji8_:(IntKind.i64.wrap (1 * 2 ^ min (ji6).toNat 64)) = ji8:=hji8
   have hji8z:(ji6) ≤ 64→(IntKind.i64.wrap (1 * 2 ^ (ji6).toNat)) = ji8:=shl_small hji8
   have hji8u:(IntKind.i64.wrap (2 ^ min (ji6).toNat 64)) = ji8:=by have h_:=hji8_;rw [Int.one_mul] at h_;exact h_
   have hji8v:(ji6) ≤ 64→(IntKind.i64.wrap (2 ^ (ji6).toNat)) = ji8:=fun hle_=>by have h_:=hji8z hle_;rw [Int.one_mul] at h_;exact h_
   have hji8y:(wrap64 (1 * 2 ^ min (ji6).toNat 64)) = ji8:=(i64_w _).symm.trans hji8_
   have hji8x:(ji6) ≤ 64→(wrap64 (1 * 2 ^ (ji6).toNat)) = ji8:=fun h_=>(i64_w _).symm.trans (hji8z h_)
   replace H:=sp_ H;rcases H with ⟨c9,H⟩ | ⟨c9,H⟩
   · skip
     replace H:=Option.bind_eq_some_iff.mp H;obtain ⟨⟨t263,t264,t265⟩,A10,H⟩:=H;(try dsimp only at H)
     go_wp2_with (first | ((with_reducible refine gate_callee (f:=111) rfl (L ?_));refine cl (some 25) Try.func111 (spec_boOwn.calls _ _ _ _ _ _ _ _ _ S.c S.n A10) (hargs:=by (simp only [ma_,mb_,mc_,F] <;> rfl)) (h:=?_);rintro e W ⟨v266,rfl,ho0,hb⟩;refine ⟨_,rfl,?_⟩;replace S:=S.got at88 hb ho0;obtain ⟨At265,ct265,rfl,S⟩:=S;clear F hb ho0;have F:=S.fc) | ((with_reducible refine gd 11 rfl (L ?_));refine al 11 S zi50 ?_;clear S F;intro gb268 W S;have F:=S.fc) | ((with_reducible refine gs (t:=3) rfl (L ?_));(first | refine sb (.int _ _) S sz3 ?_ | refine ro (.int _ _) S sz3 ?_ (ho:=rfl) (hx:=rfl) (hy:=rfl));clear S F;intro W S;(try simp only [gd88] at S);have F:=S.fc) | ((with_reducible refine gs (t:=50) rfl (L ?_));(first | refine sb (.agg #[_,_,_]) S sz50 ?_ | refine ro (.agg #[_,_,_]) S sz50 ?_ (ho:=rfl) (hx:=rfl) (hy:=rfl));clear S F;intro W S;(try simp only [gd88] at S);have F:=S.fc))
     go_loopg [28] k1 (fun kq v28 w'=>∃ (x28_2:Int) (x269002_2:List (S88)) (Ax269002_2:Option Addr) (cx269002_2:Nat),v28 = .int .i64 x28_2∧spec_vfByFlips.l1 kq a1 l2 a3 x9_1 x10_1 l2 (l2.length:Int) x28_2 a0_0 a0_1 l0_2 t263 t264 x269002_2 = some r∧kq ≤ k1∧St w w (fun _=>False) [bor at88 A0_2 c0_2 l0_2,bor (atU (d:=Kd.slice 3 (Kd.int .i64))) A2 c2 l2] w'  [box gb268 50 [.int .i64 t263,.int .i64 t264,.slice Ax269002_2 x269002_2.length cx269002_2],row at88 88 Ax269002_2 x269002_2.length cx269002_2 x269002_2,row (atI .i64) 3 Ax9_1 x9_1.length cx9_1 x9_1,box gb262 50 [.int .i64 a0_0,.int .i64 a0_1,.slice A0_2 l0_2.length c0_2]])
     case atStart=>exact ⟨0,t265,_,_,(by first | rfl | (simp;done) | (simp [*];done) | (rw [w6_ (by omega) (by omega)])),H,Nat.le_refl _,S⟩
     case round =>
      clear H S F
      obtain ⟨x28_2,x269002_2,Ax269002_2,cx269002_2,rfl,HA,HK2,S⟩:=hrel
      have F:=S.fc
      cases gk with
      | zero=>exact absurd HA (by simp [spec_vfByFlips.l1])
      | succ k2 =>
       have H:=HA;clear HA;simp only [spec_vfByFlips.l1,F] at H
       replace H:=sp_ H;rcases H with ⟨c17,H⟩ | ⟨c17,H⟩
       · skip
         replace H:=np_ H;obtain ⟨c18,H⟩:=H
         replace H:=np_ H;obtain ⟨c19,H⟩:=H
         obtain ⟨A273_0,c273_0,S⟩:=S.inn l2 (atI .i64) x28_2 (rd_L2 l2 x28_2);clear F;have F:=S.fc
         go_wp2_with (first | ((with_reducible refine gs (t:=3) rfl (L ?_));(first | refine sb (.int _ _) S sz3 ?_ | refine ro (.int _ _) S sz3 ?_ (ho:=rfl) (hx:=rfl) (hy:=rfl));clear S F;intro W S;(try simp only [gd88] at S);have F:=S.fc) | ((with_reducible refine gs (t:=50) rfl (L ?_));(first | refine sb (.agg #[_,_,_]) S sz50 ?_ | refine ro (.agg #[_,_,_]) S sz50 ?_ (ho:=rfl) (hx:=rfl) (hy:=rfl));clear S F;intro W S;(try simp only [gd88] at S);have F:=S.fc))
         go_loopg [35] k2 (fun kq v35 w'=>∃ (x35_3:Int) (x269002_3:List (S88)) (Ax269002_3:Option Addr) (cx269002_3:Nat),v35 = .int .i64 x35_3∧spec_vfByFlips.l2 kq a1 l2 a3 x9_1 x10_1 x28_2 l2 (l2.length:Int) x28_2 (rd_L2 l2 x28_2) ((rd_L2 l2 x28_2).length:Int) x35_3 a0_0 a0_1 l0_2 t263 t264 x269002_3 = some r∧kq ≤ k2∧St w w (fun _=>False) [bcell ((adr A2).add (x28_2).toNat) (.slice A273_0 (rd_L2 l2 x28_2).length c273_0),bor (atI .i64) A273_0 c273_0 (rd_L2 l2 x28_2),bor at88 A0_2 c0_2 l0_2,bor (atU (d:=Kd.slice 3 (Kd.int .i64))) A2 c2 l2] w'  [box gb268 50 [.int .i64 t263,.int .i64 t264,.slice Ax269002_3 x269002_3.length cx269002_3],row at88 88 Ax269002_3 x269002_3.length cx269002_3 x269002_3,row (atI .i64) 3 Ax9_1 x9_1.length cx9_1 x9_1,box gb262 50 [.int .i64 a0_0,.int .i64 a0_1,.slice A0_2 l0_2.length c0_2]])
         case atStart=>exact ⟨0,x269002_2,_,_,(by first | rfl | (simp;done) | (simp [*];done) | (rw [w6_ (by omega) (by omega)])),H,Nat.le_refl _,S⟩
         case round =>
          clear H S F
          obtain ⟨x35_3,x269002_3,Ax269002_3,cx269002_3,rfl,HA,HK3,S⟩:=hrel
          have F:=S.fc
          cases gk with
          | zero=>exact absurd HA (by simp [spec_vfByFlips.l2])
          | succ k3 =>
           have H:=HA;clear HA;simp only [spec_vfByFlips.l2,F] at H
           replace H:=sp_ H;rcases H with ⟨c20,H⟩ | ⟨c20,H⟩
           · skip
             replace H:=np_ H;obtain ⟨c21,H⟩:=H
             replace H:=np_ H;obtain ⟨c22,H⟩:=H
             replace H:=Option.bind_eq_some_iff.mp H;obtain ⟨t275,A23,H⟩:=H;(try dsimp only at H)
             replace H:=np_ H;obtain ⟨c24,H⟩:=H
             replace H:=np_ H;obtain ⟨c25,H⟩:=H
             (first | (with_reducible replace H:=ob_ H;obtain ⟨y276,hy276,H⟩:=H;(try dsimp only at H)) | (obtain ⟨y276,hy276⟩:∃ y_:List (S88),y_ = (x269002_3.set ((rd (rd_L2 l2 x28_2) x35_3):Int).toNat (⟨(rd_T88 x269002_3 (rd (rd_L2 l2 x28_2) x35_3)).f0,t275⟩:S88)):=⟨_,rfl⟩;(try rw [← hy276] at H);(try simp only [Option.bind_some] at H)));have Ny276:=Aside0.mk hy276;clear hy276
             go_wp2_with (first | ((with_reducible refine gs (t:=3) rfl (L ?_));(first | refine sb (.int _ _) S sz3 ?_ | refine ro (.int _ _) S sz3 ?_ (ho:=rfl) (hx:=rfl) (hy:=rfl));clear S F;intro W S;(try simp only [gd88] at S);(try rw [← Ny276.out] at S);have F:=S.fc) | ((with_reducible refine gs (t:=50) rfl (L ?_));(first | refine sb (.agg #[_,_,_]) S sz50 ?_ | refine ro (.agg #[_,_,_]) S sz50 ?_ (ho:=rfl) (hx:=rfl) (hy:=rfl));clear S F;intro W S;(try simp only [gd88] at S);(try rw [← Ny276.out] at S);have F:=S.fc))
             refine rq S [(0,0),(0,2),(0,3),(0,4),(1,1),(2,5),(0,6),(0,7),(3,8)] [8] (h:=?_);clear S F;intro W S;have S0:=S;have F:=S.fc
             repeat (first | (refine q0 (h:=?_)) | (refine q1 S0 (h:=?_)) | (refine q0n (h:=?_)) | (refine q1n S0 (h:=?_)))
             refine lk2 (by rfl) (by exact (Eq.refl true)) ?_;refine cl (some 44) Try.func112 (spec_ttBit.calls _ _ _ _ A23) (hargs:=by (simp only [ma_,mb_,mc_,F] <;> rfl)) (h:=?_);rintro e W ⟨rfl,hb⟩;refine ⟨_,rfl,?_⟩;replace S:=S.gw hb;clear F hb;have F:=S.fc
             clear S0;have S0:=S;refine ⟨S0,?_⟩
             repeat (first | (refine q0 (h:=?_)) | (refine q1 S0 (h:=?_)) | (refine q0n (h:=?_)) | (refine q1n S0 (h:=?_)))
             refine lk3 (by rfl) (by exact (Eq.refl true)) ?_;(first | refine sb (.int _ _) S sz3 ?_ | refine ro (.int _ _) S sz3 ?_ (ho:=rfl) (hx:=rfl) (hy:=rfl) | refine sb (.agg #[_,_,_]) S sz50 ?_ | refine ro (.agg #[_,_,_]) S sz50 ?_ (ho:=rfl) (hx:=rfl) (hy:=rfl));clear S F;intro W S;(try simp only [gd88] at S);(try rw [← Ny276.out] at S);have F:=S.fc
             refine oz ?_
             try clear S0
             go_wp2_with (first | ((with_reducible refine gs (t:=3) rfl (L ?_));(first | refine sb (.int _ _) S sz3 ?_ | refine ro (.int _ _) S sz3 ?_ (ho:=rfl) (hx:=rfl) (hy:=rfl));clear S F;intro W S;(try simp only [gd88] at S);(try rw [← Ny276.out] at S);have F:=S.fc) | ((with_reducible refine gs (t:=50) rfl (L ?_));(first | refine sb (.agg #[_,_,_]) S sz50 ?_ | refine ro (.agg #[_,_,_]) S sz50 ?_ (ho:=rfl) (hx:=rfl) (hy:=rfl));clear S F;intro W S;(try simp only [gd88] at S);(try rw [← Ny276.out] at S);have F:=S.fc))
             go_roundg k3
             case measure=>omega
             case rel=>first | ((try rw [← (show y276.length = x269002_3.length by first | simp only [F] | (have F_:=F;simp only [Ny276.out,List.length_set] at F_;simp only [F_]))] at S);exact ⟨(wrap64 (x35_3 + 1)),y276,_,_,(by first | rfl | (simp;done) | (simp [*];done) | (rw [w6_ (by omega) (by omega)])),H,(by first | omega | exact Nat.le_refl _),S⟩) | ((try rw [← (show y276.length = x269002_3.length by first | simp only [F] | (have F_:=F;simp only [Ny276.out,List.length_set] at F_;simp only [F_]))] at S);exact ⟨(wrap64 (x35_3 + 1)),y276,_,_,(by first | rfl | (simp;done) | (simp [*];done) | (rw [w6_ (by omega) (by omega)])),H,(by first | omega | exact Nat.le_refl _),(S.dk [2,3])⟩)
           · skip
             go_wp2_with (first | ((with_reducible refine gs (t:=3) rfl (L ?_));(first | refine sb (.int _ _) S sz3 ?_ | refine ro (.int _ _) S sz3 ?_ (ho:=rfl) (hx:=rfl) (hy:=rfl));clear S F;intro W S;(try simp only [gd88] at S);have F:=S.fc) | ((with_reducible refine gs (t:=50) rfl (L ?_));(first | refine sb (.agg #[_,_,_]) S sz50 ?_ | refine ro (.agg #[_,_,_]) S sz50 ?_ (ho:=rfl) (hx:=rfl) (hy:=rfl));clear S F;intro W S;(try simp only [gd88] at S);have F:=S.fc))
             go_roundg k3
             case measure=>omega
             case rel=>first | (exact ⟨(wrap64 (x28_2 + 1)),x269002_3,_,_,(by first | rfl | (simp;done) | (simp [*];done) | (rw [w6_ (by omega) (by omega)])),H,(by first | omega | exact Nat.le_refl _),S⟩) | (exact ⟨(wrap64 (x28_2 + 1)),x269002_3,_,_,(by first | rfl | (simp;done) | (simp [*];done) | (rw [w6_ (by omega) (by omega)])),H,(by first | omega | exact Nat.le_refl _),(S.dk [2,3])⟩)
       · skip
         replace H:=Option.bind_eq_some_iff.mp H;obtain ⟨t269,A29,H⟩:=H;(try dsimp only at H)
         replace H:=np_ H;obtain ⟨c30,H⟩:=H
         (first | (with_reducible replace H:=ob_ H;obtain ⟨y270,hy270,H⟩:=H;(try dsimp only at H)) | (obtain ⟨y270,hy270⟩:∃ y_:List Int,y_ = (x9_1 ++ [t269]):=⟨_,rfl⟩;(try rw [← hy270] at H);(try simp only [Option.bind_some] at H)));have Ny270:=Aside0.mk hy270;clear hy270
         go_wp2_with (first | ((with_reducible refine gate_callee (f:=113) rfl (L ?_));refine cl (some 53) Try.func113 (spec_vfValue.calls _ _ _ _ _ _ _ _ _ _ S.c S.n A29) (hargs:=by (simp only [ma_,mb_,mc_,F] <;> rfl)) (h:=?_);rintro e W ⟨rfl,hb⟩;refine ⟨_,rfl,?_⟩;replace S:=S.go hb;clear F hb;have F:=S.fc) | ((with_reducible refine gd 55 rfl (L ?_));refine apa (A:=Ax9_1) 55 S Try.underlying23 info3 ?_ (ho:=rfl) (hs:=rfl) (hx:=rfl);clear S F;intro Ay270 cy270 W S;(try rw [← Ny270.out] at S ⊢);have F:=S.fc) | ((with_reducible refine gs (t:=3) rfl (L ?_));(first | refine sb (.int _ _) S sz3 ?_ | refine ro (.int _ _) S sz3 ?_ (ho:=rfl) (hx:=rfl) (hy:=rfl));clear S F;intro W S;(try simp only [gd88] at S);(try rw [← Ny270.out] at S);have F:=S.fc) | ((with_reducible refine gs (t:=50) rfl (L ?_));(first | refine sb (.agg #[_,_,_]) S sz50 ?_ | refine ro (.agg #[_,_,_]) S sz50 ?_ (ho:=rfl) (hx:=rfl) (hy:=rfl));clear S F;intro W S;(try simp only [gd88] at S);(try rw [← Ny270.out] at S);have F:=S.fc))
         go_roundg k2
         case measure=>omega
         case rel=>exact ⟨y270,(wrap64 (x10_1 + 1)),_,_,(by first | rfl | (simp;done) | (simp [*];done) | (rw [w6_ (by omega) (by omega)])),rfl,H,(by first | omega | exact Nat.le_refl _),S.tl.tl⟩
   · skip
     obtain rfl:=Option.some.inj H
     go_wp2_with (first | ((with_reducible refine gs (t:=3) rfl (L ?_));(first | refine sb (.int _ _) S sz3 ?_ | refine ro (.int _ _) S sz3 ?_ (ho:=rfl) (hx:=rfl) (hy:=rfl));clear S F;intro W S;(try simp only [gd88] at S);have F:=S.fc) | ((with_reducible refine gs (t:=50) rfl (L ?_));(first | refine sb (.agg #[_,_,_]) S sz50 ?_ | refine ro (.agg #[_,_,_]) S sz50 ?_ (ho:=rfl) (hx:=rfl) (hy:=rfl));clear S F;intro W S;(try simp only [gd88] at S);have F:=S.fc))
     go_ret
     exact ⟨_,(by first | rfl | (simp [e0_,e1_] <;> rfl) | (simp [*,e0_,e1_] <;> rfl)),(by first | exact S.r | exact Kd.R_nil _ _ _ _ _),S.below⟩

/-! ### spec_l1All: function 102 -/
def spec_l1All.l0:Nat→Int→Int→List Int→Int→Int→Option (Bool)
 | 0,_,_,_,_,_=>none
 | k + 1,x1,x2,x9,x10,x11=>if x11 < x10 then (if 0 ≤ x11 then (if x11 < (x9.length:Int) then ((spec_l1In.f (rd x9 x11) x1 x2).bind fun t278=>(if t278 = true then (spec_l1All.l0 k x1 x2 x9 x10 (wrap64 (x11 + 1))) else (some false))) else (none)) else (none)) else (some true)
def spec_l1All.f (k:Nat) (l0:List Int) (a1:Int) (a2:Int):Option (Bool):=spec_l1All.l0 k a1 a2 l0 (l0.length:Int) 0
theorem spec_l1All.calls (k:Nat) (A0:Option Addr) (c0:Nat) (l0:List Int) (a1:Int) (a2:Int) (r:Bool) (w:World) (hr0:Kd.C (Kd.int .i64) w A0 l0.length l0) (hc0:l0.length ≤ c0) (h:spec_l1All.f k l0 a1 a2 = some r) :
  Calls Try.prog 102 #[.slice A0 l0.length c0,.int .i64 a1,.int .i64 a2] w fun e w'=>e = .returned (.bool r)∧Drawn0 w w':=by
 have HR0:=Aside0.mk hr0;have HC0:=Aside0.mk hc0;clear hr0 hc0;have H:(spec_l1All.l0 k a1 a2 l0 (l0.length:Int) 0) = some r:=h;clear h;have H':=Aside0.mk H;clear H;go_enter Try.func102,Try.ntmps102;go_wp2;go_loopg [11] k (fun kq v11 w'=>∃ (x11_1:Int),v11 = .int .i64 x11_1∧Aside0 (spec_l1All.l0 kq a1 a2 l0 (l0.length:Int) x11_1 = some r)∧Aside0 (kq ≤ k)∧Drawn0 w w')
 case atStart=>exact ⟨(0),(by first | rfl | (simp;done) | (simp [*];done)),H',⟨Nat.le_refl _⟩,by repeat (first | exact Drawn0.refl _ | apply Drawn0.step)⟩
 case round =>
  clear H';(try clear c1);(try clear p2);obtain ⟨x11_1,rfl,HA,HK1,⟨m1,rfl⟩⟩:=hrel;cases gk with
  | zero=>exact absurd HA.out (by simp [spec_l1All.l0])
  | succ k1 =>
   have H:=HA.out;clear HA;simp only [spec_l1All.l0] at H;by_cases c4:x11_1 < (l0.length:Int)
   ·rw [if_pos c4] at H;have c4b0:decide (x11_1 < (l0.length:Int)) = true:=decide_eq_true c4;clear c4;replace H:=np_ H;obtain ⟨c5,H⟩:=H;have c5b0:decide (0 ≤ x11_1) = true:=decide_eq_true c5;clear c5;replace H:=np_ H;obtain ⟨c6,H⟩:=H;have c6b0:decide (x11_1 < (l0.length:Int)) = true:=decide_eq_true c6;clear c6;replace H:=Option.bind_eq_some_iff.mp H;obtain ⟨t278,A70,H⟩:=H;(try dsimp only at H)
    have A7:=Aside0.mk A70;clear A70;by_cases c8:t278 = true
    ·subst c8;have H1:(spec_l1All.l0 k1 a1 a2 l0 (l0.length:Int) (wrap64 (x11_1 + 1))) = some r:=by rw [if_pos rfl] at H;exact H
     clear H;have H:=H1;clear H1;have H':=Aside0.mk H;clear H;have p277:0 ≤ (x11_1:Int):=of_decide_eq_true (by first | (with_reducible assumption) | assumption);have q277:x11_1 < (l0.length:Int):=of_decide_eq_true (by first | (with_reducible assumption) | assumption);obtain ⟨ad277,e277,hx277_0⟩:=Kd.at_int HR0.out x11_1 p277 q277;cases e277;replace p277:=eq_true p277;replace q277:=eq_true q277;go_wp2_with (first | ((with_reducible refine gate_callee (f:=89) rfl ?_);refine gL_ (some 18) Try.func89 #[.int .i64 (rd l0 x11_1),.int .i64 a1,.int .i64 a2] (h:=?_);(with_reducible refine (spec_l1In.calls (rd l0 x11_1) a1 a2 true _ A7.out).mono ?_);rintro e w' ⟨rfl,⟨nd,rfl⟩⟩;refine ⟨_,rfl,?_⟩))
     go_roundg k1
     case measure=>have:=HK1.out;omega
     case rel=>exact ⟨(wrap64 (x11_1 + 1)),(by first | rfl | (simp;done) | (simp [*];done)),H',⟨by have:=HK1.out;omega⟩,by repeat (first | exact Drawn0.refl _ | apply Drawn0.step)⟩
    ·replace c8:=Bool.eq_false_iff.mpr c8;subst c8;have H1:(some false) = some r:=by rw [if_neg (show ¬ (false = true) by decide)] at H;exact H
     clear H;have H:=H1;clear H1;obtain rfl:=Option.some.inj H;have p277:0 ≤ (x11_1:Int):=of_decide_eq_true (by first | (with_reducible assumption) | assumption);have q277:x11_1 < (l0.length:Int):=of_decide_eq_true (by first | (with_reducible assumption) | assumption);obtain ⟨ad277,e277,hx277_0⟩:=Kd.at_int HR0.out x11_1 p277 q277;cases e277;replace p277:=eq_true p277;replace q277:=eq_true q277;go_wp2_with (first | ((with_reducible refine gate_callee (f:=89) rfl ?_);refine gL_ (some 18) Try.func89 #[.int .i64 (rd l0 x11_1),.int .i64 a1,.int .i64 a2] (h:=?_);(with_reducible refine (spec_l1In.calls (rd l0 x11_1) a1 a2 false _ A7.out).mono ?_);rintro e w' ⟨rfl,⟨nd,rfl⟩⟩;refine ⟨_,rfl,?_⟩))
     go_ret;exact ⟨by first | rfl | (simp;done) | (simp [*];done),by repeat (first | exact Drawn0.refl _ | apply Drawn0.step)⟩
   ·rw [if_neg c4] at H;have c4b0:decide (x11_1 < (l0.length:Int)) = false:=decide_eq_false c4;clear c4;obtain rfl:=Option.some.inj H;go_wp2;go_ret;exact ⟨by first | rfl | (simp;done) | (simp [*];done),by repeat (first | exact Drawn0.refl _ | apply Drawn0.step)⟩

/-! ### spec_ttInputs: function 114 -/
def spec_ttInputs.f (a0:Int):Option (Bool):=(spec_l1In.f a0 0 4).bind fun t279=>(some t279)
theorem spec_ttInputs.calls (a0:Int) (r:Bool) (w:World) (h:spec_ttInputs.f a0 = some r) :
  Calls Try.prog 114 #[.int .i64 a0] w fun e w'=>e = .returned (.bool r)∧Drawn0 w w':=by
 have H:((spec_l1In.f a0 0 4).bind fun t279=>(some t279)) = some r:=h;clear h;replace H:=Option.bind_eq_some_iff.mp H;obtain ⟨t279,A20,H⟩:=H;(try dsimp only at H)
 have A2:=Aside0.mk A20;clear A20;obtain rfl:=Option.some.inj H;go_enter Try.func114,Try.ntmps114;go_wp2_with (first | ((with_reducible refine gate_callee (f:=89) rfl ?_);refine gL_ (some 4) Try.func89 #[.int .i64 a0,.int .i64 0,.int .i64 4] (h:=?_);(with_reducible refine (spec_l1In.calls a0 0 4 t279 _ A2.out).mono ?_);rintro e w' ⟨rfl,⟨nd,rfl⟩⟩;refine ⟨_,rfl,?_⟩))
 go_ret;exact ⟨by first | rfl | (simp;done) | (simp [*];done),by repeat (first | exact Drawn0.refl _ | apply Drawn0.step)⟩

/-! ### spec_ttGood: function 78 -/
def spec_ttGood.f (k:Nat) (a0_0:Int) (l0_1:List Int):Option (Bool):=(spec_ttInputs.f a0_0).bind fun t281=>(if t281 = true then (if 0 ≤ (IntKind.u64.wrap (a0_0)) then (if (l0_1.length:Int) = (shl .i64 1 (IntKind.u64.wrap (a0_0))) then ((spec_l1All.f k l0_1 0 1).bind fun t282=>(some t282)) else (some false)) else (none)) else (some false))
theorem spec_ttGood.calls (k:Nat) (a0_0:Int) (A0_1:Option Addr) (c0_1:Nat) (l0_1:List Int) (r:Bool) (w:World) (hr0_1:Kd.C (Kd.int .i64) w A0_1 l0_1.length l0_1) (hc0_1:l0_1.length ≤ c0_1) (h:spec_ttGood.f k a0_0 l0_1 = some r) :
    Calls Try.prog 78 #[.agg #[.int .i64 a0_0,.slice A0_1 l0_1.length c0_1]] w fun e w'=>e = .returned (.bool r)∧Below w.heap.size w w':=by
 have S:=St.init (w:=w) (dc (Kd.heap_int .i64) (atI .i64) hr0_1 hc0_1 dn)
 clear hr0_1 hc0_1
 have F:=S.fc
 have H:=h;clear h;unfold spec_ttGood.f at H
 replace H:=Option.bind_eq_some_iff.mp H;obtain ⟨t281,A2,H⟩:=H;(try dsimp only at H)
 replace H:=sp_ H;rcases H with ⟨c3,H⟩ | ⟨c3,H⟩
 · skip
   subst c3
   obtain ⟨ji4,hji4⟩:∃ j_:Int,(IntKind.u64.wrap (a0_0)) = j_:=⟨_,rfl⟩;simp only [hji4] at H
   (try rw [hji4] at A2)
   replace H:=np_ H;obtain ⟨c5,H⟩:=H
   obtain ⟨ji6,hji6⟩:∃ j_:Int,(shl .i64 1 (ji4)) = j_:=⟨_,rfl⟩;simp only [hji6] at H
   (try rw [hji6] at A2)
   have hji6_:(IntKind.i64.wrap (1 * 2 ^ min (ji4).toNat 64)) = ji6:=hji6
   have hji6z:(ji4) ≤ 64→(IntKind.i64.wrap (1 * 2 ^ (ji4).toNat)) = ji6:=shl_small hji6
   have hji6u:(IntKind.i64.wrap (2 ^ min (ji4).toNat 64)) = ji6:=by have h_:=hji6_;rw [Int.one_mul] at h_;exact h_
   have hji6v:(ji4) ≤ 64→(IntKind.i64.wrap (2 ^ (ji4).toNat)) = ji6:=fun hle_=>by have h_:=hji6z hle_;rw [Int.one_mul] at h_;exact h_
   have hji6y:(wrap64 (1 * 2 ^ min (ji4).toNat 64)) = ji6:=(i64_w _).symm.trans hji6_
   have hji6x:(ji4) ≤ 64→(wrap64 (1 * 2 ^ (ji4).toNat)) = ji6:=fun h_=>(i64_w _).symm.trans (hji6z h_)
   replace H:=sp_ H;rcases H with ⟨c7,H⟩ | ⟨c7,H⟩
   · skip
     replace c7:=ceq c7
     replace H:=Option.bind_eq_some_iff.mp H;obtain ⟨t282,A8,H⟩:=H;(try dsimp only at H)
     obtain rfl:=Option.some.inj H
     go_enter Try.func78,Try.ntmps78
     go_wp2_with (first | ((with_reducible refine gd 1 rfl (L ?_));refine bo 1 (.agg #[_,_]) S ?_;clear S F;intro gb280 W S;have F:=S.fc) | ((with_reducible refine gate_callee (f:=114) rfl (L ?_));refine cl (some 5) Try.func114 (spec_ttInputs.calls _ _ _ A2) (hargs:=by (simp only [ma_,mb_,mc_,F] <;> rfl)) (h:=?_);rintro e W ⟨rfl,hb⟩;refine ⟨_,rfl,?_⟩;replace S:=S.gw hb;clear F hb;have F:=S.fc) | (go_at_call 102;(try simp only [F]);refine (spec_l1All.calls _ _ _ _ _ _ _ _ S.c S.n A8).mono ?_;rintro e W ⟨rfl,hb⟩;replace S:=S.gw hb;clear F hb;have F:=S.fc))
     go_ret
     exact ⟨(by first | rfl | (simp [e0_,e1_] <;> rfl) | (simp [*,e0_,e1_] <;> rfl)),S.below⟩
   · skip
     replace c7:=cne c7
     obtain rfl:=Option.some.inj H
     go_enter Try.func78,Try.ntmps78
     go_wp2_with (first | ((with_reducible refine gd 1 rfl (L ?_));refine bo 1 (.agg #[_,_]) S ?_;clear S F;intro gb280 W S;have F:=S.fc) | ((with_reducible refine gate_callee (f:=114) rfl (L ?_));refine cl (some 5) Try.func114 (spec_ttInputs.calls _ _ _ A2) (hargs:=by (simp only [ma_,mb_,mc_,F] <;> rfl)) (h:=?_);rintro e W ⟨rfl,hb⟩;refine ⟨_,rfl,?_⟩;replace S:=S.gw hb;clear F hb;have F:=S.fc))
     go_ret
     exact ⟨(by first | rfl | (simp [e0_,e1_] <;> rfl) | (simp [*,e0_,e1_] <;> rfl)),S.below⟩
 · skip
   replace c3:=cbf c3;subst c3
   obtain rfl:=Option.some.inj H
   go_enter Try.func78,Try.ntmps78
   go_wp2_with (first | ((with_reducible refine gd 1 rfl (L ?_));refine bo 1 (.agg #[_,_]) S ?_;clear S F;intro gb280 W S;have F:=S.fc) | ((with_reducible refine gate_callee (f:=114) rfl (L ?_));refine cl (some 5) Try.func114 (spec_ttInputs.calls _ _ _ A2) (hargs:=by (simp only [ma_,mb_,mc_,F] <;> rfl)) (h:=?_);rintro e W ⟨rfl,hb⟩;refine ⟨_,rfl,?_⟩;replace S:=S.gw hb;clear F hb;have F:=S.fc))
   go_ret
   exact ⟨(by first | rfl | (simp [e0_,e1_] <;> rfl) | (simp [*,e0_,e1_] <;> rfl)),S.below⟩

/-! ### laws_toCell: function 97 -/
def laws_toCell.f (a0_0:Int) (a0_1:Int):Option (Int × Int):=some (a0_0,a0_1)
theorem laws_toCell.calls (a0_0:Int) (a0_1:Int) (r1:Int) (r2:Int) (w:World) (h:laws_toCell.f a0_0 a0_1 = some (r1,r2)) :
    Calls Try.prog 97 #[.agg #[.int .i64 a0_0,.int .i64 a0_1]] w fun e w'=>e = .returned (.agg #[.int .i64 r1,.int .i64 r2])∧Below w.heap.size w w':=by
 have S:=St.init (w:=w) dn
 have F:=S.fc
 have H:=h;clear h;unfold laws_toCell.f at H
 simp only [Option.some.injEq,Prod.mk.injEq] at H
 obtain ⟨rfl,rfl⟩:=H
 go_enter Try.func97,Try.ntmps97
 go_wp2_with (first | ((with_reducible refine gd 1 rfl (L ?_));refine bo 1 (.agg #[_,_]) S ?_;clear S F;intro gb291 W S;have F:=S.fc) | ((with_reducible refine gd 2 rfl (L ?_));refine al 2 S zi88 ?_;clear S F;intro gb292 W S;have F:=S.fc) | ((with_reducible refine gd 3 rfl (L ?_));refine al 3 S zi88 ?_;clear S F;intro gb293 W S;have F:=S.fc) | ((with_reducible refine gs (t:=3) rfl (L ?_));(first | refine sb (.int _ _) S sz3 ?_ | refine ro (.int _ _) S sz3 ?_ (ho:=rfl) (hx:=rfl) (hy:=rfl));(clear S F;intro W S;have F:=S.fc)) | ((with_reducible refine gs (t:=88) rfl (L ?_));(first | refine sb (.agg #[_,_]) S sz88 ?_ | refine ro (.agg #[_,_]) S sz88 ?_ (ho:=rfl) (hx:=rfl) (hy:=rfl));(clear S F;intro W S;have F:=S.fc)))
 refine bodyPost_ret (results_cell_row rfl _ _ gb292 88 #[.int .i64 a0_0,.int .i64 a0_1] (0,0) _ rfl S.hb Try.underlying88 rfl (by kernel_rfl)) rfl ?_
 exact ⟨(by first | rfl | (simp [e0_,e1_] <;> rfl) | (simp [*,e0_,e1_] <;> rfl)),S.below⟩

/-! ### laws_toCellS: function 61 -/
def laws_toCellS.l0:Nat→List (S106)→List (S88)→Int→Option ((List (S88)))
  | 0,_,_,_=>none
  | k + 1,x0,x3,x4=>if x4 < (x0.length:Int) then (if 0 ≤ x4 then ((laws_toCell.f ((rd_T106 x0 x4).f0) ((rd_T106 x0 x4).f1)).bind fun bt298=>(if x4 < (x3.length:Int) then (laws_toCellS.l0 k x0 (x3.set (x4:Int).toNat (⟨bt298.1,bt298.2⟩:S88)) (wrap64 (x4 + 1))) else (none))) else (none)) else (some x3)
def laws_toCellS.f (k:Nat) (l0:List (S106)):Option ((List (S88))):=if 0 ≤ (l0.length:Int) then (if ((l0.length:Int):Int).toNat ≤ 17592186044416 then (laws_toCellS.l0 k l0 (List.replicate ((l0.length:Int):Int).toNat z88) 0) else (none)) else (none)
theorem laws_toCellS.calls (k:Nat) (A0:Option Addr) (c0:Nat) (l0:List (S106)) (r:List (S88)) (w:World) (hr0:Kd.C k106 w A0 l0.length l0) (hc0:l0.length ≤ c0) (h:laws_toCellS.f k l0 = some r) :
    Calls Try.prog 61 #[.slice A0 l0.length c0] w fun e w'=>∃ v0_:Value,e = .returned (v0_)∧Kd.R k88 88 w' w.heap.size (fun _=>True) v0_ r∧Below w.heap.size w w':=by
 have S:=St.init (w:=w) (dc k106_heap at106 hr0 hc0 dn)
 clear hr0 hc0
 have F:=S.fc
 have H:=h;clear h;unfold laws_toCellS.f at H
 replace H:=np_ H;obtain ⟨c2,H⟩:=H;(try simp only [F] at c2)
 replace H:=np_ H;obtain ⟨c3,H⟩:=H;(try simp only [F] at c3)
 (first | (with_reducible replace H:=ob_ H;obtain ⟨y294,hy294,H⟩:=H;(try dsimp only at H)) | (obtain ⟨y294,hy294⟩:∃ y_:List (S88),y_ = (List.replicate ((l0.length:Int):Int).toNat z88):=⟨_,rfl⟩;(try rw [← hy294] at H);(try simp only [Option.bind_some] at H)));have Ny294:=Aside0.mk hy294;clear hy294
 go_enter Try.func61,Try.ntmps61
 go_wp2_with (first | ((with_reducible refine gd 7 rfl (L ?_));refine mka 7 at88 S Try.underlying29 info88 ?_;clear S F;intro Ay294 cy294 W S;(try simp only [Int.reduceToNat] at S ⊢);(try rw [← Ny294.out] at S ⊢);have F:=S.fc) | ((with_reducible refine gs (t:=88) rfl (L ?_));(first | refine sb (.agg #[_,_]) S sz88 ?_ | refine ro (.agg #[_,_]) S sz88 ?_ (ho:=rfl) (hx:=rfl) (hy:=rfl));clear S F;intro W S;(try simp only [gd88,gd106] at S);(try rw [← Ny294.out] at S);have F:=S.fc))
 go_loopg [4] k (fun kq v4 w'=>∃ (x3_1:List (S88)) (x4_1:Int),v4 = .int .i64 x4_1∧laws_toCellS.l0 kq l0 x3_1 x4_1 = some r∧kq ≤ k∧St w w (fun _=>False) [bor at106 A0 c0 l0] w'  [row at88 88 Ay294 y294.length cy294 x3_1])
 case atStart=>exact ⟨y294,0,(by first | rfl | (simp;done) | (simp [*];done) | (rw [w6_ (by omega) (by omega)])),(by first | exact H | (simp only [F];exact H)),Nat.le_refl _,S⟩
 case round =>
  clear H S F
  obtain ⟨x3_1,x4_1,rfl,HA,HK1,S⟩:=hrel
  have F:=S.fc
  cases gk with
  | zero=>exact absurd HA (by simp [laws_toCellS.l0])
  | succ k1 =>
   have H:=HA;clear HA;simp only [laws_toCellS.l0,F] at H
   replace H:=sp_ H;rcases H with ⟨c6,H⟩ | ⟨c6,H⟩
   · skip
     replace H:=np_ H;obtain ⟨c7,H⟩:=H;(try simp only [F] at c7)
     replace H:=Option.bind_eq_some_iff.mp H;obtain ⟨⟨t298,t299⟩,A8,H⟩:=H;(try dsimp only at H)
     replace H:=np_ H;obtain ⟨c9,H⟩:=H;(try simp only [F] at c9)
     (first | (with_reducible replace H:=ob_ H;obtain ⟨y300,hy300,H⟩:=H;(try dsimp only at H)) | (obtain ⟨y300,hy300⟩:∃ y_:List (S88),y_ = (x3_1.set (x4_1:Int).toNat (⟨t298,t299⟩:S88)):=⟨_,rfl⟩;(try rw [← hy300] at H);(try simp only [Option.bind_some] at H)));have Ny300:=Aside0.mk hy300;clear hy300
     go_wp2_with (first | ((with_reducible refine gate_callee (f:=97) rfl (L ?_));refine cl (some 20) Try.func97 (laws_toCell.calls _ _ _ _ _ A8) (hargs:=by (simp only [ma_,mb_,mc_,F] <;> rfl)) (h:=?_);rintro e W ⟨rfl,hb⟩;refine ⟨_,rfl,?_⟩;replace S:=S.go hb;clear F hb;have F:=S.fc) | ((with_reducible refine gs (t:=88) rfl (L ?_));(first | refine sb (.agg #[_,_]) S sz88 ?_ | refine ro (.agg #[_,_]) S sz88 ?_ (ho:=rfl) (hx:=rfl) (hy:=rfl));clear S F;intro W S;(try simp only [gd88,gd106] at S);(try rw [← Ny294.out] at S);(try rw [← Ny300.out] at S);have F:=S.fc))
     go_roundg k1
     case measure=>omega
     case rel=>exact ⟨y300,(wrap64 (x4_1 + 1)),(by first | rfl | (simp;done) | (simp [*];done) | (rw [w6_ (by omega) (by omega)])),(by first | exact H | (simp only [F];exact H)),(by first | omega | exact Nat.le_refl _),S⟩
   · skip
     obtain rfl:=Option.some.inj H
     go_wp2_with (first | ((with_reducible refine gs (t:=88) rfl (L ?_));(first | refine sb (.agg #[_,_]) S sz88 ?_ | refine ro (.agg #[_,_]) S sz88 ?_ (ho:=rfl) (hx:=rfl) (hy:=rfl));clear S F;intro W S;(try simp only [gd88,gd106] at S);(try rw [← Ny294.out] at S);have F:=S.fc))
     go_ret
     exact ⟨_,(by first | rfl | (simp [e0_,e1_] <;> rfl) | (simp [*,e0_,e1_] <;> rfl)),(by first | exact S.r | exact Kd.R_nil _ _ _ _ _),S.below⟩

/-! ### laws_toBoard: function 32 -/
def laws_toBoard.f (k:Nat) (a0_0:Int) (a0_1:Int) (l0_2:List (S106)):Option (Int × Int × (List (S88))):=(laws_toCellS.f k l0_2).bind fun t304=>(some (a0_0,a0_1,t304))
theorem laws_toBoard.calls (k:Nat) (a0_0:Int) (a0_1:Int) (A0_2:Option Addr) (c0_2:Nat) (l0_2:List (S106)) (r1:Int) (r2:Int) (r3:List (S88)) (w:World) (hr0_2:Kd.C k106 w A0_2 l0_2.length l0_2) (hc0_2:l0_2.length ≤ c0_2) (h:laws_toBoard.f k a0_0 a0_1 l0_2 = some (r1,r2,r3)) :
    Calls Try.prog 32 #[.agg #[.int .i64 a0_0,.int .i64 a0_1,.slice A0_2 l0_2.length c0_2]] w fun e w'=>∃ v2_:Value,e = .returned (.agg #[.int .i64 r1,.int .i64 r2,v2_])∧Kd.R k88 88 w' w.heap.size (fun _=>True) v2_ r3∧Below w.heap.size w w':=by
 have S:=St.init (w:=w) (dc k106_heap at106 hr0_2 hc0_2 dn)
 clear hr0_2 hc0_2
 have F:=S.fc
 have H:=h;clear h;unfold laws_toBoard.f at H
 replace H:=Option.bind_eq_some_iff.mp H;obtain ⟨t304,A2,H⟩:=H;(try dsimp only at H)
 simp only [Option.some.injEq,Prod.mk.injEq] at H
 obtain ⟨rfl,rfl,rfl⟩:=H
 go_enter Try.func32,Try.ntmps32
 go_wp2_with (first | ((with_reducible refine gd 1 rfl (L ?_));refine bo 1 (.agg #[_,_,_]) S ?_;clear S F;intro gb301 W S;have F:=S.fc) | ((with_reducible refine gd 2 rfl (L ?_));refine al 2 S zi50 ?_;clear S F;intro gb302 W S;have F:=S.fc) | ((with_reducible refine gd 3 rfl (L ?_));refine al 3 S zi50 ?_;clear S F;intro gb303 W S;have F:=S.fc) | ((with_reducible refine gate_callee (f:=61) rfl (L ?_));refine cl (some 12) Try.func61 (laws_toCellS.calls _ _ _ _ _ _ S.c S.n A2) (hargs:=by (simp only [ma_,mb_,mc_,F] <;> rfl)) (h:=?_);rintro e W ⟨v305,rfl,ho0,hb⟩;refine ⟨_,rfl,?_⟩;replace S:=S.got at88 hb ho0;obtain ⟨At304,ct304,rfl,S⟩:=S;clear F hb ho0;have F:=S.fc) | ((with_reducible refine gs (t:=3) rfl (L ?_));(first | refine sb (.int _ _) S sz3 ?_ | refine ro (.int _ _) S sz3 ?_ (ho:=rfl) (hx:=rfl) (hy:=rfl));(clear S F;intro W S;have F:=S.fc)) | ((with_reducible refine gs (t:=29) rfl (L ?_));(first | refine sb (.slice _ _ _) S sz29 ?_ | refine ro (.slice _ _ _) S sz29 ?_ (ho:=rfl) (hx:=rfl) (hy:=rfl));(clear S F;intro W S;have F:=S.fc)) | ((with_reducible refine gs (t:=50) rfl (L ?_));(first | refine sb (.agg #[_,_,_]) S sz50 ?_ | refine ro (.agg #[_,_,_]) S sz50 ?_ (ho:=rfl) (hx:=rfl) (hy:=rfl));(clear S F;intro W S;have F:=S.fc)))
 refine bodyPost_ret (results_cell_row rfl _ _ gb302 50 #[.int .i64 a0_0,.int .i64 a0_1,.slice At304 t304.length ct304] (0,0) _ rfl S.hb Try.underlying50 rfl (by kernel_rfl)) rfl ?_
 exact ⟨_,(by first | rfl | (simp [e0_,e1_] <;> rfl) | (simp [*,e0_,e1_] <;> rfl)),(by first | exact S.r | exact Kd.R_nil _ _ _ _ _),S.below⟩

/-! ### laws_toIntS: function 62 -/
def laws_toIntS.l0:Nat→List Int→List Int→Int→Option (List Int)
  | 0,_,_,_=>none
  | k + 1,x0,x3,x4=>if x4 < (x0.length:Int) then (if 0 ≤ x4 then (if x4 < (x3.length:Int) then (laws_toIntS.l0 k x0 (x3.set (x4:Int).toNat (rd x0 x4)) (wrap64 (x4 + 1))) else (none)) else (none)) else (some x3)
def laws_toIntS.f (k:Nat) (l0:List Int):Option (List Int):=if 0 ≤ (l0.length:Int) then (if ((l0.length:Int):Int).toNat ≤ 35184372088832 then (laws_toIntS.l0 k l0 (List.replicate ((l0.length:Int):Int).toNat 0) 0) else (none)) else (none)
theorem laws_toIntS.calls (k:Nat) (A0:Option Addr) (c0:Nat) (l0:List Int) (r:List Int) (w:World) (hr0:Kd.C (Kd.int .i64) w A0 l0.length l0) (hc0:l0.length ≤ c0) (h:laws_toIntS.f k l0 = some r) :
    Calls Try.prog 62 #[.slice A0 l0.length c0] w fun e w'=>∃ v0_:Value,e = .returned (v0_)∧Kd.R (Kd.int .i64) 3 w' w.heap.size (fun _=>True) v0_ r∧Below w.heap.size w w':=by
 have S:=St.init (w:=w) (dc (Kd.heap_int .i64) (atI .i64) hr0 hc0 dn)
 clear hr0 hc0
 have F:=S.fc
 have H:=h;clear h;unfold laws_toIntS.f at H
 replace H:=np_ H;obtain ⟨c2,H⟩:=H;(try simp only [F] at c2)
 replace H:=np_ H;obtain ⟨c3,H⟩:=H;(try simp only [F] at c3)
 (first | (with_reducible replace H:=ob_ H;obtain ⟨y307,hy307,H⟩:=H;(try dsimp only at H)) | (obtain ⟨y307,hy307⟩:∃ y_:List Int,y_ = (List.replicate ((l0.length:Int):Int).toNat 0):=⟨_,rfl⟩;(try rw [← hy307] at H);(try simp only [Option.bind_some] at H)));have Ny307:=Aside0.mk hy307;clear hy307
 go_enter Try.func62,Try.ntmps62
 go_wp2_with (first | ((with_reducible refine gd 7 rfl (L ?_));refine mka 7 (atI .i64) S Try.underlying23 info3 ?_;clear S F;intro Ay307 cy307 W S;(try simp only [Int.reduceToNat] at S ⊢);(try rw [← Ny307.out] at S ⊢);have F:=S.fc) | ((with_reducible refine gs (t:=3) rfl (L ?_));(first | refine sb (.int _ _) S sz3 ?_ | refine ro (.int _ _) S sz3 ?_ (ho:=rfl) (hx:=rfl) (hy:=rfl));clear S F;intro W S;(try rw [← Ny307.out] at S);have F:=S.fc))
 go_loopg [4] k (fun kq v4 w'=>∃ (x3_1:List Int) (x4_1:Int),v4 = .int .i64 x4_1∧laws_toIntS.l0 kq l0 x3_1 x4_1 = some r∧kq ≤ k∧St w w (fun _=>False) [bor (atI .i64) A0 c0 l0] w'  [row (atI .i64) 3 Ay307 y307.length cy307 x3_1])
 case atStart=>exact ⟨y307,0,(by first | rfl | (simp;done) | (simp [*];done) | (rw [w6_ (by omega) (by omega)])),(by first | exact H | (simp only [F];exact H)),Nat.le_refl _,S⟩
 case round =>
  clear H S F
  obtain ⟨x3_1,x4_1,rfl,HA,HK1,S⟩:=hrel
  have F:=S.fc
  cases gk with
  | zero=>exact absurd HA (by simp [laws_toIntS.l0])
  | succ k1 =>
   have H:=HA;clear HA;simp only [laws_toIntS.l0,F] at H
   replace H:=sp_ H;rcases H with ⟨c6,H⟩ | ⟨c6,H⟩
   · skip
     replace H:=np_ H;obtain ⟨c7,H⟩:=H;(try simp only [F] at c7)
     replace H:=np_ H;obtain ⟨c8,H⟩:=H;(try simp only [F] at c8)
     (first | (with_reducible replace H:=ob_ H;obtain ⟨y311,hy311,H⟩:=H;(try dsimp only at H)) | (obtain ⟨y311,hy311⟩:∃ y_:List Int,y_ = (x3_1.set (x4_1:Int).toNat (rd l0 x4_1)):=⟨_,rfl⟩;(try rw [← hy311] at H);(try simp only [Option.bind_some] at H)));have Ny311:=Aside0.mk hy311;clear hy311
     go_wp2_with (first | ((with_reducible refine gs (t:=3) rfl (L ?_));(first | refine sb (.int _ _) S sz3 ?_ | refine ro (.int _ _) S sz3 ?_ (ho:=rfl) (hx:=rfl) (hy:=rfl));clear S F;intro W S;(try rw [← Ny307.out] at S);(try rw [← Ny311.out] at S);have F:=S.fc))
     go_roundg k1
     case measure=>omega
     case rel=>exact ⟨y311,(wrap64 (x4_1 + 1)),(by first | rfl | (simp;done) | (simp [*];done) | (rw [w6_ (by omega) (by omega)])),(by first | exact H | (simp only [F];exact H)),(by first | omega | exact Nat.le_refl _),S⟩
   · skip
     obtain rfl:=Option.some.inj H
     go_wp2_with (first | ((with_reducible refine gs (t:=3) rfl (L ?_));(first | refine sb (.int _ _) S sz3 ?_ | refine ro (.int _ _) S sz3 ?_ (ho:=rfl) (hx:=rfl) (hy:=rfl));clear S F;intro W S;(try rw [← Ny307.out] at S);have F:=S.fc))
     go_ret
     exact ⟨_,(by first | rfl | (simp [e0_,e1_] <;> rfl) | (simp [*,e0_,e1_] <;> rfl)),(by first | exact S.r | exact Kd.R_nil _ _ _ _ _),S.below⟩

/-! ### laws_toIntSS: function 33 -/
def laws_toIntSS.l0:Nat→List (List Int)→List (List Int)→Int→Option ((List (List Int)))
  | 0,_,_,_=>none
  | k + 1,x0,x3,x4=>if x4 < (x0.length:Int) then (if 0 ≤ x4 then ((laws_toIntS.f k (rd_L2 x0 x4)).bind fun t316=>(if x4 < (x3.length:Int) then (laws_toIntSS.l0 k x0 (x3.set (x4:Int).toNat t316) (wrap64 (x4 + 1))) else (none))) else (none)) else (some x3)
def laws_toIntSS.f (k:Nat) (l0:List (List Int)):Option ((List (List Int))):=if 0 ≤ (l0.length:Int) then (if ((l0.length:Int):Int).toNat ≤ 11728124029610 then (laws_toIntSS.l0 k l0 (List.replicate ((l0.length:Int):Int).toNat []) 0) else (none)) else (none)
theorem laws_toIntSS.calls (k:Nat) (A0:Option Addr) (c0:Nat) (l0:List (List Int)) (r:List (List Int)) (w:World) (hr0:Kd.C (Kd.slice 3 (Kd.int .i64)) w A0 l0.length l0) (hc0:l0.length ≤ c0) (h:laws_toIntSS.f k l0 = some r) :
    Calls Try.prog 33 #[.slice A0 l0.length c0] w fun e w'=>∃ v0_:Value,e = .returned (v0_)∧Kd.S (Kd.slice 3 (Kd.int .i64)) 23 w' w.heap.size (fun _=>True) v0_ r∧Below w.heap.size w w':=by
 have S:=St.init (w:=w) (dc (Kd.heap_slice 3 (Kd.heap_int .i64)) (atU (d:=Kd.slice 3 (Kd.int .i64))) hr0 hc0 dn)
 clear hr0 hc0
 have F:=S.fc
 have H:=h;clear h;unfold laws_toIntSS.f at H
 replace H:=np_ H;obtain ⟨c1,H⟩:=H
 replace H:=np_ H;obtain ⟨c2,H⟩:=H
 obtain ⟨y7,hy7⟩:∃ y_:List (List Int),y_ = List.replicate (l0.length:Int).toNat []:=⟨_,rfl⟩
 rw [← hy7] at H;have Ny7:=Aside0.mk hy7;clear hy7
 go_enter Try.func33,Try.ntmps33
 go_wp2_with (first | ((with_reducible refine gd 7 rfl (L ?_));refine mks 7 23 3 (Kd.int .i64) S Try.underlying42 info23 ?_;clear S F;intro Ao co W S;rw [← Ny7.out] at S ⊢;have F:=S.fc))
 go_loopg [4] k (fun kq v4 w'=>∃ (x4:Int) (x3:List (List Int)),v4 = .int .i64 x4∧laws_toIntSS.l0 kq l0 x3 x4 = some r∧kq ≤ k∧St w w (fun _=>False) [bor (atU (d:=Kd.slice 3 (Kd.int .i64))) A0 c0 l0] w' [srow (Kd.slice 3 (Kd.int .i64)) 23 Ao y7.length co x3])
 case atStart=>exact ⟨0,y7,(by first | rfl | (simp;done) | (simp [*];done) | (rw [w6_ (by omega) (by omega)])),(by first | exact H | (simp only [F];exact H)),Nat.le_refl _,S⟩
 case round =>
  clear H S F
  obtain ⟨x4,x3,rfl,HA,HK1,S⟩:=hrel
  have F:=S.fc
  cases gk with
  | zero=>exact absurd HA (by simp [laws_toIntSS.l0])
  | succ k1 =>
   have H:=HA;clear HA;simp only [laws_toIntSS.l0] at H
   replace H:=sp_ H;rcases H with ⟨c6,H⟩ | ⟨c6,H⟩
   · skip
     replace H:=np_ H;obtain ⟨c7,H⟩:=H
     replace H:=Option.bind_eq_some_iff.mp H;obtain ⟨t2,A4,H⟩:=H;(try dsimp only at H)
     replace H:=np_ H;obtain ⟨c8,H⟩:=H
     simp only [F] at c8
     obtain ⟨A5,c5,S⟩:=S.inn l0 (atI .i64) x4 (rd_L2 l0 x4)
     obtain ⟨Ax,cx,S⟩:=S.spl Ao (atI .i64) x4 (rd_L2 x3 x4)
     replace S:=S.tl
     clear F;have F:=S.fc
     go_wp2_with (first | ((with_reducible refine gate_callee (f:=62) rfl (L ?_));refine cl (some 20) Try.func62 (laws_toIntS.calls _ _ _ _ _ _ S.c S.n A4) (hargs:=by (simp only [ma_,mb_,mc_,F] <;> rfl)) (h:=?_);rintro e W ⟨v1,rfl,ho0,hb⟩;refine ⟨_,rfl,?_⟩;replace S:=S.got (atI .i64) hb ho0;obtain ⟨A8,c8_,rfl,S⟩:=S;clear F hb ho0;have F:=S.fc) | ((with_reducible refine gs (t:=23) rfl (L ?_));refine sh (A:=Ao) (.slice A8 _ _) S sz23 ?_;clear S F;intro W S;replace S:=S.joi Ao A8;have F:=S.fc))
     go_roundg k1
     case measure=>omega
     case rel=>exact ⟨(wrap64 (x4 + 1)),_,(by first | rfl | (simp;done) | (simp [*];done) | (rw [w6_ (by omega) (by omega)])),(by first | exact H | (simp only [F];exact H)),(by first | omega | exact Nat.le_refl _),((S.dk [2]).tl)⟩
   · skip
     obtain rfl:=Option.some.inj H
     go_wp2
     go_ret
     exact ⟨_,(by first | rfl | (simp [e0_,e1_] <;> rfl) | (simp [*,e0_,e1_] <;> rfl)),S.rS Ao,S.below⟩

/-! ### impl_IsCell: function 98 -/
def impl_IsCell.f (a0_0:Int) (a0_1:Int):Option (Bool):=if a0_0 < 0 then (some false) else (if a0_0 > 7 then (some false) else (if a0_1 < 0 then (some false) else (if a0_1 > 1 then (some false) else (if a0_1 = 0 then (some true) else (if a0_0 = 3 then (some true) else (some (a0_0 == 6)))))))
theorem impl_IsCell.calls (a0_0:Int) (a0_1:Int) (r:Bool) (w:World) (h:impl_IsCell.f a0_0 a0_1 = some r) :
    Calls Try.prog 98 #[.agg #[.int .i64 a0_0,.int .i64 a0_1]] w fun e w'=>e = .returned (.bool r)∧Below w.heap.size w w':=by
 have S:=St.init (w:=w) dn
 have F:=S.fc
 have H:=h;clear h;unfold impl_IsCell.f at H
 replace H:=sp_ H;rcases H with ⟨c2,H⟩ | ⟨c2,H⟩
 · skip
   obtain rfl:=Option.some.inj H
   go_enter Try.func98,Try.ntmps98
   go_wp2_with (first | ((with_reducible refine gd 1 rfl (L ?_));refine bo 1 (.agg #[_,_]) S ?_;clear S F;intro gb320 W S;have F:=S.fc))
   go_ret
   exact ⟨(by first | rfl | (simp [e0_,e1_] <;> rfl) | (simp [*,e0_,e1_] <;> rfl)),S.below⟩
 · skip
   replace H:=sp_ H;rcases H with ⟨c5,H⟩ | ⟨c5,H⟩
   · skip
     obtain rfl:=Option.some.inj H
     go_enter Try.func98,Try.ntmps98
     go_wp2_with (first | ((with_reducible refine gd 1 rfl (L ?_));refine bo 1 (.agg #[_,_]) S ?_;clear S F;intro gb320 W S;have F:=S.fc))
     go_ret
     exact ⟨(by first | rfl | (simp [e0_,e1_] <;> rfl) | (simp [*,e0_,e1_] <;> rfl)),S.below⟩
   · skip
     replace H:=sp_ H;rcases H with ⟨c8,H⟩ | ⟨c8,H⟩
     · skip
       obtain rfl:=Option.some.inj H
       go_enter Try.func98,Try.ntmps98
       go_wp2_with (first | ((with_reducible refine gd 1 rfl (L ?_));refine bo 1 (.agg #[_,_]) S ?_;clear S F;intro gb320 W S;have F:=S.fc))
       go_ret
       exact ⟨(by first | rfl | (simp [e0_,e1_] <;> rfl) | (simp [*,e0_,e1_] <;> rfl)),S.below⟩
     · skip
       replace H:=sp_ H;rcases H with ⟨c11,H⟩ | ⟨c11,H⟩
       · skip
         obtain rfl:=Option.some.inj H
         go_enter Try.func98,Try.ntmps98
         go_wp2_with (first | ((with_reducible refine gd 1 rfl (L ?_));refine bo 1 (.agg #[_,_]) S ?_;clear S F;intro gb320 W S;have F:=S.fc))
         go_ret
         exact ⟨(by first | rfl | (simp [e0_,e1_] <;> rfl) | (simp [*,e0_,e1_] <;> rfl)),S.below⟩
       · skip
         replace H:=sp_ H;rcases H with ⟨c14,H⟩ | ⟨c14,H⟩
         · skip
           replace c14:=ceq c14
           obtain rfl:=Option.some.inj H
           go_enter Try.func98,Try.ntmps98
           go_wp2_with (first | ((with_reducible refine gd 1 rfl (L ?_));refine bo 1 (.agg #[_,_]) S ?_;clear S F;intro gb320 W S;have F:=S.fc))
           go_ret
           exact ⟨(by first | rfl | (simp [e0_,e1_] <;> rfl) | (simp [*,e0_,e1_] <;> rfl)),S.below⟩
         · skip
           replace c14:=cne c14
           replace H:=sp_ H;rcases H with ⟨c17,H⟩ | ⟨c17,H⟩
           · skip
             replace c17:=ceq c17
             obtain rfl:=Option.some.inj H
             go_enter Try.func98,Try.ntmps98
             go_wp2_with (first | ((with_reducible refine gd 1 rfl (L ?_));refine bo 1 (.agg #[_,_]) S ?_;clear S F;intro gb320 W S;have F:=S.fc))
             go_ret
             exact ⟨(by first | rfl | (simp [e0_,e1_] <;> rfl) | (simp [*,e0_,e1_] <;> rfl)),S.below⟩
           · skip
             replace c17:=cne c17
             obtain rfl:=Option.some.inj H
             go_enter Try.func98,Try.ntmps98
             go_wp2_with (first | ((with_reducible refine gd 1 rfl (L ?_));refine bo 1 (.agg #[_,_]) S ?_;clear S F;intro gb320 W S;have F:=S.fc))
             go_ret
             exact ⟨(by first | rfl | (simp [e0_,e1_] <;> rfl) | (simp [*,e0_,e1_] <;> rfl)),S.below⟩

/-! ### impl_validCells: function 141 -/
def impl_validCells.l0:Nat→List (S88)→Int→Int→Option (Bool)
  | 0,_,_,_=>none
  | k + 1,x8,x9,x10=>if x10 < x9 then (if 0 ≤ x10 then (if x10 < (x8.length:Int) then ((impl_IsCell.f ((rd_T88 x8 x10).f0) ((rd_T88 x8 x10).f1)).bind fun t323=>(if t323 = true then (impl_validCells.l0 k x8 x9 (wrap64 (x10 + 1))) else (some false))) else (none)) else (none)) else (some true)
def impl_validCells.f (k:Nat) (l0:List (S88)):Option (Bool):=if (l0.length:Int) > 90 then (some false) else (impl_validCells.l0 k l0 (l0.length:Int) 0)
theorem impl_validCells.calls (k:Nat) (A0:Option Addr) (c0:Nat) (l0:List (S88)) (r:Bool) (w:World) (hr0:Kd.C k88 w A0 l0.length l0) (hc0:l0.length ≤ c0) (h:impl_validCells.f k l0 = some r) :
    Calls Try.prog 141 #[.slice A0 l0.length c0] w fun e w'=>e = .returned (.bool r)∧Below w.heap.size w w':=by
 have S:=St.init (w:=w) (dc k88_heap at88 hr0 hc0 dn)
 clear hr0 hc0
 have F:=S.fc
 have H:=h;clear h;unfold impl_validCells.f at H
 replace H:=sp_ H;rcases H with ⟨c2,H⟩ | ⟨c2,H⟩
 · skip
   obtain rfl:=Option.some.inj H
   go_enter Try.func141,Try.ntmps141
   go_wp2_with (first | ((with_reducible refine gs (t:=88) rfl (L ?_));(first | refine sb (.agg #[_,_]) S sz88 ?_ | refine ro (.agg #[_,_]) S sz88 ?_ (ho:=rfl) (hx:=rfl) (hy:=rfl));(clear S F;intro W S;have F:=S.fc)))
   go_ret
   exact ⟨(by first | rfl | (simp [e0_,e1_] <;> rfl) | (simp [*,e0_,e1_] <;> rfl)),S.below⟩
 · skip
   go_enter Try.func141,Try.ntmps141
   go_wp2_with (first | ((with_reducible refine gs (t:=88) rfl (L ?_));(first | refine sb (.agg #[_,_]) S sz88 ?_ | refine ro (.agg #[_,_]) S sz88 ?_ (ho:=rfl) (hx:=rfl) (hy:=rfl));(clear S F;intro W S;have F:=S.fc)))
   go_loopg [10] k (fun kq v10 w'=>∃ (x10_1:Int),v10 = .int .i64 x10_1∧impl_validCells.l0 kq l0 (l0.length:Int) x10_1 = some r∧kq ≤ k∧St w w (fun _=>False) [bor at88 A0 c0 l0] w'  [])
   case atStart=>exact ⟨0,(by first | rfl | (simp;done) | (simp [*];done) | (rw [w6_ (by omega) (by omega)])),H,Nat.le_refl _,S⟩
   case round =>
    clear H S F
    obtain ⟨x10_1,rfl,HA,HK1,S⟩:=hrel
    have F:=S.fc
    cases gk with
    | zero=>exact absurd HA (by simp [impl_validCells.l0])
    | succ k1 =>
     have H:=HA;clear HA;simp only [impl_validCells.l0,F] at H
     replace H:=sp_ H;rcases H with ⟨c3,H⟩ | ⟨c3,H⟩
     · skip
       replace H:=np_ H;obtain ⟨c4,H⟩:=H
       replace H:=np_ H;obtain ⟨c5,H⟩:=H
       replace H:=Option.bind_eq_some_iff.mp H;obtain ⟨t323,A6,H⟩:=H;(try dsimp only at H)
       replace H:=sp_ H;rcases H with ⟨c7,H⟩ | ⟨c7,H⟩
       · skip
         subst c7
         go_wp2_with (first | ((with_reducible refine gd 4 rfl (L ?_));refine al 4 S zi88 ?_;clear S F;intro gb322 W S;have F:=S.fc) | ((with_reducible refine gate_callee (f:=98) rfl (L ?_));refine cl (some 15) Try.func98 (impl_IsCell.calls _ _ _ _ A6) (hargs:=by (simp only [ma_,mb_,mc_,F] <;> rfl)) (h:=?_);rintro e W ⟨rfl,hb⟩;refine ⟨_,rfl,?_⟩;replace S:=S.go hb;clear F hb;have F:=S.fc) | ((with_reducible refine gs (t:=88) rfl (L ?_));(first | refine sb (.agg #[_,_]) S sz88 ?_ | refine ro (.agg #[_,_]) S sz88 ?_ (ho:=rfl) (hx:=rfl) (hy:=rfl));(clear S F;intro W S;have F:=S.fc)))
         go_roundg k1
         case measure=>omega
         case rel=>exact ⟨(wrap64 (x10_1 + 1)),(by first | rfl | (simp;done) | (simp [*];done) | (rw [w6_ (by omega) (by omega)])),H,(by first | omega | exact Nat.le_refl _),S.tl⟩
       · skip
         replace c7:=cbf c7;subst c7
         obtain rfl:=Option.some.inj H
         go_wp2_with (first | ((with_reducible refine gd 4 rfl (L ?_));refine al 4 S zi88 ?_;clear S F;intro gb322 W S;have F:=S.fc) | ((with_reducible refine gate_callee (f:=98) rfl (L ?_));refine cl (some 15) Try.func98 (impl_IsCell.calls _ _ _ _ A6) (hargs:=by (simp only [ma_,mb_,mc_,F] <;> rfl)) (h:=?_);rintro e W ⟨rfl,hb⟩;refine ⟨_,rfl,?_⟩;replace S:=S.go hb;clear F hb;have F:=S.fc) | ((with_reducible refine gs (t:=88) rfl (L ?_));(first | refine sb (.agg #[_,_]) S sz88 ?_ | refine ro (.agg #[_,_]) S sz88 ?_ (ho:=rfl) (hx:=rfl) (hy:=rfl));(clear S F;intro W S;have F:=S.fc)))
         go_ret
         exact ⟨(by first | rfl | (simp [e0_,e1_] <;> rfl) | (simp [*,e0_,e1_] <;> rfl)),S.below⟩
     · skip
       obtain rfl:=Option.some.inj H
       go_wp2_with (first | ((with_reducible refine gs (t:=88) rfl (L ?_));(first | refine sb (.agg #[_,_]) S sz88 ?_ | refine ro (.agg #[_,_]) S sz88 ?_ (ho:=rfl) (hx:=rfl) (hy:=rfl));(clear S F;intro W S;have F:=S.fc)))
       go_ret
       exact ⟨(by first | rfl | (simp [e0_,e1_] <;> rfl) | (simp [*,e0_,e1_] <;> rfl)),S.below⟩

/-! ### impl_IsBoard: function 133 -/
def impl_IsBoard.f (k:Nat) (a0_0:Int) (a0_1:Int) (l0_2:List (S88)):Option (Bool):=if a0_0 ≥ 1 then (if a0_0 ≤ 10 then (if a0_1 ≥ 1 then (if a0_1 ≤ 9 then (if (l0_2.length:Int) = (wrap64 (a0_0 * a0_1)) then ((impl_validCells.f k l0_2).bind fun t325=>(some t325)) else (some false)) else (some false)) else (some false)) else (some false)) else (some false)
theorem impl_IsBoard.calls (k:Nat) (a0_0:Int) (a0_1:Int) (A0_2:Option Addr) (c0_2:Nat) (l0_2:List (S88)) (r:Bool) (w:World) (hr0_2:Kd.C k88 w A0_2 l0_2.length l0_2) (hc0_2:l0_2.length ≤ c0_2) (h:impl_IsBoard.f k a0_0 a0_1 l0_2 = some r) :
    Calls Try.prog 133 #[.agg #[.int .i64 a0_0,.int .i64 a0_1,.slice A0_2 l0_2.length c0_2]] w fun e w'=>e = .returned (.bool r)∧Below w.heap.size w w':=by
 have S:=St.init (w:=w) (dc k88_heap at88 hr0_2 hc0_2 dn)
 clear hr0_2 hc0_2
 have F:=S.fc
 have H:=h;clear h;unfold impl_IsBoard.f at H
 replace H:=sp_ H;rcases H with ⟨c2,H⟩ | ⟨c2,H⟩
 · skip
   replace H:=sp_ H;rcases H with ⟨c3,H⟩ | ⟨c3,H⟩
   · skip
     replace H:=sp_ H;rcases H with ⟨c4,H⟩ | ⟨c4,H⟩
     · skip
       replace H:=sp_ H;rcases H with ⟨c5,H⟩ | ⟨c5,H⟩
       · skip
         replace H:=sp_ H;rcases H with ⟨c6,H⟩ | ⟨c6,H⟩
         · skip
           replace c6:=ceq c6
           replace H:=Option.bind_eq_some_iff.mp H;obtain ⟨t325,A7,H⟩:=H;(try dsimp only at H)
           obtain rfl:=Option.some.inj H
           go_enter Try.func133,Try.ntmps133
           go_wp2_with (first | ((with_reducible refine gd 1 rfl (L ?_));refine bo 1 (.agg #[_,_,_]) S ?_;clear S F;intro gb324 W S;have F:=S.fc) | (go_at_call 141;(try simp only [F]);refine (impl_validCells.calls _ _ _ _ _ _ S.c S.n A7).mono ?_;rintro e W ⟨rfl,hb⟩;replace S:=S.go hb;clear F hb;have F:=S.fc))
           go_ret
           exact ⟨(by first | rfl | (simp [e0_,e1_] <;> rfl) | (simp [*,e0_,e1_] <;> rfl)),S.below⟩
         · skip
           replace c6:=cne c6
           obtain rfl:=Option.some.inj H
           go_enter Try.func133,Try.ntmps133
           go_wp2_with (first | ((with_reducible refine gd 1 rfl (L ?_));refine bo 1 (.agg #[_,_,_]) S ?_;clear S F;intro gb324 W S;have F:=S.fc))
           go_ret
           exact ⟨(by first | rfl | (simp [e0_,e1_] <;> rfl) | (simp [*,e0_,e1_] <;> rfl)),S.below⟩
       · skip
         obtain rfl:=Option.some.inj H
         go_enter Try.func133,Try.ntmps133
         go_wp2_with (first | ((with_reducible refine gd 1 rfl (L ?_));refine bo 1 (.agg #[_,_,_]) S ?_;clear S F;intro gb324 W S;have F:=S.fc))
         go_ret
         exact ⟨(by first | rfl | (simp [e0_,e1_] <;> rfl) | (simp [*,e0_,e1_] <;> rfl)),S.below⟩
     · skip
       obtain rfl:=Option.some.inj H
       go_enter Try.func133,Try.ntmps133
       go_wp2_with (first | ((with_reducible refine gd 1 rfl (L ?_));refine bo 1 (.agg #[_,_,_]) S ?_;clear S F;intro gb324 W S;have F:=S.fc))
       go_ret
       exact ⟨(by first | rfl | (simp [e0_,e1_] <;> rfl) | (simp [*,e0_,e1_] <;> rfl)),S.below⟩
   · skip
     obtain rfl:=Option.some.inj H
     go_enter Try.func133,Try.ntmps133
     go_wp2_with (first | ((with_reducible refine gd 1 rfl (L ?_));refine bo 1 (.agg #[_,_,_]) S ?_;clear S F;intro gb324 W S;have F:=S.fc))
     go_ret
     exact ⟨(by first | rfl | (simp [e0_,e1_] <;> rfl) | (simp [*,e0_,e1_] <;> rfl)),S.below⟩
 · skip
   obtain rfl:=Option.some.inj H
   go_enter Try.func133,Try.ntmps133
   go_wp2_with (first | ((with_reducible refine gd 1 rfl (L ?_));refine bo 1 (.agg #[_,_,_]) S ?_;clear S F;intro gb324 W S;have F:=S.fc))
   go_ret
   exact ⟨(by first | rfl | (simp [e0_,e1_] <;> rfl) | (simp [*,e0_,e1_] <;> rfl)),S.below⟩

/-! ### impl_validEntry: function 115 -/
def impl_validEntry.f (k:Nat) (a0_0:Int) (a0_1:Int) (l0_2:List (S88)) (a1:Int):Option (Bool):=(impl_IsBoard.f k a0_0 a0_1 l0_2).bind fun t327=>(if t327 = true then (if a1 ≥ 0 then (some (decide (a1 < a0_1))) else (some false)) else (some false))
theorem impl_validEntry.calls (k:Nat) (a0_0:Int) (a0_1:Int) (A0_2:Option Addr) (c0_2:Nat) (l0_2:List (S88)) (a1:Int) (r:Bool) (w:World) (hr0_2:Kd.C k88 w A0_2 l0_2.length l0_2) (hc0_2:l0_2.length ≤ c0_2) (h:impl_validEntry.f k a0_0 a0_1 l0_2 a1 = some r) :
    Calls Try.prog 115 #[.agg #[.int .i64 a0_0,.int .i64 a0_1,.slice A0_2 l0_2.length c0_2],.int .i64 a1] w fun e w'=>e = .returned (.bool r)∧Below w.heap.size w w':=by
 have S:=St.init (w:=w) (dc k88_heap at88 hr0_2 hc0_2 dn)
 clear hr0_2 hc0_2
 have F:=S.fc
 have H:=h;clear h;unfold impl_validEntry.f at H
 replace H:=Option.bind_eq_some_iff.mp H;obtain ⟨t327,A3,H⟩:=H;(try dsimp only at H)
 replace H:=sp_ H;rcases H with ⟨c4,H⟩ | ⟨c4,H⟩
 · skip
   subst c4
   replace H:=sp_ H;rcases H with ⟨c5,H⟩ | ⟨c5,H⟩
   · skip
     obtain rfl:=Option.some.inj H
     go_enter Try.func115,Try.ntmps115
     go_wp2_with (first | ((with_reducible refine gd 2 rfl (L ?_));refine bo 2 (.agg #[_,_,_]) S ?_;clear S F;intro gb326 W S;have F:=S.fc) | ((with_reducible refine gate_callee (f:=133) rfl (L ?_));refine cl (some 6) Try.func133 (impl_IsBoard.calls _ _ _ _ _ _ _ _ S.c S.n A3) (hargs:=by (simp only [ma_,mb_,mc_,F] <;> rfl)) (h:=?_);rintro e W ⟨rfl,hb⟩;refine ⟨_,rfl,?_⟩;replace S:=S.go hb;clear F hb;have F:=S.fc))
     go_ret
     exact ⟨(by first | rfl | (simp [e0_,e1_] <;> rfl) | (simp [*,e0_,e1_] <;> rfl)),S.below⟩
   · skip
     obtain rfl:=Option.some.inj H
     go_enter Try.func115,Try.ntmps115
     go_wp2_with (first | ((with_reducible refine gd 2 rfl (L ?_));refine bo 2 (.agg #[_,_,_]) S ?_;clear S F;intro gb326 W S;have F:=S.fc) | ((with_reducible refine gate_callee (f:=133) rfl (L ?_));refine cl (some 6) Try.func133 (impl_IsBoard.calls _ _ _ _ _ _ _ _ S.c S.n A3) (hargs:=by (simp only [ma_,mb_,mc_,F] <;> rfl)) (h:=?_);rintro e W ⟨rfl,hb⟩;refine ⟨_,rfl,?_⟩;replace S:=S.go hb;clear F hb;have F:=S.fc))
     go_ret
     exact ⟨(by first | rfl | (simp [e0_,e1_] <;> rfl) | (simp [*,e0_,e1_] <;> rfl)),S.below⟩
 · skip
   replace c4:=cbf c4;subst c4
   obtain rfl:=Option.some.inj H
   go_enter Try.func115,Try.ntmps115
   go_wp2_with (first | ((with_reducible refine gd 2 rfl (L ?_));refine bo 2 (.agg #[_,_,_]) S ?_;clear S F;intro gb326 W S;have F:=S.fc) | ((with_reducible refine gate_callee (f:=133) rfl (L ?_));refine cl (some 6) Try.func133 (impl_IsBoard.calls _ _ _ _ _ _ _ _ S.c S.n A3) (hargs:=by (simp only [ma_,mb_,mc_,F] <;> rfl)) (h:=?_);rintro e W ⟨rfl,hb⟩;refine ⟨_,rfl,?_⟩;replace S:=S.go hb;clear F hb;have F:=S.fc))
   go_ret
   exact ⟨(by first | rfl | (simp [e0_,e1_] <;> rfl) | (simp [*,e0_,e1_] <;> rfl)),S.below⟩

/-! ### impl_IsTurning: function 116 -/
def impl_IsTurning.f (a0_0:Int) (a0_1:Int):Option (Bool):=(impl_IsCell.f a0_0 a0_1).bind fun t329=>(if t329 = true then (if a0_0 = 3 then (some true) else (some (a0_0 == 6))) else (some false))
theorem impl_IsTurning.calls (a0_0:Int) (a0_1:Int) (r:Bool) (w:World) (h:impl_IsTurning.f a0_0 a0_1 = some r) :
    Calls Try.prog 116 #[.agg #[.int .i64 a0_0,.int .i64 a0_1]] w fun e w'=>e = .returned (.bool r)∧Below w.heap.size w w':=by
 have S:=St.init (w:=w) dn
 have F:=S.fc
 have H:=h;clear h;unfold impl_IsTurning.f at H
 replace H:=Option.bind_eq_some_iff.mp H;obtain ⟨t329,A2,H⟩:=H;(try dsimp only at H)
 replace H:=sp_ H;rcases H with ⟨c3,H⟩ | ⟨c3,H⟩
 · skip
   subst c3
   replace H:=sp_ H;rcases H with ⟨c4,H⟩ | ⟨c4,H⟩
   · skip
     replace c4:=ceq c4
     obtain rfl:=Option.some.inj H
     go_enter Try.func116,Try.ntmps116
     go_wp2_with (first | ((with_reducible refine gd 1 rfl (L ?_));refine bo 1 (.agg #[_,_]) S ?_;clear S F;intro gb328 W S;have F:=S.fc) | ((with_reducible refine gate_callee (f:=98) rfl (L ?_));refine cl (some 4) Try.func98 (impl_IsCell.calls _ _ _ _ A2) (hargs:=by (simp only [ma_,mb_,mc_,F] <;> rfl)) (h:=?_);rintro e W ⟨rfl,hb⟩;refine ⟨_,rfl,?_⟩;replace S:=S.go hb;clear F hb;have F:=S.fc))
     go_ret
     exact ⟨(by first | rfl | (simp [e0_,e1_] <;> rfl) | (simp [*,e0_,e1_] <;> rfl)),S.below⟩
   · skip
     replace c4:=cne c4
     obtain rfl:=Option.some.inj H
     go_enter Try.func116,Try.ntmps116
     go_wp2_with (first | ((with_reducible refine gd 1 rfl (L ?_));refine bo 1 (.agg #[_,_]) S ?_;clear S F;intro gb328 W S;have F:=S.fc) | ((with_reducible refine gate_callee (f:=98) rfl (L ?_));refine cl (some 4) Try.func98 (impl_IsCell.calls _ _ _ _ A2) (hargs:=by (simp only [ma_,mb_,mc_,F] <;> rfl)) (h:=?_);rintro e W ⟨rfl,hb⟩;refine ⟨_,rfl,?_⟩;replace S:=S.go hb;clear F hb;have F:=S.fc))
     go_ret
     exact ⟨(by first | rfl | (simp [e0_,e1_] <;> rfl) | (simp [*,e0_,e1_] <;> rfl)),S.below⟩
 · skip
   replace c3:=cbf c3;subst c3
   obtain rfl:=Option.some.inj H
   go_enter Try.func116,Try.ntmps116
   go_wp2_with (first | ((with_reducible refine gd 1 rfl (L ?_));refine bo 1 (.agg #[_,_]) S ?_;clear S F;intro gb328 W S;have F:=S.fc) | ((with_reducible refine gate_callee (f:=98) rfl (L ?_));refine cl (some 4) Try.func98 (impl_IsCell.calls _ _ _ _ A2) (hargs:=by (simp only [ma_,mb_,mc_,F] <;> rfl)) (h:=?_);rintro e W ⟨rfl,hb⟩;refine ⟨_,rfl,?_⟩;replace S:=S.go hb;clear F hb;have F:=S.fc))
   go_ret
   exact ⟨(by first | rfl | (simp [e0_,e1_] <;> rfl) | (simp [*,e0_,e1_] <;> rfl)),S.below⟩

/-! ### impl_readByFlips: function 79 -/
def impl_readByFlips.seen (xs:List Bool) (i:Int):Bool:=xs.getD i.toNat false
mutual
def impl_readByFlips.j0:Nat→List (List Int)→Bool→Int→Int→List (S88)→Option (Bool)
  | 0,_,_,_,_,_=>none
  | k + 1,x2,x37,x331000,x331001,x331002=>if x37 = true then (some false) else (if x331002.length ≤ 35184372088832 then (impl_readByFlips.l0 k (List.replicate x331002.length false) x2 (x2.length:Int) 0 x331000 x331001 x331002) else (none))
def impl_readByFlips.l0:Nat→List Bool→List (List Int)→Int→Int→Int→Int→List (S88)→Option (Bool)
  | 0,_,_,_,_,_,_,_=>none
  | k + 1,sn,x39,x40,x41,x331000,x331001,x331002=>if x41 < x40 then (if 0 ≤ x41 then (if x41 < (x39.length:Int) then (impl_readByFlips.l1 k sn x39 x40 x41 (rd_L2 x39 x41) ((rd_L2 x39 x41).length:Int) 0 x331000 x331001 x331002) else (none)) else (none)) else (some true)
def impl_readByFlips.l1:Nat→List Bool→List (List Int)→Int→Int→List Int→Int→Int→Int→Int→List (S88)→Option (Bool)
  | 0,_,_,_,_,_,_,_,_,_,_=>none
  | k + 1,sn,x39,x40,x41,x45,x46,x47,x331000,x331001,x331002=>if x47 < x46 then (if 0 ≤ x47 then (if x47 < (x45.length:Int) then (if (rd x45 x47) < 0 then (some false) else (if (rd x45 x47) ≥ (x331002.length:Int) then (some false) else (if 0 ≤ (rd x45 x47) then (if (rd x45 x47) < (x331002.length:Int) then ((impl_IsTurning.f ((rd_T88 x331002 (rd x45 x47)).f0) ((rd_T88 x331002 (rd x45 x47)).f1)).bind fun t335=>(if t335 = true then (if impl_readByFlips.seen sn (rd x45 x47) = true then (some false) else (impl_readByFlips.l1 k (sn.set (rd x45 x47).toNat true) x39 x40 x41 x45 x46 (wrap64 (x47 + 1)) x331000 x331001 x331002)) else (some false))) else (none)) else (none)))) else (none)) else (none)) else (impl_readByFlips.l0 k sn x39 x40 (wrap64 (x41 + 1)) x331000 x331001 x331002)
end
def impl_readByFlips.f (k:Nat) (a0_0:Int) (a0_1:Int) (l0_2:List (S88)) (a1:Int) (l2:List (List Int)) (a3:Int):Option (Bool):=(impl_validEntry.f k a0_0 a0_1 l0_2 a1).bind fun t331=>(if t331 = true then (if a3 < 0 then (impl_readByFlips.j0 k l2 true a0_0 a0_1 l0_2) else (if a3 > a0_1 then (impl_readByFlips.j0 k l2 true a0_0 a0_1 l0_2) else (if (l2.length:Int) < 1 then (impl_readByFlips.j0 k l2 true a0_0 a0_1 l0_2) else (impl_readByFlips.j0 k l2 (decide ((l2.length:Int) > 4)) a0_0 a0_1 l0_2)))) else (impl_readByFlips.j0 k l2 true a0_0 a0_1 l0_2))
theorem impl_readByFlips.calls (k:Nat) (a0_0:Int) (a0_1:Int) (A0_2:Option Addr) (c0_2:Nat) (l0_2:List (S88)) (a1:Int) (A2:Option Addr) (c2:Nat) (l2:List (List Int)) (a3:Int) (r:Bool) (w:World) (hr0_2:Kd.C k88 w A0_2 l0_2.length l0_2) (hc0_2:l0_2.length ≤ c0_2) (hr2:Kd.C (Kd.slice 3 (Kd.int .i64)) w A2 l2.length l2) (hc2:l2.length ≤ c2) (h:impl_readByFlips.f k a0_0 a0_1 l0_2 a1 l2 a3 = some r) :
    Calls Try.prog 79 #[.agg #[.int .i64 a0_0,.int .i64 a0_1,.slice A0_2 l0_2.length c0_2],.int .i64 a1,.slice A2 l2.length c2,.int .i64 a3] w fun e w'=>e = .returned (.bool r)∧Below w.heap.size w w':=by
 haveI:MapT Try.prog 120 3 4 (.bool false):=⟨by kernel_rfl,by kernel_rfl,fun w=>by kernel_rfl⟩
 haveI:TyIs Try.prog 4 .bool:=⟨by kernel_rfl⟩
 have S:=St.init (w:=w) (dc k88_heap at88 hr0_2 hc0_2 (dc (Kd.heap_slice 3 (Kd.heap_int .i64)) (atU (d:=Kd.slice 3 (Kd.int .i64))) hr2 hc2 dn))
 clear hr0_2 hc0_2 hr2 hc2
 have F:=S.fc
 have H:=h;clear h;unfold impl_readByFlips.f at H
 go_enter Try.func79,Try.ntmps79
 go_upto_region 1 with (first | ((with_reducible refine gd 4 rfl (L ?_));refine bo 4 (.agg #[_,_,_]) S ?_;clear S F;intro gb330 W S;have F:=S.fc))
 (try simp only [Act.put,List.setIfInBounds_toArray,List.set_cons_zero,List.set_cons_succ])
 go_cut [37] (fun v37 wc=>∃ (kq:Nat) (x37_4:Bool),v37 = .bool x37_4∧impl_readByFlips.j0 kq l2 x37_4 a0_0 a0_1 l0_2 = some r∧kq ≤ k∧St w w (fun _=>False) [bor at88 A0_2 c0_2 l0_2,bor (atU (d:=Kd.slice 3 (Kd.int .i64))) A2 c2 l2] wc  [box gb330 50 [.int .i64 a0_0,.int .i64 a0_1,.slice A0_2 l0_2.length c0_2]])
 case first =>
  replace H:=Option.bind_eq_some_iff.mp H;obtain ⟨t331,A7,H⟩:=H;(try dsimp only at H)
  replace H:=sp_ H;rcases H with ⟨c8,H⟩ | ⟨c8,H⟩
  · skip
    subst c8
    replace H:=sp_ H;rcases H with ⟨c9,H⟩ | ⟨c9,H⟩
    · skip
      go_wp2_with (first | ((with_reducible refine gate_callee (f:=115) rfl (L ?_));refine cl (some 16) Try.func115 (impl_validEntry.calls _ _ _ _ _ _ _ _ _ S.c S.n A7) (hargs:=by (simp only [ma_,mb_,mc_,F] <;> rfl)) (h:=?_);rintro e W ⟨rfl,hb⟩;refine ⟨_,rfl,?_⟩;replace S:=S.go hb;clear F hb;have F:=S.fc))
      go_meet
      case rel=>exact ⟨_,true,(by first | rfl | (simp;done) | (simp [*];done) | (rw [w6_ (by omega) (by omega)])),H,(by first | omega | exact Nat.le_refl _),S⟩
    · skip
      replace H:=sp_ H;rcases H with ⟨c12,H⟩ | ⟨c12,H⟩
      · skip
        go_wp2_with (first | ((with_reducible refine gate_callee (f:=115) rfl (L ?_));refine cl (some 16) Try.func115 (impl_validEntry.calls _ _ _ _ _ _ _ _ _ S.c S.n A7) (hargs:=by (simp only [ma_,mb_,mc_,F] <;> rfl)) (h:=?_);rintro e W ⟨rfl,hb⟩;refine ⟨_,rfl,?_⟩;replace S:=S.go hb;clear F hb;have F:=S.fc))
        go_meet
        case rel=>exact ⟨_,true,(by first | rfl | (simp;done) | (simp [*];done) | (rw [w6_ (by omega) (by omega)])),H,(by first | omega | exact Nat.le_refl _),S⟩
      · skip
        replace H:=sp_ H;rcases H with ⟨c16,H⟩ | ⟨c16,H⟩
        · skip
          go_wp2_with (first | ((with_reducible refine gate_callee (f:=115) rfl (L ?_));refine cl (some 16) Try.func115 (impl_validEntry.calls _ _ _ _ _ _ _ _ _ S.c S.n A7) (hargs:=by (simp only [ma_,mb_,mc_,F] <;> rfl)) (h:=?_);rintro e W ⟨rfl,hb⟩;refine ⟨_,rfl,?_⟩;replace S:=S.go hb;clear F hb;have F:=S.fc))
          go_meet
          case rel=>exact ⟨_,true,(by first | rfl | (simp;done) | (simp [*];done) | (rw [w6_ (by omega) (by omega)])),H,(by first | omega | exact Nat.le_refl _),S⟩
        · skip
          go_wp2_with (first | ((with_reducible refine gate_callee (f:=115) rfl (L ?_));refine cl (some 16) Try.func115 (impl_validEntry.calls _ _ _ _ _ _ _ _ _ S.c S.n A7) (hargs:=by (simp only [ma_,mb_,mc_,F] <;> rfl)) (h:=?_);rintro e W ⟨rfl,hb⟩;refine ⟨_,rfl,?_⟩;replace S:=S.go hb;clear F hb;have F:=S.fc))
          go_meet
          case rel=>exact ⟨_,(decide ((l2.length:Int) > 4)),(by first | rfl | (simp;done) | (simp [*];done) | (rw [w6_ (by omega) (by omega)])),H,(by first | omega | exact Nat.le_refl _),S⟩
  · skip
    replace c8:=cbf c8;subst c8
    go_wp2_with (first | ((with_reducible refine gate_callee (f:=115) rfl (L ?_));refine cl (some 16) Try.func115 (impl_validEntry.calls _ _ _ _ _ _ _ _ _ S.c S.n A7) (hargs:=by (simp only [ma_,mb_,mc_,F] <;> rfl)) (h:=?_);rintro e W ⟨rfl,hb⟩;refine ⟨_,rfl,?_⟩;replace S:=S.go hb;clear F hb;have F:=S.fc))
    go_meet
    case rel=>exact ⟨_,true,(by first | rfl | (simp;done) | (simp [*];done) | (rw [w6_ (by omega) (by omega)])),H,(by first | omega | exact Nat.le_refl _),S⟩
 case rest =>
  clear H S F
  obtain ⟨kq,x37_4,rfl,HA,HJ4,S⟩:=hcut
  have F:=S.fc
  cases kq with
  | zero=>exact absurd HA (by simp [impl_readByFlips.j0])
  | succ kj4 =>
   have H:=HA;clear HA;simp only [impl_readByFlips.j0,F] at H
   replace H:=sp_ H;rcases H with ⟨c25,H⟩ | ⟨c25,H⟩
   · skip
     subst c25
     obtain rfl:=Option.some.inj H
     go_wp2
     go_ret
     exact ⟨(by first | rfl | (simp [e0_,e1_] <;> rfl) | (simp [*,e0_,e1_] <;> rfl)),S.below⟩
   · skip
     replace c25:=cbf c25;subst c25
     replace H:=np_ H;obtain ⟨c26,H⟩:=H
     go_wp2_with (first | ((with_reducible refine gd 38 rfl (L ?_));refine mkm 38 S 3 4 (setR l0_2.length (List.replicate l0_2.length false)) (setR_nil (by omega)) ?_;clear S F;intro gm W S;have F:=S.fc))
     go_loopg [41] kj4 (fun kq v41 w'=>∃ (x41_2:Int) (sn:List Bool),v41 = .int .i64 x41_2∧impl_readByFlips.l0 kq sn l2 (l2.length:Int) x41_2 a0_0 a0_1 l0_2 = some r∧kq ≤ kj4∧St w w (fun _=>False) [bor at88 A0_2 c0_2 l0_2,bor (atU (d:=Kd.slice 3 (Kd.int .i64))) A2 c2 l2] w'  [mpc Try.prog 120 3 4 gm (setR l0_2.length sn),box gb330 50 [.int .i64 a0_0,.int .i64 a0_1,.slice A0_2 l0_2.length c0_2]])
     case atStart=>exact ⟨0,_,(by first | rfl | (simp;done) | (simp [*];done) | (rw [w6_ (by omega) (by omega)])),H,Nat.le_refl _,S⟩
     case round =>
      clear H S F
      obtain ⟨x41_2,sn,rfl,HA,HK2,S⟩:=hrel
      have F:=S.fc
      cases gk with
      | zero=>exact absurd HA (by simp [impl_readByFlips.l0])
      | succ k2 =>
       have H:=HA;clear HA;simp only [impl_readByFlips.l0,F] at H
       replace H:=sp_ H;rcases H with ⟨c26,H⟩ | ⟨c26,H⟩
       · skip
         replace H:=np_ H;obtain ⟨c27,H⟩:=H
         replace H:=np_ H;obtain ⟨c28,H⟩:=H
         obtain ⟨A332_0,c332_0,S⟩:=S.inn l2 (atI .i64) x41_2 (rd_L2 l2 x41_2);clear F;have F:=S.fc
         go_wp2
         go_loopg [47] k2 (fun kq v47 w'=>∃ (x47_3:Int) (sn:List Bool),v47 = .int .i64 x47_3∧impl_readByFlips.l1 kq sn l2 (l2.length:Int) x41_2 (rd_L2 l2 x41_2) ((rd_L2 l2 x41_2).length:Int) x47_3 a0_0 a0_1 l0_2 = some r∧kq ≤ k2∧St w w (fun _=>False) [bcell ((adr A2).add (x41_2).toNat) (.slice A332_0 (rd_L2 l2 x41_2).length c332_0),bor (atI .i64) A332_0 c332_0 (rd_L2 l2 x41_2),bor at88 A0_2 c0_2 l0_2,bor (atU (d:=Kd.slice 3 (Kd.int .i64))) A2 c2 l2] w'  [mpc Try.prog 120 3 4 gm (setR l0_2.length sn),box gb330 50 [.int .i64 a0_0,.int .i64 a0_1,.slice A0_2 l0_2.length c0_2]])
         case atStart=>exact ⟨0,_,(by first | rfl | (simp;done) | (simp [*];done) | (rw [w6_ (by omega) (by omega)])),H,Nat.le_refl _,S⟩
         case round =>
          clear H S F
          obtain ⟨x47_3,sn,rfl,HA,HK3,S⟩:=hrel
          have F:=S.fc
          cases gk with
          | zero=>exact absurd HA (by simp [impl_readByFlips.l1])
          | succ k3 =>
           have H:=HA;clear HA;simp only [impl_readByFlips.l1,F] at H
           replace H:=sp_ H;rcases H with ⟨c29,H⟩ | ⟨c29,H⟩
           · skip
             replace H:=np_ H;obtain ⟨c30,H⟩:=H
             replace H:=np_ H;obtain ⟨c31,H⟩:=H
             replace H:=sp_ H;rcases H with ⟨c32,H⟩ | ⟨c32,H⟩
             · skip
               obtain rfl:=Option.some.inj H
               go_wp2
               go_ret
               exact ⟨(by first | rfl | (simp [e0_,e1_] <;> rfl) | (simp [*,e0_,e1_] <;> rfl)),S.below⟩
             · skip
               replace H:=sp_ H;rcases H with ⟨c33,H⟩ | ⟨c33,H⟩
               · skip
                 obtain rfl:=Option.some.inj H
                 go_wp2
                 go_ret
                 exact ⟨(by first | rfl | (simp [e0_,e1_] <;> rfl) | (simp [*,e0_,e1_] <;> rfl)),S.below⟩
               · skip
                 replace H:=np_ H;obtain ⟨c35,H⟩:=H
                 replace H:=np_ H;obtain ⟨c36,H⟩:=H
                 replace H:=Option.bind_eq_some_iff.mp H;obtain ⟨t335,A37,H⟩:=H;(try dsimp only at H)
                 replace H:=sp_ H;rcases H with ⟨c38,H⟩ | ⟨c38,H⟩
                 · skip
                   subst c38
                   replace H:=sp_ H;rcases H with ⟨c39,H⟩ | ⟨c39,H⟩
                   · skip
                     replace c39:rdB sn (rd (rd_L2 l2 x41_2) x47_3) = true:=c39
                     obtain rfl:=Option.some.inj H
                     go_wp2_with (first | (go_at_call 116;(try simp only [F]);refine (impl_IsTurning.calls _ _ _ _ A37).mono ?_;rintro e W ⟨rfl,hb⟩;replace S:=S.go hb;clear F hb;have F:=S.fc))
                     go_ret
                     exact ⟨(by first | rfl | (simp [e0_,e1_] <;> rfl) | (simp [*,e0_,e1_] <;> rfl)),S.below⟩
                   · skip
                     replace c39:rdB sn (rd (rd_L2 l2 x41_2) x47_3) = false:=cbf c39
                     go_wp2_with (first | (go_at_call 116;(try simp only [F]);refine (impl_IsTurning.calls _ _ _ _ A37).mono ?_;rintro e W ⟨rfl,hb⟩;replace S:=S.go hb;clear F hb;have F:=S.fc) | (at_mapUpdate;refine L ?_;refine mu (g:=gm) (setR l0_2.length (sn.set (rd (rd_L2 l2 x41_2) x47_3).toNat true)) S (plainElem_bool (e:=4) (by kernel_rfl) true) (setR_put c35 c36 c39) ?_;clear S F;intro W S;have F:=S.fc))
                     go_roundg k3
                     case measure=>omega
                     case rel=>exact ⟨(wrap64 (x47_3 + 1)),_,(by first | rfl | (simp;done) | (simp [*];done) | (rw [w6_ (by omega) (by omega)])),H,(by first | omega | exact Nat.le_refl _),S⟩
                 · skip
                   replace c38:=cbf c38;subst c38
                   obtain rfl:=Option.some.inj H
                   go_wp2_with (first | (go_at_call 116;(try simp only [F]);refine (impl_IsTurning.calls _ _ _ _ A37).mono ?_;rintro e W ⟨rfl,hb⟩;replace S:=S.go hb;clear F hb;have F:=S.fc))
                   go_ret
                   exact ⟨(by first | rfl | (simp [e0_,e1_] <;> rfl) | (simp [*,e0_,e1_] <;> rfl)),S.below⟩
           · skip
             go_wp2
             go_roundg k3
             case measure=>omega
             case rel=>first | (exact ⟨(wrap64 (x41_2 + 1)),_,(by first | rfl | (simp;done) | (simp [*];done) | (rw [w6_ (by omega) (by omega)])),H,(by first | omega | exact Nat.le_refl _),S⟩) | (exact ⟨(wrap64 (x41_2 + 1)),_,(by first | rfl | (simp;done) | (simp [*];done) | (rw [w6_ (by omega) (by omega)])),H,(by first | omega | exact Nat.le_refl _),(S.dk [2,3])⟩)
       · skip
         obtain rfl:=Option.some.inj H
         go_wp2
         go_ret
         exact ⟨(by first | rfl | (simp [e0_,e1_] <;> rfl) | (simp [*,e0_,e1_] <;> rfl)),S.below⟩

/-! ### impl_copyBoard: function 117 -/
def impl_copyBoard.f (a0_0:Int) (a0_1:Int) (l0_2:List (S88)):Option (Int × Int × (List (S88))):=(some (([]:List (S88)):List (S88))).bind fun y338=>(if y338.length + l0_2.length < 8796093022208 then (some (a0_0,a0_1,(y338 ++ l0_2))) else (none))
theorem impl_copyBoard.calls (a0_0:Int) (a0_1:Int) (A0_2:Option Addr) (c0_2:Nat) (l0_2:List (S88)) (r1:Int) (r2:Int) (r3:List (S88)) (w:World) (hr0_2:Kd.C k88 w A0_2 l0_2.length l0_2) (hc0_2:l0_2.length ≤ c0_2) (h:impl_copyBoard.f a0_0 a0_1 l0_2 = some (r1,r2,r3)) :
    Calls Try.prog 117 #[.agg #[.int .i64 a0_0,.int .i64 a0_1,.slice A0_2 l0_2.length c0_2]] w fun e w'=>∃ v2_:Value,e = .returned (.agg #[.int .i64 r1,.int .i64 r2,v2_])∧Kd.R k88 88 w' w.heap.size (fun _=>True) v2_ r3∧Below w.heap.size w w':=by
 have S:=St.init (w:=w) (dc k88_heap at88 hr0_2 hc0_2 dn)
 clear hr0_2 hc0_2
 have F:=S.fc
 have H:=h;clear h;unfold impl_copyBoard.f at H
 (first | (with_reducible replace H:=ob_ H;obtain ⟨y338,hy338,H⟩:=H;(try dsimp only at H)) | (obtain ⟨y338,hy338⟩:∃ y_:List (S88),y_ = (([]:List (S88))):=⟨_,rfl⟩;(try rw [← hy338] at H);(try simp only [Option.bind_some] at H)));have Ny338:=Aside0.mk hy338;clear hy338
 replace H:=np_ H;obtain ⟨c2,H⟩:=H
 (first | (with_reducible replace H:=ob_ H;obtain ⟨y341,hy341,H⟩:=H;(try dsimp only at H)) | (obtain ⟨y341,hy341⟩:∃ y_:List (S88),y_ = (y338 ++ l0_2):=⟨_,rfl⟩;(try rw [← hy341] at H);(try simp only [Option.bind_some] at H)));have Ny341:=Aside0.mk hy341;clear hy341
 simp only [Option.some.injEq,Prod.mk.injEq] at H
 obtain ⟨rfl,rfl,rfl⟩:=H
 go_enter Try.func117,Try.ntmps117
 go_wp2_with (first | ((with_reducible refine gd 1 rfl (L ?_));refine bo 1 (.agg #[_,_,_]) S ?_;clear S F;intro gb336 W S;have F:=S.fc) | ((with_reducible refine gd 2 rfl (L ?_));refine al 2 S zi50 ?_;clear S F;intro gb337 W S;have F:=S.fc) | ((with_reducible refine gs (t:=50) rfl (L ?_));(first | refine sb (.agg #[_,_,_]) S sz50 ?_ | refine ro (.agg #[_,_,_]) S sz50 ?_ (ho:=rfl) (hx:=rfl) (hy:=rfl));clear S F;intro W S;(try rw [← Ny341.out] at S);have F:=S.fc))
 refine rgP S (fun _ S=>S.tl) [(0,0),(0,2),(0,5),(1,1),(1,3),(1,6),(2,4),(2,7),(0,8),(2,9)] [] (by kernel_rfl) (by kernel_rfl) (fun _ d _ _ _ h=>by cases d <;> exact h) ?_;clear S F;intro W S;have S0:=S.tl;have F:=S.fc
 repeat (first | (refine q0 (h:=?_)) | (refine q1 S0 (h:=?_)) | (refine q0n (h:=?_)) | (refine q1n S0 (h:=?_)))
 refine lk2 (by rfl) (by exact (Eq.refl true)) ?_;refine lia 7 at88 88 S ([]:List (S88)) (fun _ _=>(Reps.none _ _)) (by first | (go_simp;done) | (go_simp;rfl)) ?_;clear S F;intro Ay338 cy338 W S;(try rw [← Ny338.out] at S ⊢);(try rw [← Ny341.out] at S ⊢);have F:=S.fc
 clear S0;have S0:=S.tl.tl;refine ⟨S0,?_⟩
 refine lk2 (by rfl) (by exact (Eq.refl true)) ?_;refine apr (A:=Ay338) (ys:=l0_2) 10 S Try.underlying29 info88 S.c ?_ (ho:=rfl) (hs:=rfl) (hx:=rfl);clear S F;intro Ay341 cy341 W S;(try rw [← Ny341.out] at S ⊢);have F:=S.fc
 clear S0;have S0:=S.tl.tl;refine ⟨S0,?_⟩
 repeat (first | (refine q0 (h:=?_)) | (refine q1 S0 (h:=?_)) | (refine q0n (h:=?_)) | (refine q1n S0 (h:=?_)))
 refine lk2 (by rfl) (by exact (Eq.refl true)) ?_;(first | refine sb (.agg #[_,_,_]) S sz50 ?_ | refine ro (.agg #[_,_,_]) S sz50 ?_ (ho:=rfl) (hx:=rfl) (hy:=rfl));clear S F;intro W S;(try rw [← Ny341.out] at S);have F:=S.fc
 clear S0;have S0:=S.tl.tl;refine ⟨S0,?_⟩
 refine oz ?_
 try clear S0
 go_wp2_with (first | ((with_reducible refine gs (t:=50) rfl (L ?_));(first | refine sb (.agg #[_,_,_]) S sz50 ?_ | refine ro (.agg #[_,_,_]) S sz50 ?_ (ho:=rfl) (hx:=rfl) (hy:=rfl));clear S F;intro W S;(try rw [← Ny341.out] at S);have F:=S.fc))
 refine bodyPost_ret (results_cell_row rfl _ _ gb337 50 #[.int .i64 a0_0,.int .i64 a0_1,.slice Ay341 y341.length cy341] (0,0) _ rfl S.hb Try.underlying50 rfl (by kernel_rfl)) rfl ?_
 exact ⟨_,(by first | rfl | (simp [e0_,e1_] <;> rfl) | (simp [*,e0_,e1_] <;> rfl)),(by first | exact S.r | exact Kd.R_nil _ _ _ _ _),S.below⟩

/-! ### impl_isGeared: function 137 -/
def impl_isGeared.f (a0_0:Int) (a0_1:Int):Option (Bool):=if a0_0 = 6 then (some true) else (some (a0_0 == 7))
theorem impl_isGeared.calls (a0_0:Int) (a0_1:Int) (r:Bool) (w:World) (h:impl_isGeared.f a0_0 a0_1 = some r) :
    Calls Try.prog 137 #[.agg #[.int .i64 a0_0,.int .i64 a0_1]] w fun e w'=>e = .returned (.bool r)∧Below w.heap.size w w':=by
 have S:=St.init (w:=w) dn
 have F:=S.fc
 have H:=h;clear h;unfold impl_isGeared.f at H
 replace H:=sp_ H;rcases H with ⟨c2,H⟩ | ⟨c2,H⟩
 · skip
   replace c2:=ceq c2
   obtain rfl:=Option.some.inj H
   go_enter Try.func137,Try.ntmps137
   go_wp2_with (first | ((with_reducible refine gd 1 rfl (L ?_));refine bo 1 (.agg #[_,_]) S ?_;clear S F;intro gb344 W S;have F:=S.fc))
   go_ret
   exact ⟨(by first | rfl | (simp [e0_,e1_] <;> rfl) | (simp [*,e0_,e1_] <;> rfl)),S.below⟩
 · skip
   replace c2:=cne c2
   obtain rfl:=Option.some.inj H
   go_enter Try.func137,Try.ntmps137
   go_wp2_with (first | ((with_reducible refine gd 1 rfl (L ?_));refine bo 1 (.agg #[_,_]) S ?_;clear S F;intro gb344 W S;have F:=S.fc))
   go_ret
   exact ⟨(by first | rfl | (simp [e0_,e1_] <;> rfl) | (simp [*,e0_,e1_] <;> rfl)),S.below⟩

/-! ### impl_besideOf: function 138 -/
mutual
def impl_besideOf.j0:Nat→Int→List Int→Int→Int→Int→Int→List (S88)→Option (List Int)
  | 0,_,_,_,_,_,_,_=>none
  | k + 1,x1,x5,x6,x7,x346000,x346001,x346002=>if x7 > 0 then (if x5.length < 17592186044416 then (impl_besideOf.j1 k x1 (x5 ++ [wrap64 (x1 - 1)]) x6 x7 x346000 x346001 x346002) else (none)) else (impl_besideOf.j1 k x1 x5 x6 x7 x346000 x346001 x346002)
def impl_besideOf.j1:Nat→Int→List Int→Int→Int→Int→Int→List (S88)→Option (List Int)
  | 0,_,_,_,_,_,_,_=>none
  | k + 1,x1,x5,x6,x7,x346000,x346001,x346002=>if (wrap64 (x7 + 1)) < x346001 then (if x5.length < 17592186044416 then ((some (x5 ++ [wrap64 (x1 + 1)]:List Int)).bind fun y355=>(if (wrap64 (x6 + 1)) < x346000 then (if y355.length < 17592186044416 then (some (y355 ++ [wrap64 (x1 + x346001)])) else (none)) else (some y355))) else (none)) else (if (wrap64 (x6 + 1)) < x346000 then (if x5.length < 17592186044416 then (some (x5 ++ [wrap64 (x1 + x346001)])) else (none)) else (some x5))
end
def impl_besideOf.f (k:Nat) (a0_0:Int) (a0_1:Int) (l0_2:List (S88)) (a1:Int):Option (List Int):=(some (([]:List Int):List Int)).bind fun y346=>(if a0_1 = 0 then (none) else (if (wrap64 (Int.tdiv a1 a0_1)) > 0 then (if y346.length < 17592186044416 then (impl_besideOf.j0 k a1 (y346 ++ [wrap64 (a1 - a0_1)]) (wrap64 (Int.tdiv a1 a0_1)) (Int.tmod a1 a0_1) a0_0 a0_1 l0_2) else (none)) else (impl_besideOf.j0 k a1 y346 (wrap64 (Int.tdiv a1 a0_1)) (Int.tmod a1 a0_1) a0_0 a0_1 l0_2)))
theorem impl_besideOf.calls (k:Nat) (a0_0:Int) (a0_1:Int) (A0_2:Option Addr) (c0_2:Nat) (l0_2:List (S88)) (a1:Int) (r:List Int) (w:World) (hr0_2:Kd.C k88 w A0_2 l0_2.length l0_2) (hc0_2:l0_2.length ≤ c0_2) (h:impl_besideOf.f k a0_0 a0_1 l0_2 a1 = some r) :
    Calls Try.prog 138 #[.agg #[.int .i64 a0_0,.int .i64 a0_1,.slice A0_2 l0_2.length c0_2],.int .i64 a1] w fun e w'=>∃ v0_:Value,e = .returned (v0_)∧Kd.R (Kd.int .i64) 3 w' w.heap.size (fun _=>True) v0_ r∧Below w.heap.size w w':=by
 have S:=St.init (w:=w) (dc k88_heap at88 hr0_2 hc0_2 dn)
 clear hr0_2 hc0_2
 have F:=S.fc
 have H:=h;clear h;unfold impl_besideOf.f at H
 (first | (with_reducible replace H:=ob_ H;obtain ⟨y346,hy346,H⟩:=H;(try dsimp only at H)) | (obtain ⟨y346,hy346⟩:∃ y_:List Int,y_ = (([]:List Int)):=⟨_,rfl⟩;(try rw [← hy346] at H);(try simp only [Option.bind_some] at H)));have Ny346:=Aside0.mk hy346;clear hy346
 replace H:=nn_ H;obtain ⟨c3,H⟩:=H
 replace c3:=cne c3
 go_enter Try.func138,Try.ntmps138
 go_upto_if 18 with (first | ((with_reducible refine gd 2 rfl (L ?_));refine bo 2 (.agg #[_,_,_]) S ?_;clear S F;intro gb345 W S;have F:=S.fc) | ((with_reducible refine gd 8 rfl (L ?_));refine lia 8 (atI .i64) 3 S ([]:List Int) (fun _ _=>(Reps.none _ _)) (by first | (go_simp;done) | (go_simp;rfl)) ?_;clear S F;intro Ay346 cy346 W S;(try rw [← Ny346.out] at S ⊢);have F:=S.fc))
 go_upto_if 18 with (first | ((with_reducible refine gd 2 rfl (L ?_));refine bo 2 (.agg #[_,_,_]) S ?_;clear S F;intro gb345 W S;have F:=S.fc) | ((with_reducible refine gd 8 rfl (L ?_));refine lia 8 (atI .i64) 3 S ([]:List Int) (fun _ _=>(Reps.none _ _)) (by first | (go_simp;done) | (go_simp;rfl)) ?_;clear S F;intro Ay346 cy346 W S;(try rw [← Ny346.out] at S ⊢);have F:=S.fc) | ((with_reducible refine gd 2 rfl (L ?_));refine bo 2 (.agg #[_,_,_]) S ?_;clear S F;intro gb345 W S;have F:=S.fc) | ((with_reducible refine gd 8 rfl (L ?_));refine lia 8 (atI .i64) 3 S ([]:List Int) (fun _ _=>(Reps.none _ _)) (by first | (go_simp;done) | (go_simp;rfl)) ?_;clear S F;intro Ay346 cy346 W S;(try rw [← Ny346.out] at S ⊢);have F:=S.fc) | ((refine rq (id:=2) S [(0,0),(0,1),(0,4),(0,5),(1,2),(0,3),(0,8),(1,6),(0,7),(0,9)] [] (h:=?_);clear S F;intro W S;have S0:=S;have F:=S.fc)) | (refine q0 (h:=?_)) | (refine q1 S0 (h:=?_)) | (refine q0n (h:=?_)) | (refine q1n S0 (h:=?_)) | refine oz ?_)
 (try simp only [Act.put,List.setIfInBounds_toArray,List.set_cons_zero,List.set_cons_succ])
 go_cut [5] (fun v5 wc=>∃ (kq:Nat) (x5_3:List Int) (Ax5_3:Option Addr) (cx5_3:Nat),v5 = .slice Ax5_3 x5_3.length cx5_3∧impl_besideOf.j0 kq a1 x5_3 (wrap64 (Int.tdiv a1 a0_1)) (Int.tmod a1 a0_1) a0_0 a0_1 l0_2 = some r∧kq ≤ k∧St w w (fun _=>False) [bor at88 A0_2 c0_2 l0_2] wc  [row (atI .i64) 3 Ax5_3 x5_3.length cx5_3 x5_3,box gb345 50 [.int .i64 a0_0,.int .i64 a0_1,.slice A0_2 l0_2.length c0_2]])
 case first =>
  replace H:=sp_ H;rcases H with ⟨c9,H⟩ | ⟨c9,H⟩
  · skip
    replace H:=np_ H;obtain ⟨c10,H⟩:=H
    (first | (with_reducible replace H:=ob_ H;obtain ⟨y349,hy349,H⟩:=H;(try dsimp only at H)) | (obtain ⟨y349,hy349⟩:∃ y_:List Int,y_ = (y346 ++ [wrap64 (a1 - a0_1)]):=⟨_,rfl⟩;(try rw [← hy349] at H);(try simp only [Option.bind_some] at H)));have Ny349:=Aside0.mk hy349;clear hy349
    go_wp2_with (first | ((with_reducible refine gd 25 rfl (L ?_));refine apa (A:=Ay346) 25 S Try.underlying23 info3 ?_ (ho:=rfl) (hs:=rfl) (hx:=rfl);clear S F;intro Ay349 cy349 W S;(try rw [← Ny349.out] at S ⊢);have F:=S.fc))
    go_wp2_with (first | ((with_reducible refine gd 25 rfl (L ?_));refine apa (A:=Ay346) 25 S Try.underlying23 info3 ?_ (ho:=rfl) (hs:=rfl) (hx:=rfl);clear S F;intro Ay349 cy349 W S;(try rw [← Ny349.out] at S ⊢);have F:=S.fc) | ((with_reducible refine gd 25 rfl (L ?_));refine apa (A:=Ay346) 25 S Try.underlying23 info3 ?_ (ho:=rfl) (hs:=rfl) (hx:=rfl);clear S F;intro Ay349 cy349 W S;(try rw [← Ny349.out] at S ⊢);have F:=S.fc) | ((refine rq (id:=2) S [(0,0),(0,1),(0,4),(0,5),(1,2),(0,3),(0,8),(1,6),(0,7),(0,9)] [] (h:=?_);clear S F;intro W S;have S0:=S;have F:=S.fc)) | (refine q0 (h:=?_)) | (refine q1 S0 (h:=?_)) | (refine q0n (h:=?_)) | (refine q1n S0 (h:=?_)) | refine oz ?_)
    go_meet
    case rel=>exact ⟨_,y349,_,_,rfl,H,(by first | omega | exact Nat.le_refl _),S⟩
  · skip
    go_wp2
    go_wp2_with (first | ((refine rq (id:=2) S [(0,0),(0,1),(0,4),(0,5),(1,2),(0,3),(0,8),(1,6),(0,7),(0,9)] [] (h:=?_);clear S F;intro W S;have S0:=S;have F:=S.fc)) | (refine q0 (h:=?_)) | (refine q1 S0 (h:=?_)) | (refine q0n (h:=?_)) | (refine q1n S0 (h:=?_)) | refine oz ?_)
    go_meet
    case rel=>exact ⟨_,y346,_,_,rfl,H,(by first | omega | exact Nat.le_refl _),S⟩
 case rest =>
  clear H S F
  obtain ⟨kq,x5_3,Ax5_3,cx5_3,rfl,HA,HJ3,S⟩:=hcut
  have F:=S.fc
  cases kq with
  | zero=>exact absurd HA (by simp [impl_besideOf.j0])
  | succ kj3 =>
   have H:=HA;clear HA;simp only [impl_besideOf.j0,F] at H
   go_upto_if 27 with (fail)
   go_upto_if 27 with (first | ((refine rq (id:=2) S [(0,0),(0,1),(0,4),(0,5),(1,2),(0,3),(0,8),(1,6),(0,7),(0,9)] [] (h:=?_);clear S F;intro W S;have S0:=S;have F:=S.fc)) | (refine q0 (h:=?_)) | (refine q1 S0 (h:=?_)) | (refine q0n (h:=?_)) | (refine q1n S0 (h:=?_)) | refine oz ?_)
   go_cut [5] (fun v5 wc=>∃ (kq:Nat) (x5_12:List Int) (Ax5_12:Option Addr) (cx5_12:Nat),v5 = .slice Ax5_12 x5_12.length cx5_12∧impl_besideOf.j1 kq a1 x5_12 (wrap64 (Int.tdiv a1 a0_1)) (Int.tmod a1 a0_1) a0_0 a0_1 l0_2 = some r∧kq ≤ kj3∧St w w (fun _=>False) [bor at88 A0_2 c0_2 l0_2] wc  [row (atI .i64) 3 Ax5_12 x5_12.length cx5_12 x5_12,box gb345 50 [.int .i64 a0_0,.int .i64 a0_1,.slice A0_2 l0_2.length c0_2]])
   case first =>
    replace H:=sp_ H;rcases H with ⟨c14,H⟩ | ⟨c14,H⟩
    · skip
      replace H:=np_ H;obtain ⟨c15,H⟩:=H
      (first | (with_reducible replace H:=ob_ H;obtain ⟨y352,hy352,H⟩:=H;(try dsimp only at H)) | (obtain ⟨y352,hy352⟩:∃ y_:List Int,y_ = (x5_3 ++ [wrap64 (a1 - 1)]):=⟨_,rfl⟩;(try rw [← hy352] at H);(try simp only [Option.bind_some] at H)));have Ny352:=Aside0.mk hy352;clear hy352
      go_wp2_with (first | ((with_reducible refine gd 32 rfl (L ?_));refine apa (A:=Ax5_3) 32 S Try.underlying23 info3 ?_ (ho:=rfl) (hs:=rfl) (hx:=rfl);clear S F;intro Ay352 cy352 W S;(try rw [← Ny352.out] at S ⊢);have F:=S.fc))
      go_wp2_with (first | ((with_reducible refine gd 32 rfl (L ?_));refine apa (A:=Ax5_3) 32 S Try.underlying23 info3 ?_ (ho:=rfl) (hs:=rfl) (hx:=rfl);clear S F;intro Ay352 cy352 W S;(try rw [← Ny352.out] at S ⊢);have F:=S.fc) | ((with_reducible refine gd 32 rfl (L ?_));refine apa (A:=Ax5_3) 32 S Try.underlying23 info3 ?_ (ho:=rfl) (hs:=rfl) (hx:=rfl);clear S F;intro Ay352 cy352 W S;(try rw [← Ny352.out] at S ⊢);have F:=S.fc) | ((refine rq (id:=2) S [(0,0),(0,1),(0,4),(0,5),(1,2),(0,3),(0,8),(1,6),(0,7),(0,9)] [] (h:=?_);clear S F;intro W S;have S0:=S;have F:=S.fc)) | (refine q0 (h:=?_)) | (refine q1 S0 (h:=?_)) | (refine q0n (h:=?_)) | (refine q1n S0 (h:=?_)) | refine oz ?_)
      go_meet
      case rel=>exact ⟨_,y352,_,_,rfl,H,(by first | omega | exact Nat.le_refl _),S⟩
    · skip
      go_wp2
      go_wp2_with (first | ((refine rq (id:=2) S [(0,0),(0,1),(0,4),(0,5),(1,2),(0,3),(0,8),(1,6),(0,7),(0,9)] [] (h:=?_);clear S F;intro W S;have S0:=S;have F:=S.fc)) | (refine q0 (h:=?_)) | (refine q1 S0 (h:=?_)) | (refine q0n (h:=?_)) | (refine q1n S0 (h:=?_)) | refine oz ?_)
      go_meet
      case rel=>exact ⟨_,x5_3,_,_,rfl,H,(by first | omega | exact Nat.le_refl _),S⟩
   case rest =>
    clear H S F
    obtain ⟨kq,x5_12,Ax5_12,cx5_12,rfl,HA,HJ12,S⟩:=hcut
    have F:=S.fc
    cases kq with
    | zero=>exact absurd HA (by simp [impl_besideOf.j1])
    | succ kj12 =>
     have H:=HA;clear HA;simp only [impl_besideOf.j1,F] at H
     replace H:=sp_ H;rcases H with ⟨c17,H⟩ | ⟨c17,H⟩
     · skip
       replace H:=np_ H;obtain ⟨c18,H⟩:=H
       (first | (with_reducible replace H:=ob_ H;obtain ⟨y355,hy355,H⟩:=H;(try dsimp only at H)) | (obtain ⟨y355,hy355⟩:∃ y_:List Int,y_ = (x5_12 ++ [wrap64 (a1 + 1)]):=⟨_,rfl⟩;(try rw [← hy355] at H);(try simp only [Option.bind_some] at H)));have Ny355:=Aside0.mk hy355;clear hy355
       replace H:=sp_ H;rcases H with ⟨c19,H⟩ | ⟨c19,H⟩
       · skip
         replace H:=np_ H;obtain ⟨c20,H⟩:=H
         (first | (with_reducible replace H:=ob_ H;obtain ⟨y358,hy358,H⟩:=H;(try dsimp only at H)) | (obtain ⟨y358,hy358⟩:∃ y_:List Int,y_ = (y355 ++ [wrap64 (a1 + a0_1)]):=⟨_,rfl⟩;(try rw [← hy358] at H);(try simp only [Option.bind_some] at H)));have Ny358:=Aside0.mk hy358;clear hy358
         obtain rfl:=Option.some.inj H
         go_wp2_with (first | ((with_reducible refine gd 42 rfl (L ?_));refine apa (A:=Ax5_12) 42 S Try.underlying23 info3 ?_ (ho:=rfl) (hs:=rfl) (hx:=rfl);clear S F;intro Ay355 cy355 W S;(try rw [← Ny355.out] at S ⊢);(try rw [← Ny358.out] at S ⊢);have F:=S.fc) | ((with_reducible refine gd 54 rfl (L ?_));refine apa (A:=Ay355) 54 S Try.underlying23 info3 ?_ (ho:=rfl) (hs:=rfl) (hx:=rfl);clear S F;intro Ay358 cy358 W S;(try rw [← Ny355.out] at S ⊢);(try rw [← Ny358.out] at S ⊢);have F:=S.fc))
         go_wp2_with (first | ((with_reducible refine gd 42 rfl (L ?_));refine apa (A:=Ax5_12) 42 S Try.underlying23 info3 ?_ (ho:=rfl) (hs:=rfl) (hx:=rfl);clear S F;intro Ay355 cy355 W S;(try rw [← Ny355.out] at S ⊢);(try rw [← Ny358.out] at S ⊢);have F:=S.fc) | ((with_reducible refine gd 54 rfl (L ?_));refine apa (A:=Ay355) 54 S Try.underlying23 info3 ?_ (ho:=rfl) (hs:=rfl) (hx:=rfl);clear S F;intro Ay358 cy358 W S;(try rw [← Ny355.out] at S ⊢);(try rw [← Ny358.out] at S ⊢);have F:=S.fc) | ((with_reducible refine gd 42 rfl (L ?_));refine apa (A:=Ax5_12) 42 S Try.underlying23 info3 ?_ (ho:=rfl) (hs:=rfl) (hx:=rfl);clear S F;intro Ay355 cy355 W S;(try rw [← Ny355.out] at S ⊢);(try rw [← Ny358.out] at S ⊢);have F:=S.fc) | ((with_reducible refine gd 54 rfl (L ?_));refine apa (A:=Ay355) 54 S Try.underlying23 info3 ?_ (ho:=rfl) (hs:=rfl) (hx:=rfl);clear S F;intro Ay358 cy358 W S;(try rw [← Ny355.out] at S ⊢);(try rw [← Ny358.out] at S ⊢);have F:=S.fc) | ((refine rq (id:=2) S [(0,0),(0,1),(0,4),(0,5),(1,2),(0,3),(0,8),(1,6),(0,7),(0,9)] [] (h:=?_);clear S F;intro W S;have S0:=S;have F:=S.fc)) | (refine q0 (h:=?_)) | (refine q1 S0 (h:=?_)) | (refine q0n (h:=?_)) | (refine q1n S0 (h:=?_)) | refine oz ?_)
         go_ret
         exact ⟨_,(by first | rfl | (simp [e0_,e1_] <;> rfl) | (simp [*,e0_,e1_] <;> rfl)),(by first | exact S.r | exact Kd.R_nil _ _ _ _ _),S.below⟩
       · skip
         obtain rfl:=Option.some.inj H
         go_wp2_with (first | ((with_reducible refine gd 42 rfl (L ?_));refine apa (A:=Ax5_12) 42 S Try.underlying23 info3 ?_ (ho:=rfl) (hs:=rfl) (hx:=rfl);clear S F;intro Ay355 cy355 W S;(try rw [← Ny355.out] at S ⊢);have F:=S.fc))
         go_wp2_with (first | ((with_reducible refine gd 42 rfl (L ?_));refine apa (A:=Ax5_12) 42 S Try.underlying23 info3 ?_ (ho:=rfl) (hs:=rfl) (hx:=rfl);clear S F;intro Ay355 cy355 W S;(try rw [← Ny355.out] at S ⊢);have F:=S.fc) | ((with_reducible refine gd 42 rfl (L ?_));refine apa (A:=Ax5_12) 42 S Try.underlying23 info3 ?_ (ho:=rfl) (hs:=rfl) (hx:=rfl);clear S F;intro Ay355 cy355 W S;(try rw [← Ny355.out] at S ⊢);have F:=S.fc) | ((refine rq (id:=2) S [(0,0),(0,1),(0,4),(0,5),(1,2),(0,3),(0,8),(1,6),(0,7),(0,9)] [] (h:=?_);clear S F;intro W S;have S0:=S;have F:=S.fc)) | (refine q0 (h:=?_)) | (refine q1 S0 (h:=?_)) | (refine q0n (h:=?_)) | (refine q1n S0 (h:=?_)) | refine oz ?_)
         go_ret
         exact ⟨_,(by first | rfl | (simp [e0_,e1_] <;> rfl) | (simp [*,e0_,e1_] <;> rfl)),(by first | exact S.r | exact Kd.R_nil _ _ _ _ _),S.below⟩
     · skip
       replace H:=sp_ H;rcases H with ⟨c28,H⟩ | ⟨c28,H⟩
       · skip
         replace H:=np_ H;obtain ⟨c29,H⟩:=H
         (first | (with_reducible replace H:=ob_ H;obtain ⟨y361,hy361,H⟩:=H;(try dsimp only at H)) | (obtain ⟨y361,hy361⟩:∃ y_:List Int,y_ = (x5_12 ++ [wrap64 (a1 + a0_1)]):=⟨_,rfl⟩;(try rw [← hy361] at H);(try simp only [Option.bind_some] at H)));have Ny361:=Aside0.mk hy361;clear hy361
         obtain rfl:=Option.some.inj H
         go_wp2_with (first | ((with_reducible refine gd 54 rfl (L ?_));refine apa (A:=Ax5_12) 54 S Try.underlying23 info3 ?_ (ho:=rfl) (hs:=rfl) (hx:=rfl);clear S F;intro Ay361 cy361 W S;(try rw [← Ny361.out] at S ⊢);have F:=S.fc))
         go_wp2_with (first | ((with_reducible refine gd 54 rfl (L ?_));refine apa (A:=Ax5_12) 54 S Try.underlying23 info3 ?_ (ho:=rfl) (hs:=rfl) (hx:=rfl);clear S F;intro Ay361 cy361 W S;(try rw [← Ny361.out] at S ⊢);have F:=S.fc) | ((with_reducible refine gd 54 rfl (L ?_));refine apa (A:=Ax5_12) 54 S Try.underlying23 info3 ?_ (ho:=rfl) (hs:=rfl) (hx:=rfl);clear S F;intro Ay361 cy361 W S;(try rw [← Ny361.out] at S ⊢);have F:=S.fc) | ((refine rq (id:=2) S [(0,0),(0,1),(0,4),(0,5),(1,2),(0,3),(0,8),(1,6),(0,7),(0,9)] [] (h:=?_);clear S F;intro W S;have S0:=S;have F:=S.fc)) | (refine q0 (h:=?_)) | (refine q1 S0 (h:=?_)) | (refine q0n (h:=?_)) | (refine q1n S0 (h:=?_)) | refine oz ?_)
         go_ret
         exact ⟨_,(by first | rfl | (simp [e0_,e1_] <;> rfl) | (simp [*,e0_,e1_] <;> rfl)),(by first | exact S.r | exact Kd.R_nil _ _ _ _ _),S.below⟩
       · skip
         obtain rfl:=Option.some.inj H
         go_wp2
         go_wp2_with (first | ((refine rq (id:=2) S [(0,0),(0,1),(0,4),(0,5),(1,2),(0,3),(0,8),(1,6),(0,7),(0,9)] [] (h:=?_);clear S F;intro W S;have S0:=S;have F:=S.fc)) | (refine q0 (h:=?_)) | (refine q1 S0 (h:=?_)) | (refine q0n (h:=?_)) | (refine q1n S0 (h:=?_)) | refine oz ?_)
         go_ret
         exact ⟨_,(by first | rfl | (simp [e0_,e1_] <;> rfl) | (simp [*,e0_,e1_] <;> rfl)),(by first | exact S.r | exact Kd.R_nil _ _ _ _ _),S.below⟩
end Go.Proofs.Ytipaimgpmgbkiaa.F
