-- Printed by a program; checked here.
import Derived.Test.YtipaimgpmgbkiaaF0
import Derived.Test.YtipaimgpmgbkiaaF2
import Derived.Test.YtipaimgpmgbkiaaF3
import Derived.Test.YtipaimgpmgbkiaaF4
import Derived.Test.YtipaimgpmgbkiaaF5
namespace Go.Proofs.Ytipaimgpmgbkiaa.F
open Go.RowKit Go.Proofs.YtipaimgpmgbkiaaV.PrintWords Go.Proofs.YtipaimgpmgbkiaaV.PrintLast Go.Proofs.YtipaimgpmgbkiaaV.PrintMore Go.Proofs.YtipaimgpmgbkiaaV.Sl Go.Proofs.YtipaimgpmgbkiaaV.Rf
attribute [local go_sem] max2_int min2_int max_two min_two max_three min_three max_four min_four ia_opt it_opt
attribute [local go_sem] Try.underlying4 Try.underlying23 Try.underlying25 Try.underlying29 Try.underlying31 Try.underlying41 Try.underlying42 Try.underlying46 Try.underlying50 Try.underlying63 Try.underlying85 Try.underlying88 Try.underlying89 Try.underlying106 Try.underlying122 Try.underlying127
set_option maxHeartbeats 8000000
set_option maxRecDepth 100000
set_option linter.unusedVariables false
set_option linter.unusedSimpArgs false

/-! ### impl_dropAll: function 120 -/
def impl_dropAll.l0:Nat→List Int→List (S127)→List Int→Int→Int→Int→Int→List (S88)→Option ((List (S127)) × Int × Int × (List (S88)))
  | 0,_,_,_,_,_,_,_,_=>none
  | k + 1,x7,x8,x18,x19,x20,x1529000,x1529001,x1529002=>if x20 < x19 then (if 0 ≤ x20 then (if x20 < (x18.length:Int) then ((impl_drop.f k x1529000 x1529001 x1529002 x7 (rd x18 x20)).bind fun bt1536=>(if x8.length < 5864062014805 then (impl_dropAll.l0 k x7 (x8 ++ [(⟨bt1536.1,bt1536.2.1,bt1536.2.2.1⟩:S127)]) x18 x19 (wrap64 (x20 + 1)) x1529000 x1529001 bt1536.2.2.2.2) else (none))) else (none)) else (none)) else (some (x8,x1529000,x1529001,x1529002))
def impl_dropAll.f (k:Nat) (a0_0:Int) (a0_1:Int) (l0_2:List (S88)) (l1:List Int):Option ((List (S127)) × Int × Int × (List (S88))):=(impl_copyBoard.f a0_0 a0_1 l0_2).bind fun bt1523=>((impl_groupNumbers.f k a0_0 a0_1 l0_2).bind fun t1529=>(impl_dropAll.l0 k t1529 (([]:List (S127))) l1 (l1.length:Int) 0 bt1523.1 bt1523.2.1 bt1523.2.2))
theorem impl_dropAll.calls (k:Nat) (a0_0:Int) (a0_1:Int) (A0_2:Option Addr) (c0_2:Nat) (l0_2:List (S88)) (A1:Option Addr) (c1:Nat) (l1:List Int) (r1:List (S127)) (r2:Int) (r3:Int) (r4:List (S88)) (w:World) (hr0_2:Kd.C k88 w A0_2 l0_2.length l0_2) (hc0_2:l0_2.length ≤ c0_2) (hr1:Kd.C (Kd.int .i64) w A1 l1.length l1) (hc1:l1.length ≤ c1) (h:impl_dropAll.f k a0_0 a0_1 l0_2 l1 = some (r1,r2,r3,r4)) :
    Calls Try.prog 120 #[.agg #[.int .i64 a0_0,.int .i64 a0_1,.slice A0_2 l0_2.length c0_2],.slice A1 l1.length c1] w fun e w'=>∃ v0_ v3_:Value,e = .returned (.tuple #[v0_,.agg #[.int .i64 r2,.int .i64 r3,v3_]])∧Kd.R k127 127 w' w.heap.size (fun _=>True) v0_ r1∧Kd.R k88 88 w' w.heap.size (fun _=>True) v3_ r4∧Below w.heap.size w w':=by
 have S:=St.init (w:=w) (dc k88_heap at88 hr0_2 hc0_2 (dc (Kd.heap_int .i64) (atI .i64) hr1 hc1 dn))
 clear hr0_2 hc0_2 hr1 hc1
 have F:=S.fc
 have H:=h;clear h;unfold impl_dropAll.f at H
 replace H:=Option.bind_eq_some_iff.mp H;obtain ⟨⟨t1523,t1524,t1525⟩,A3,H⟩:=H;(try dsimp only at H)
 replace H:=Option.bind_eq_some_iff.mp H;obtain ⟨t1529,A4,H⟩:=H;(try dsimp only at H)
 (first | (with_reducible replace H:=ob_ H;obtain ⟨y1532,hy1532,H⟩:=H;(try dsimp only at H)) | (obtain ⟨y1532,hy1532⟩:∃ y_:List (S127),y_ = (([]:List (S127))):=⟨_,rfl⟩;(try rw [← hy1532] at H);(try simp only [Option.bind_some] at H)));have Ny1532:=Aside0.mk hy1532;clear hy1532
 go_enter Try.func120,Try.ntmps120
 go_wp2_with (first | ((with_reducible refine gd 2 rfl (L ?_));refine bo 2 (.agg #[_,_,_]) S ?_;clear S F;intro gb1521 W S;have F:=S.fc) | ((with_reducible refine gd 5 rfl (L ?_));refine al 5 S zi50 ?_;clear S F;intro gb1522 W S;have F:=S.fc) | ((with_reducible refine gate_callee (f:=117) rfl (L ?_));refine cl (some 14) Try.func117 (impl_copyBoard.calls _ _ _ _ _ _ _ _ _ S.c S.n A3) (hargs:=by (simp only [ma_,mb_,mc_,F] <;> rfl)) (h:=?_);rintro e W ⟨v1526,rfl,ho0,hb⟩;refine ⟨_,rfl,?_⟩;replace S:=S.got at88 hb ho0;obtain ⟨At1525,ct1525,rfl,S⟩:=S;clear F hb ho0;have F:=S.fc) | ((with_reducible refine gd 6 rfl (L ?_));refine al 6 S zi50 ?_;clear S F;intro gb1528 W S;have F:=S.fc) | ((with_reducible refine gate_callee (f:=128) rfl (L ?_));refine cl (some 16) Try.func128 (impl_groupNumbers.calls _ _ _ _ _ _ _ _ S.c S.n A4) (hargs:=by (simp only [ma_,mb_,mc_,F] <;> rfl)) (h:=?_);rintro e W ⟨v1530,rfl,ho0,hb⟩;refine ⟨_,rfl,?_⟩;replace S:=S.got (atI .i64) hb ho0;obtain ⟨At1529,ct1529,rfl,S⟩:=S;clear F hb ho0;have F:=S.fc) | ((with_reducible refine gd 17 rfl (L ?_));refine lia 17 at127 127 S ([]:List (S127)) (fun _ _=>(Reps.none _ _)) (by first | (go_simp;done) | (go_simp;rfl)) ?_;clear S F;intro Ay1532 cy1532 W S;(try rw [← Ny1532.out] at S ⊢);have F:=S.fc) | ((with_reducible refine gs (t:=50) rfl (L ?_));(first | refine sb (.agg #[_,_,_]) S sz50 ?_ | refine ro (.agg #[_,_,_]) S sz50 ?_ (ho:=rfl) (hx:=rfl) (hy:=rfl));(clear S F;intro W S;have F:=S.fc)) | ((with_reducible refine gs (t:=127) rfl (L ?_));(first | refine sb (.agg #[_,_,_]) S sz127 ?_ | refine ro (.agg #[_,_,_]) S sz127 ?_ (ho:=rfl) (hx:=rfl) (hy:=rfl));(clear S F;intro W S;have F:=S.fc)))
 go_loopg [8,20] k (fun kq v8 v20 w'=>∃ (x8_1:List (S127)) (x20_1:Int) (x1529002_1:List (S88)) (Ax8_1:Option Addr) (cx8_1:Nat) (Ax1529002_1:Option Addr) (cx1529002_1:Nat),v20 = .int .i64 x20_1∧v8 = .slice Ax8_1 x8_1.length cx8_1∧impl_dropAll.l0 kq t1529 x8_1 l1 (l1.length:Int) x20_1 t1523 t1524 x1529002_1 = some (r1,r2,r3,r4)∧kq ≤ k∧St w w (fun _=>False) [bor at88 A0_2 c0_2 l0_2,bor (atI .i64) A1 c1 l1] w'  [row at127 127 Ax8_1 x8_1.length cx8_1 x8_1,row (atI .i64) 3 At1529 t1529.length ct1529 t1529,box gb1528 50 [.int .i64 t1523,.int .i64 t1524,.slice Ax1529002_1 x1529002_1.length cx1529002_1],row at88 88 Ax1529002_1 x1529002_1.length cx1529002_1 x1529002_1,box gb1522 50 [.int .i64 0,.int .i64 0,.slice none 0 0],box gb1521 50 [.int .i64 a0_0,.int .i64 a0_1,.slice A0_2 l0_2.length c0_2]])
 case atStart=>exact ⟨y1532,0,t1525,_,_,_,_,(by first | rfl | (simp;done) | (simp [*];done) | (rw [w6_ (by omega) (by omega)])),rfl,H,Nat.le_refl _,S⟩
 case round =>
  clear H S F
  obtain ⟨x8_1,x20_1,x1529002_1,Ax8_1,cx8_1,Ax1529002_1,cx1529002_1,rfl,rfl,HA,HK1,S⟩:=hrel
  have F:=S.fc
  cases gk with
  | zero=>exact absurd HA (by simp [impl_dropAll.l0])
  | succ k1 =>
   have H:=HA;clear HA;simp only [impl_dropAll.l0,F] at H
   replace H:=sp_ H;rcases H with ⟨c19,H⟩ | ⟨c19,H⟩
   · skip
     replace H:=np_ H;obtain ⟨c20,H⟩:=H
     replace H:=np_ H;obtain ⟨c21,H⟩:=H
     replace H:=Option.bind_eq_some_iff.mp H;obtain ⟨⟨t1536,t1537,t1538,t1539,t1542⟩,A22,H⟩:=H;(try dsimp only at H)
     replace H:=np_ H;obtain ⟨c23,H⟩:=H
     (first | (with_reducible replace H:=ob_ H;obtain ⟨y1544,hy1544,H⟩:=H;(try dsimp only at H)) | (obtain ⟨y1544,hy1544⟩:∃ y_:List (S127),y_ = (x8_1 ++ [(⟨t1536,t1537,t1538⟩:S127)]):=⟨_,rfl⟩;(try rw [← hy1544] at H);(try simp only [Option.bind_some] at H)));have Ny1544:=Aside0.mk hy1544;clear hy1544
     go_wp2_with (first | ((with_reducible refine gate_callee (f:=129) rfl (L ?_));obtain ⟨ok_,k_⟩:=S.lend (A:=Ax1529002_1);refine cl (some 28) Try.func129 (impl_drop.calls _ _ _ ok_ _ _ _ _ _ _ _ _ _ _ _ _ _ k_.below k_.own k_.c k_.n A22) (hargs:=by (simp only [ma_,mb_,mc_,F] <;> rfl)) (h:=?_);rintro e W ⟨v1540,rfl,ho,hy,hb,hk⟩;refine ⟨_,rfl,?_⟩;clear S F;obtain ⟨At1539,ct1539,rfl,S⟩:=k_.back1 (atI .i64) ho hy hb hk (by decide);clear k_ ho hy hb hk;have F:=S.fc) | ((with_reducible refine gd 11 rfl (L ?_));refine al 11 S zi127 ?_;clear S F;intro gb1543 W S;have F:=S.fc) | ((with_reducible refine gd 34 rfl (L ?_));refine apa (A:=Ax8_1) 34 S Try.underlying122 info127 ?_ (ho:=rfl) (hs:=rfl) (hx:=rfl);clear S F;intro Ay1544 cy1544 W S;(try rw [← Ny1544.out] at S ⊢);have F:=S.fc) | ((with_reducible refine gs (t:=50) rfl (L ?_));(first | refine sb (.agg #[_,_,_]) S sz50 ?_ | refine ro (.agg #[_,_,_]) S sz50 ?_ (ho:=rfl) (hx:=rfl) (hy:=rfl));clear S F;intro W S;(try rw [← Ny1544.out] at S);have F:=S.fc) | ((with_reducible refine gs (t:=127) rfl (L ?_));(first | refine sb (.agg #[_,_,_]) S sz127 ?_ | refine ro (.agg #[_,_,_]) S sz127 ?_ (ho:=rfl) (hx:=rfl) (hy:=rfl));clear S F;intro W S;(try rw [← Ny1544.out] at S);have F:=S.fc))
     go_roundg k1
     case measure=>omega
     case rel=>(try rw [← (show t1542.length = x1529002_1.length by simp only [F])] at S);exact ⟨y1544,(wrap64 (x20_1 + 1)),t1542,_,_,_,_,(by first | rfl | (simp;done) | (simp [*];done) | (rw [w6_ (by omega) (by omega)])),rfl,H,(by first | omega | exact Nat.le_refl _),S.tl.tl⟩
   · skip
     simp only [Option.some.injEq,Prod.mk.injEq] at H
     obtain ⟨rfl,rfl,rfl,rfl⟩:=H
     go_wp2_with (first | ((with_reducible refine gs (t:=50) rfl (L ?_));(first | refine sb (.agg #[_,_,_]) S sz50 ?_ | refine ro (.agg #[_,_,_]) S sz50 ?_ (ho:=rfl) (hx:=rfl) (hy:=rfl));(clear S F;intro W S;have F:=S.fc)) | ((with_reducible refine gs (t:=127) rfl (L ?_));(first | refine sb (.agg #[_,_,_]) S sz127 ?_ | refine ro (.agg #[_,_,_]) S sz127 ?_ (ho:=rfl) (hx:=rfl) (hy:=rfl));(clear S F;intro W S;have F:=S.fc)))
     refine rgP S (fun _ S=>(S.pm [0,1,2,3,5])) [(0,0),(0,2),(1,1),(2,3)] [] (by kernel_rfl) (by kernel_rfl) (fun _ d _ _ _ h=>by cases d <;> exact h) ?_;clear S F;intro W S;have S0:=(S.pm [0,1,2,3,5]);have F:=S.fc
     repeat (first | (refine q0 (h:=?_)) | (refine q1 S0 (h:=?_)) | (refine q0n (h:=?_)) | (refine q1n S0 (h:=?_)))
     refine lk2 (by rfl) (by exact (Eq.refl true)) ?_;(first | refine sb (.agg #[_,_,_]) S sz50 ?_ | refine ro (.agg #[_,_,_]) S sz50 ?_ (ho:=rfl) (hx:=rfl) (hy:=rfl) | refine sb (.agg #[_,_,_]) S sz127 ?_ | refine ro (.agg #[_,_,_]) S sz127 ?_ (ho:=rfl) (hx:=rfl) (hy:=rfl));(clear S F;intro W S;have F:=S.fc)
     clear S0;have S0:=(S.pm [0,1,2,3,5]);refine ⟨S0,?_⟩
     refine oz ?_
     try clear S0
     go_wp2_with (first | ((with_reducible refine gs (t:=50) rfl (L ?_));(first | refine sb (.agg #[_,_,_]) S sz50 ?_ | refine ro (.agg #[_,_,_]) S sz50 ?_ (ho:=rfl) (hx:=rfl) (hy:=rfl));(clear S F;intro W S;have F:=S.fc)) | ((with_reducible refine gs (t:=127) rfl (L ?_));(first | refine sb (.agg #[_,_,_]) S sz127 ?_ | refine ro (.agg #[_,_,_]) S sz127 ?_ (ho:=rfl) (hx:=rfl) (hy:=rfl));(clear S F;intro W S;have F:=S.fc)))
     refine bodyPost_ret (results_tc rfl _ _ gb1522 50 #[.int .i64 t1523,.int .i64 t1524,.slice Ax1529002_1 x1529002_1.length cx1529002_1] (0,0) _ rfl S.hb Try.underlying50 rfl (by kernel_rfl)) rfl ?_
     exact ⟨_,_,(by first | rfl | (simp [e0_,e1_] <;> rfl) | (simp [*,e0_,e1_] <;> rfl)),(by first | exact S.r | exact Kd.R_nil _ _ _ _ _),(by first | exact S.r | exact Kd.R_nil _ _ _ _ _),S.below⟩

/-! ### impl_withEntry: function 91 -/
def impl_withEntry.f (k:Nat) (a0_0:Int) (a0_1:Int) (l0_2:List (S88)) (l0_3:List Int) (l0_4:List Int) (a1_0:Int) (a1_1:Int) (l1_2:List (S88)) (a2:Int):Option (Int × Int × (List (S88)) × List Int × List Int):=(impl_copyChallenge.f a0_0 a0_1 l0_2 l0_3 l0_4).bind fun bt1550=>(if bt1550.2.2.2.1.length < 17592186044416 then ((some (bt1550.2.2.2.1 ++ [a2]:List Int)).bind fun y1562=>((impl_dropAll.f k a1_0 a1_1 l1_2 y1562).bind fun bt1565=>(if 0 ≤ (wrap64 ((bt1565.1.length:Int) - 1)) then (if (wrap64 ((bt1565.1.length:Int) - 1)) < (bt1565.1.length:Int) then ((impl_endNumber.f a1_0 a1_1 l1_2 ((rd_T127 bt1565.1 (wrap64 ((bt1565.1.length:Int) - 1))).f0) ((rd_T127 bt1565.1 (wrap64 ((bt1565.1.length:Int) - 1))).f1) ((rd_T127 bt1565.1 (wrap64 ((bt1565.1.length:Int) - 1))).f2)).bind fun t1575=>(if bt1550.2.2.2.2.length < 17592186044416 then (some (bt1550.1,bt1550.2.1,bt1550.2.2.1,y1562,(bt1550.2.2.2.2 ++ [t1575]))) else (none))) else (none)) else (none)))) else (none))
theorem impl_withEntry.calls (k:Nat) (a0_0:Int) (a0_1:Int) (A0_2:Option Addr) (c0_2:Nat) (l0_2:List (S88)) (A0_3:Option Addr) (c0_3:Nat) (l0_3:List Int) (A0_4:Option Addr) (c0_4:Nat) (l0_4:List Int) (a1_0:Int) (a1_1:Int) (A1_2:Option Addr) (c1_2:Nat) (l1_2:List (S88)) (a2:Int) (r1:Int) (r2:Int) (r3:List (S88)) (r4:List Int) (r5:List Int) (w:World) (hr0_2:Kd.C k88 w A0_2 l0_2.length l0_2) (hc0_2:l0_2.length ≤ c0_2) (hr0_3:Kd.C (Kd.int .i64) w A0_3 l0_3.length l0_3) (hc0_3:l0_3.length ≤ c0_3) (hr0_4:Kd.C (Kd.int .i64) w A0_4 l0_4.length l0_4) (hc0_4:l0_4.length ≤ c0_4) (hr1_2:Kd.C k88 w A1_2 l1_2.length l1_2) (hc1_2:l1_2.length ≤ c1_2) (h:impl_withEntry.f k a0_0 a0_1 l0_2 l0_3 l0_4 a1_0 a1_1 l1_2 a2 = some (r1,r2,r3,r4,r5)) :
    Calls Try.prog 91 #[.agg #[.int .i64 a0_0,.int .i64 a0_1,.slice A0_2 l0_2.length c0_2,.slice A0_3 l0_3.length c0_3,.slice A0_4 l0_4.length c0_4],.agg #[.int .i64 a1_0,.int .i64 a1_1,.slice A1_2 l1_2.length c1_2],.int .i64 a2] w fun e w'=>∃ v2_ v3_ v4_:Value,e = .returned (.agg #[.int .i64 r1,.int .i64 r2,v2_,v3_,v4_])∧Kd.R k88 88 w' w.heap.size (fun _=>True) v2_ r3∧Kd.R (Kd.int .i64) 3 w' w.heap.size (fun k_=>some k_ ≠ (v4_:Value).ownBlock) v3_ r4∧Kd.R (Kd.int .i64) 3 w' w.heap.size (fun k_=>some k_ ≠ (v3_:Value).ownBlock) v4_ r5∧Below w.heap.size w w':=by
 have S:=St.init (w:=w) (dc k88_heap at88 hr0_2 hc0_2 (dc (Kd.heap_int .i64) (atI .i64) hr0_3 hc0_3 (dc (Kd.heap_int .i64) (atI .i64) hr0_4 hc0_4 (dc k88_heap at88 hr1_2 hc1_2 dn))))
 clear hr0_2 hc0_2 hr0_3 hc0_3 hr0_4 hc0_4 hr1_2 hc1_2
 have F:=S.fc
 have H:=h;clear h;unfold impl_withEntry.f at H
 replace H:=Option.bind_eq_some_iff.mp H;obtain ⟨⟨t1550,t1551,t1552,t1555,t1558⟩,A4,H⟩:=H;(try dsimp only at H)
 replace H:=np_ H;obtain ⟨c5,H⟩:=H
 (first | (with_reducible replace H:=ob_ H;obtain ⟨y1562,hy1562,H⟩:=H;(try dsimp only at H)) | (obtain ⟨y1562,hy1562⟩:∃ y_:List Int,y_ = (t1555 ++ [a2]):=⟨_,rfl⟩;(try rw [← hy1562] at H);(try simp only [Option.bind_some] at H)));have Ny1562:=Aside0.mk hy1562;clear hy1562
 replace H:=Option.bind_eq_some_iff.mp H;obtain ⟨⟨t1565,t1568,t1569,t1570⟩,A6,H⟩:=H;(try dsimp only at H)
 obtain ⟨ji7,hji7⟩:∃ j_:Int,(wrap64 ((t1565.length:Int) - 1)) = j_:=⟨_,rfl⟩;simp only [hji7] at H
 (try rw [hji7] at A4)
 (try rw [hji7] at A6)
 have hji7w:(IntKind.i64.wrap ((t1565.length:Int) - 1)) = ji7:=(i64_w _).trans hji7
 replace H:=np_ H;obtain ⟨c8,H⟩:=H
 replace H:=np_ H;obtain ⟨c9,H⟩:=H
 replace H:=Option.bind_eq_some_iff.mp H;obtain ⟨t1575,A10,H⟩:=H;(try dsimp only at H)
 replace H:=np_ H;obtain ⟨c11,H⟩:=H
 (first | (with_reducible replace H:=ob_ H;obtain ⟨y1576,hy1576,H⟩:=H;(try dsimp only at H)) | (obtain ⟨y1576,hy1576⟩:∃ y_:List Int,y_ = (t1558 ++ [t1575]):=⟨_,rfl⟩;(try rw [← hy1576] at H);(try simp only [Option.bind_some] at H)));have Ny1576:=Aside0.mk hy1576;clear hy1576
 simp only [Option.some.injEq,Prod.mk.injEq] at H
 obtain ⟨rfl,rfl,rfl,rfl,rfl⟩:=H
 go_enter Try.func91,Try.ntmps91
 go_wp2_with (first | ((with_reducible refine gd 3 rfl (L ?_));refine bo 3 (.agg #[_,_,_,_,_]) S ?_;clear S F;intro gb1547 W S;have F:=S.fc) | ((with_reducible refine gd 4 rfl (L ?_));refine bo 4 (.agg #[_,_,_]) S ?_;clear S F;intro gb1548 W S;have F:=S.fc) | ((with_reducible refine gd 6 rfl (L ?_));refine al 6 S zi31 ?_;clear S F;intro gb1549 W S;have F:=S.fc) | ((with_reducible refine gate_callee (f:=95) rfl (L ?_));refine cl (some 11) Try.func95 (impl_copyChallenge.calls _ _ _ _ _ _ _ _ _ _ _ _ _ _ _ _ _ S.c S.n S.c S.n S.c S.n A4) (hargs:=by (simp only [ma_,mb_,mc_,F] <;> rfl)) (h:=?_);rintro e W ⟨v1553,v1556,v1559,rfl,ho0,ho1,ho2,hb⟩;refine ⟨_,rfl,?_⟩;replace S:=S.got3i at88 (atI .i64) (atI .i64) hb ho0 ho1 ho2 (by decide);obtain ⟨At1552,ct1552,At1555,ct1555,At1558,ct1558,rfl,rfl,rfl,S⟩:=S;clear F hb ho0 ho1 ho2;(try rw [← Ny1562.out] at S);(try rw [← Ny1576.out] at S);have F:=S.fc) | ((with_reducible refine gd 7 rfl (L ?_));refine al 7 S zi31 ?_;clear S F;intro gb1561 W S;have F:=S.fc) | ((with_reducible refine gd 16 rfl (L ?_));refine apa (A:=At1555) 16 S Try.underlying23 info3 ?_ (ho:=rfl) (hs:=rfl) (hx:=rfl);clear S F;intro Ay1562 cy1562 W S;(try rw [← Ny1562.out] at S ⊢);(try rw [← Ny1576.out] at S ⊢);have F:=S.fc) | ((with_reducible refine gate_callee (f:=120) rfl (L ?_));refine cl (some 22) Try.func120 (impl_dropAll.calls _ _ _ _ _ _ _ _ _ _ _ _ _ _ S.c S.n S.c S.n A6) (hargs:=by (simp only [ma_,mb_,mc_,F] <;> rfl)) (h:=?_);rintro e W ⟨v1566,v1571,rfl,ho0,ho1,hb⟩;refine ⟨_,rfl,?_⟩;replace S:=S.got2 at127 at88 hb ho0 ho1 (by decide);obtain ⟨At1565,ct1565,At1570,ct1570,rfl,rfl,S⟩:=S;clear F hb ho0 ho1;(try rw [← Ny1562.out] at S);(try rw [← Ny1576.out] at S);have F:=S.fc) | ((with_reducible refine gd 9 rfl (L ?_));refine al 9 S zi50 ?_;clear S F;intro gb1573 W S;have F:=S.fc) | ((with_reducible refine gs (t:=23) rfl (L ?_));(first | refine sb (.slice _ _ _) S sz23 ?_ | refine ro (.slice _ _ _) S sz23 ?_ (ho:=rfl) (hx:=rfl) (hy:=rfl));clear S F;intro W S;(try rw [← Ny1562.out] at S);(try rw [← Ny1576.out] at S);have F:=S.fc) | ((with_reducible refine gs (t:=31) rfl (L ?_));(first | refine sb (.agg #[_,_,_,_,_]) S sz31 ?_ | refine ro (.agg #[_,_,_,_,_]) S sz31 ?_ (ho:=rfl) (hx:=rfl) (hy:=rfl));clear S F;intro W S;(try rw [← Ny1562.out] at S);(try rw [← Ny1576.out] at S);have F:=S.fc) | ((with_reducible refine gs (t:=50) rfl (L ?_));(first | refine sb (.agg #[_,_,_]) S sz50 ?_ | refine ro (.agg #[_,_,_]) S sz50 ?_ (ho:=rfl) (hx:=rfl) (hy:=rfl));clear S F;intro W S;(try rw [← Ny1562.out] at S);(try rw [← Ny1576.out] at S);have F:=S.fc))
 refine rq S [(0,0),(0,3),(0,4),(0,5),(0,6),(0,7),(1,1),(1,2),(1,8),(2,9),(2,10),(3,11),(0,12),(3,13)] [11,13] (h:=?_);clear S F;intro W S;have S0:=S;have F:=S.fc
 repeat (first | (refine q0 (h:=?_)) | (refine q1 S0 (h:=?_)) | (refine q0n (h:=?_)) | (refine q1n S0 (h:=?_)))
 refine lk2 (by rfl) (by exact (Eq.refl true)) ?_;refine cl (some 34) Try.func121 (impl_endNumber.calls _ _ _ _ _ _ _ _ _ _ S.c S.n A10) (hargs:=by (simp only [ma_,mb_,mc_,F] <;> rfl)) (h:=?_);rintro e W ⟨rfl,hb⟩;refine ⟨_,rfl,?_⟩;replace S:=S.go hb;clear F hb;have F:=S.fc
 clear S0;have S0:=S;refine ⟨S0,?_⟩
 refine lk2 (by rfl) (by exact (Eq.refl true)) ?_;refine lv 35 (cs:=[.int .i64 t1575]) (e:=3) (by first | (go_simp;done) | (go_simp;rfl)) ?_
 clear S0;have S0:=St.al1 S (.cells (List.toArray [.int .i64 t1575]) 3);refine ⟨S0,?_⟩
 refine lk3 (by rfl) (by exact (Eq.refl true)) ?_;refine apa (A:=At1558) 36 S Try.underlying23 info3 ?_ (ho:=rfl) (hs:=rfl) (hx:=rfl);clear S F;intro Ay1576 cy1576 W S;(try rw [← Ny1562.out] at S ⊢);(try rw [← Ny1576.out] at S ⊢);have F:=S.fc
 repeat (first | (refine q0 (h:=?_)) | (refine q1 S0 (h:=?_)) | (refine q0n (h:=?_)) | (refine q1n S0 (h:=?_)))
 refine lk3 (by rfl) (by exact (Eq.refl true)) ?_;(first | refine sb (.slice _ _ _) S sz23 ?_ | refine ro (.slice _ _ _) S sz23 ?_ (ho:=rfl) (hx:=rfl) (hy:=rfl) | refine sb (.agg #[_,_,_,_,_]) S sz31 ?_ | refine ro (.agg #[_,_,_,_,_]) S sz31 ?_ (ho:=rfl) (hx:=rfl) (hy:=rfl) | refine sb (.agg #[_,_,_]) S sz50 ?_ | refine ro (.agg #[_,_,_]) S sz50 ?_ (ho:=rfl) (hx:=rfl) (hy:=rfl));clear S F;intro W S;(try rw [← Ny1562.out] at S);(try rw [← Ny1576.out] at S);have F:=S.fc
 refine oz ?_
 try clear S0
 go_wp2_with (first | ((with_reducible refine gs (t:=23) rfl (L ?_));(first | refine sb (.slice _ _ _) S sz23 ?_ | refine ro (.slice _ _ _) S sz23 ?_ (ho:=rfl) (hx:=rfl) (hy:=rfl));clear S F;intro W S;(try rw [← Ny1562.out] at S);(try rw [← Ny1576.out] at S);have F:=S.fc) | ((with_reducible refine gs (t:=31) rfl (L ?_));(first | refine sb (.agg #[_,_,_,_,_]) S sz31 ?_ | refine ro (.agg #[_,_,_,_,_]) S sz31 ?_ (ho:=rfl) (hx:=rfl) (hy:=rfl));clear S F;intro W S;(try rw [← Ny1562.out] at S);(try rw [← Ny1576.out] at S);have F:=S.fc) | ((with_reducible refine gs (t:=50) rfl (L ?_));(first | refine sb (.agg #[_,_,_]) S sz50 ?_ | refine ro (.agg #[_,_,_]) S sz50 ?_ (ho:=rfl) (hx:=rfl) (hy:=rfl));clear S F;intro W S;(try rw [← Ny1562.out] at S);(try rw [← Ny1576.out] at S);have F:=S.fc))
 refine bodyPost_ret (results_cell_row rfl _ _ gb1549 31 #[.int .i64 t1550,.int .i64 t1551,.slice At1552 t1552.length ct1552,.slice Ay1562 y1562.length cy1562,.slice Ay1576 y1576.length cy1576] (0,0) _ rfl S.hb Try.underlying31 rfl (by kernel_rfl)) rfl ?_
 exact ⟨_,_,_,(by first | rfl | (simp [e0_,e1_] <;> rfl) | (simp [*,e0_,e1_] <;> rfl)),(by first | exact S.r | exact Kd.R_nil _ _ _ _ _),(by first | exact S.rn | exact Kd.R_nil _ _ _ _ _),(by first | exact S.rn | exact Kd.R_nil _ _ _ _ _),S.below⟩

/-! ### impl_AddEntry: function 54 -/
def impl_AddEntry.j0:Nat→Int→Bool→Int→Int→List (S88)→List Int→List Int→Option (Int × Int × (List (S88)) × List Int × List Int × Bool)
  | 0,_,_,_,_,_,_,_=>none
  | k + 1,x1,x26,x1580000,x1580001,x1580002,x1580003,x1580004=>if x26 = true then (some (0,0,([]:List (S88)),([]:List Int),([]:List Int),false)) else ((impl_smallestOf.f k x1580000 x1580001 x1580002 x1580003 x1580004).bind fun bt1582=>(if bt1582.2.2.2 = true then ((impl_withEntry.f k x1580000 x1580001 x1580002 x1580003 x1580004 bt1582.1 bt1582.2.1 bt1582.2.2.1 x1).bind fun bt1589=>(some (bt1589.1,bt1589.2.1,bt1589.2.2.1,bt1589.2.2.2.1,bt1589.2.2.2.2,true))) else (some (0,0,([]:List (S88)),([]:List Int),([]:List Int),false))))
def impl_AddEntry.f (k:Nat) (a0_0:Int) (a0_1:Int) (l0_2:List (S88)) (l0_3:List Int) (l0_4:List Int) (a1:Int):Option (Int × Int × (List (S88)) × List Int × List Int × Bool):=(impl_isPlayed.f k a0_0 a0_1 l0_2 l0_3 l0_4).bind fun t1581=>(if t1581 = true then (if a1 < 0 then (impl_AddEntry.j0 k a1 true a0_0 a0_1 l0_2 l0_3 l0_4) else (if a1 ≥ a0_1 then (impl_AddEntry.j0 k a1 true a0_0 a0_1 l0_2 l0_3 l0_4) else (impl_AddEntry.j0 k a1 ((l0_3.length:Int) == 8) a0_0 a0_1 l0_2 l0_3 l0_4))) else (impl_AddEntry.j0 k a1 true a0_0 a0_1 l0_2 l0_3 l0_4))
theorem impl_AddEntry.calls (k:Nat) (a0_0:Int) (a0_1:Int) (A0_2:Option Addr) (c0_2:Nat) (l0_2:List (S88)) (A0_3:Option Addr) (c0_3:Nat) (l0_3:List Int) (A0_4:Option Addr) (c0_4:Nat) (l0_4:List Int) (a1:Int) (r1:Int) (r2:Int) (r3:List (S88)) (r4:List Int) (r5:List Int) (r6:Bool) (w:World) (hr0_2:Kd.C k88 w A0_2 l0_2.length l0_2) (hc0_2:l0_2.length ≤ c0_2) (hr0_3:Kd.C (Kd.int .i64) w A0_3 l0_3.length l0_3) (hc0_3:l0_3.length ≤ c0_3) (hr0_4:Kd.C (Kd.int .i64) w A0_4 l0_4.length l0_4) (hc0_4:l0_4.length ≤ c0_4) (h:impl_AddEntry.f k a0_0 a0_1 l0_2 l0_3 l0_4 a1 = some (r1,r2,r3,r4,r5,r6)) :
    Calls Try.prog 54 #[.agg #[.int .i64 a0_0,.int .i64 a0_1,.slice A0_2 l0_2.length c0_2,.slice A0_3 l0_3.length c0_3,.slice A0_4 l0_4.length c0_4],.int .i64 a1] w fun e w'=>∃ v2_ v3_ v4_:Value,e = .returned (.tuple #[.agg #[.int .i64 r1,.int .i64 r2,v2_,v3_,v4_],.bool r6])∧Kd.R k88 88 w' w.heap.size (fun _=>True) v2_ r3∧Kd.R (Kd.int .i64) 3 w' w.heap.size (fun k_=>some k_ ≠ (v4_:Value).ownBlock) v3_ r4∧Kd.R (Kd.int .i64) 3 w' w.heap.size (fun k_=>some k_ ≠ (v3_:Value).ownBlock) v4_ r5∧Below w.heap.size w w':=by
 have S:=St.init (w:=w) (dc k88_heap at88 hr0_2 hc0_2 (dc (Kd.heap_int .i64) (atI .i64) hr0_3 hc0_3 (dc (Kd.heap_int .i64) (atI .i64) hr0_4 hc0_4 dn)))
 clear hr0_2 hc0_2 hr0_3 hc0_3 hr0_4 hc0_4
 have F:=S.fc
 have H:=h;clear h;unfold impl_AddEntry.f at H
 go_enter Try.func54,Try.ntmps54
 go_upto_region 1 with (first | ((with_reducible refine gd 2 rfl (L ?_));refine bo 2 (.agg #[_,_,_,_,_]) S ?_;clear S F;intro gb1579 W S;have F:=S.fc) | ((with_reducible refine gd 4 rfl (L ?_));refine al 4 S zi31 ?_;clear S F;intro gb1580 W S;have F:=S.fc) | ((with_reducible refine gs (t:=31) rfl (L ?_));(first | refine sb (.agg #[_,_,_,_,_]) S sz31 ?_ | refine ro (.agg #[_,_,_,_,_]) S sz31 ?_ (ho:=rfl) (hx:=rfl) (hy:=rfl));(clear S F;intro W S;have F:=S.fc)) | ((with_reducible refine gs (t:=50) rfl (L ?_));(first | refine sb (.agg #[_,_,_]) S sz50 ?_ | refine ro (.agg #[_,_,_]) S sz50 ?_ (ho:=rfl) (hx:=rfl) (hy:=rfl));(clear S F;intro W S;have F:=S.fc)))
 go_cut [26] (fun v26 wc=>∃ (kq:Nat) (x26_2:Bool),v26 = .bool x26_2∧impl_AddEntry.j0 kq a1 x26_2 a0_0 a0_1 l0_2 l0_3 l0_4 = some (r1,r2,r3,r4,r5,r6)∧kq ≤ k∧St w w (fun _=>False) [bor at88 A0_2 c0_2 l0_2,bor (atI .i64) A0_3 c0_3 l0_3,bor (atI .i64) A0_4 c0_4 l0_4] wc  [box gb1580 31 [.int .i64 0,.int .i64 0,.slice none 0 0,.slice none 0 0,.slice none 0 0],box gb1579 31 [.int .i64 a0_0,.int .i64 a0_1,.slice A0_2 l0_2.length c0_2,.slice A0_3 l0_3.length c0_3,.slice A0_4 l0_4.length c0_4]])
 case first =>
  replace H:=Option.bind_eq_some_iff.mp H;obtain ⟨t1581,A6,H⟩:=H;(try dsimp only at H)
  replace H:=sp_ H;rcases H with ⟨c7,H⟩ | ⟨c7,H⟩
  · skip
    subst c7
    replace H:=sp_ H;rcases H with ⟨c8,H⟩ | ⟨c8,H⟩
    · skip
      go_wp2_with (first | ((with_reducible refine gate_callee (f:=75) rfl (L ?_));refine cl (some 9) Try.func75 (impl_isPlayed.calls _ _ _ _ _ _ _ _ _ _ _ _ _ _ S.c S.n S.c S.n S.c S.n A6) (hargs:=by (simp only [ma_,mb_,mc_,F] <;> rfl)) (h:=?_);rintro e W ⟨rfl,hb⟩;refine ⟨_,rfl,?_⟩;replace S:=S.go hb;clear F hb;have F:=S.fc) | ((with_reducible refine gs (t:=31) rfl (L ?_));(first | refine sb (.agg #[_,_,_,_,_]) S sz31 ?_ | refine ro (.agg #[_,_,_,_,_]) S sz31 ?_ (ho:=rfl) (hx:=rfl) (hy:=rfl));(clear S F;intro W S;have F:=S.fc)) | ((with_reducible refine gs (t:=50) rfl (L ?_));(first | refine sb (.agg #[_,_,_]) S sz50 ?_ | refine ro (.agg #[_,_,_]) S sz50 ?_ (ho:=rfl) (hx:=rfl) (hy:=rfl));(clear S F;intro W S;have F:=S.fc)))
      go_meet
      case rel=>exact ⟨_,true,(by first | rfl | (simp;done) | (simp [*];done) | (rw [w6_ (by omega) (by omega)])),H,(by first | omega | exact Nat.le_refl _),S⟩
    · skip
      replace H:=sp_ H;rcases H with ⟨c12,H⟩ | ⟨c12,H⟩
      · skip
        go_wp2_with (first | ((with_reducible refine gate_callee (f:=75) rfl (L ?_));refine cl (some 9) Try.func75 (impl_isPlayed.calls _ _ _ _ _ _ _ _ _ _ _ _ _ _ S.c S.n S.c S.n S.c S.n A6) (hargs:=by (simp only [ma_,mb_,mc_,F] <;> rfl)) (h:=?_);rintro e W ⟨rfl,hb⟩;refine ⟨_,rfl,?_⟩;replace S:=S.go hb;clear F hb;have F:=S.fc) | ((with_reducible refine gs (t:=31) rfl (L ?_));(first | refine sb (.agg #[_,_,_,_,_]) S sz31 ?_ | refine ro (.agg #[_,_,_,_,_]) S sz31 ?_ (ho:=rfl) (hx:=rfl) (hy:=rfl));(clear S F;intro W S;have F:=S.fc)) | ((with_reducible refine gs (t:=50) rfl (L ?_));(first | refine sb (.agg #[_,_,_]) S sz50 ?_ | refine ro (.agg #[_,_,_]) S sz50 ?_ (ho:=rfl) (hx:=rfl) (hy:=rfl));(clear S F;intro W S;have F:=S.fc)))
        go_meet
        case rel=>exact ⟨_,true,(by first | rfl | (simp;done) | (simp [*];done) | (rw [w6_ (by omega) (by omega)])),H,(by first | omega | exact Nat.le_refl _),S⟩
      · skip
        go_wp2_with (first | ((with_reducible refine gate_callee (f:=75) rfl (L ?_));refine cl (some 9) Try.func75 (impl_isPlayed.calls _ _ _ _ _ _ _ _ _ _ _ _ _ _ S.c S.n S.c S.n S.c S.n A6) (hargs:=by (simp only [ma_,mb_,mc_,F] <;> rfl)) (h:=?_);rintro e W ⟨rfl,hb⟩;refine ⟨_,rfl,?_⟩;replace S:=S.go hb;clear F hb;have F:=S.fc) | ((with_reducible refine gs (t:=31) rfl (L ?_));(first | refine sb (.agg #[_,_,_,_,_]) S sz31 ?_ | refine ro (.agg #[_,_,_,_,_]) S sz31 ?_ (ho:=rfl) (hx:=rfl) (hy:=rfl));(clear S F;intro W S;have F:=S.fc)) | ((with_reducible refine gs (t:=50) rfl (L ?_));(first | refine sb (.agg #[_,_,_]) S sz50 ?_ | refine ro (.agg #[_,_,_]) S sz50 ?_ (ho:=rfl) (hx:=rfl) (hy:=rfl));(clear S F;intro W S;have F:=S.fc)))
        go_meet
        case rel=>exact ⟨_,((l0_3.length:Int) == 8),(by first | rfl | (simp;done) | (simp [*];done) | (rw [w6_ (by omega) (by omega)])),H,(by first | omega | exact Nat.le_refl _),S⟩
  · skip
    replace c7:=cbf c7;subst c7
    go_wp2_with (first | ((with_reducible refine gate_callee (f:=75) rfl (L ?_));refine cl (some 9) Try.func75 (impl_isPlayed.calls _ _ _ _ _ _ _ _ _ _ _ _ _ _ S.c S.n S.c S.n S.c S.n A6) (hargs:=by (simp only [ma_,mb_,mc_,F] <;> rfl)) (h:=?_);rintro e W ⟨rfl,hb⟩;refine ⟨_,rfl,?_⟩;replace S:=S.go hb;clear F hb;have F:=S.fc) | ((with_reducible refine gs (t:=31) rfl (L ?_));(first | refine sb (.agg #[_,_,_,_,_]) S sz31 ?_ | refine ro (.agg #[_,_,_,_,_]) S sz31 ?_ (ho:=rfl) (hx:=rfl) (hy:=rfl));(clear S F;intro W S;have F:=S.fc)) | ((with_reducible refine gs (t:=50) rfl (L ?_));(first | refine sb (.agg #[_,_,_]) S sz50 ?_ | refine ro (.agg #[_,_,_]) S sz50 ?_ (ho:=rfl) (hx:=rfl) (hy:=rfl));(clear S F;intro W S;have F:=S.fc)))
    go_meet
    case rel=>exact ⟨_,true,(by first | rfl | (simp;done) | (simp [*];done) | (rw [w6_ (by omega) (by omega)])),H,(by first | omega | exact Nat.le_refl _),S⟩
 case rest =>
  clear H S F
  obtain ⟨kq,x26_2,rfl,HA,HJ2,S⟩:=hcut
  have F:=S.fc
  cases kq with
  | zero=>exact absurd HA (by simp [impl_AddEntry.j0])
  | succ kj2 =>
   have H:=HA;clear HA;simp only [impl_AddEntry.j0,F] at H
   replace H:=sp_ H;rcases H with ⟨c24,H⟩ | ⟨c24,H⟩
   · skip
     subst c24
     simp only [Option.some.injEq,Prod.mk.injEq] at H
     obtain ⟨rfl,rfl,rfl,rfl,rfl,rfl⟩:=H
     go_wp2_with (first | ((with_reducible refine gs (t:=31) rfl (L ?_));(first | refine sb (.agg #[_,_,_,_,_]) S sz31 ?_ | refine ro (.agg #[_,_,_,_,_]) S sz31 ?_ (ho:=rfl) (hx:=rfl) (hy:=rfl));(clear S F;intro W S;have F:=S.fc)) | ((with_reducible refine gs (t:=50) rfl (L ?_));(first | refine sb (.agg #[_,_,_]) S sz50 ?_ | refine ro (.agg #[_,_,_]) S sz50 ?_ (ho:=rfl) (hx:=rfl) (hy:=rfl));(clear S F;intro W S;have F:=S.fc)))
     refine bodyPost_ret (results_ct rfl _ _ gb1580 31 #[.int .i64 0,.int .i64 0,.slice none 0 0,.slice none 0 0,.slice none 0 0] (0,0) _ rfl S.hb Try.underlying31 rfl (by kernel_rfl)) rfl ?_
     exact ⟨_,_,_,(by first | rfl | (simp [e0_,e1_] <;> rfl) | (simp [*,e0_,e1_] <;> rfl)),(by first | exact S.r | exact Kd.R_nil _ _ _ _ _),(by first | exact S.rn | exact Kd.R_nil _ _ _ _ _),(by first | exact S.rn | exact Kd.R_nil _ _ _ _ _),S.below⟩
   · skip
     replace c24:=cbf c24;subst c24
     replace H:=Option.bind_eq_some_iff.mp H;obtain ⟨⟨t1582,t1583,t1584,t1587⟩,A27,H⟩:=H;(try dsimp only at H)
     replace H:=sp_ H;rcases H with ⟨c28,H⟩ | ⟨c28,H⟩
     · skip
       subst c28
       replace H:=Option.bind_eq_some_iff.mp H;obtain ⟨⟨t1589,t1590,t1591,t1594,t1597⟩,A29,H⟩:=H;(try dsimp only at H)
       simp only [Option.some.injEq,Prod.mk.injEq] at H
       obtain ⟨rfl,rfl,rfl,rfl,rfl,rfl⟩:=H
       go_wp2_with (first | ((with_reducible refine gate_callee (f:=64) rfl (L ?_));refine cl (some 30) Try.func64 (impl_smallestOf.calls _ _ _ _ _ _ _ _ _ _ _ _ _ _ _ _ _ S.c S.n S.c S.n S.c S.n A27) (hargs:=by (simp only [ma_,mb_,mc_,F] <;> rfl)) (h:=?_);rintro e W ⟨v1585,rfl,ho0,hb⟩;refine ⟨_,rfl,?_⟩;replace S:=S.got at88 hb ho0;obtain ⟨At1584,ct1584,rfl,S⟩:=S;clear F hb ho0;have F:=S.fc) | ((with_reducible refine gd 6 rfl (L ?_));refine al 6 S zi50 ?_;clear S F;intro gb1588 W S;have F:=S.fc) | ((with_reducible refine gate_callee (f:=91) rfl (L ?_));refine cl (some 39) Try.func91 (impl_withEntry.calls _ _ _ _ _ _ _ _ _ _ _ _ _ _ _ _ _ _ _ _ _ _ _ _ S.c S.n S.c S.n S.c S.n S.c S.n A29) (hargs:=by (simp only [ma_,mb_,mc_,F] <;> rfl)) (h:=?_);rintro e W ⟨v1592,v1595,v1598,rfl,ho0,ho1,ho2,hb⟩;refine ⟨_,rfl,?_⟩;replace S:=S.got3i at88 (atI .i64) (atI .i64) hb ho0 ho1 ho2 (by decide);obtain ⟨At1591,ct1591,At1594,ct1594,At1597,ct1597,rfl,rfl,rfl,S⟩:=S;clear F hb ho0 ho1 ho2;have F:=S.fc) | ((with_reducible refine gs (t:=31) rfl (L ?_));(first | refine sb (.agg #[_,_,_,_,_]) S sz31 ?_ | refine ro (.agg #[_,_,_,_,_]) S sz31 ?_ (ho:=rfl) (hx:=rfl) (hy:=rfl));(clear S F;intro W S;have F:=S.fc)) | ((with_reducible refine gs (t:=50) rfl (L ?_));(first | refine sb (.agg #[_,_,_]) S sz50 ?_ | refine ro (.agg #[_,_,_]) S sz50 ?_ (ho:=rfl) (hx:=rfl) (hy:=rfl));(clear S F;intro W S;have F:=S.fc)))
       refine bodyPost_ret (results_ct rfl _ _ gb1580 31 #[.int .i64 t1589,.int .i64 t1590,.slice At1591 t1591.length ct1591,.slice At1594 t1594.length ct1594,.slice At1597 t1597.length ct1597] (0,0) _ rfl S.hb Try.underlying31 rfl (by kernel_rfl)) rfl ?_
       exact ⟨_,_,_,(by first | rfl | (simp [e0_,e1_] <;> rfl) | (simp [*,e0_,e1_] <;> rfl)),(by first | exact S.r | exact Kd.R_nil _ _ _ _ _),(by first | exact S.rn | exact Kd.R_nil _ _ _ _ _),(by first | exact S.rn | exact Kd.R_nil _ _ _ _ _),S.below⟩
     · skip
       replace c28:=cbf c28;subst c28
       simp only [Option.some.injEq,Prod.mk.injEq] at H
       obtain ⟨rfl,rfl,rfl,rfl,rfl,rfl⟩:=H
       go_wp2_with (first | ((with_reducible refine gate_callee (f:=64) rfl (L ?_));refine cl (some 30) Try.func64 (impl_smallestOf.calls _ _ _ _ _ _ _ _ _ _ _ _ _ _ _ _ _ S.c S.n S.c S.n S.c S.n A27) (hargs:=by (simp only [ma_,mb_,mc_,F] <;> rfl)) (h:=?_);rintro e W ⟨v1585,rfl,ho0,hb⟩;refine ⟨_,rfl,?_⟩;replace S:=S.got at88 hb ho0;obtain ⟨At1584,ct1584,rfl,S⟩:=S;clear F hb ho0;have F:=S.fc) | ((with_reducible refine gd 6 rfl (L ?_));refine al 6 S zi50 ?_;clear S F;intro gb1588 W S;have F:=S.fc) | ((with_reducible refine gs (t:=31) rfl (L ?_));(first | refine sb (.agg #[_,_,_,_,_]) S sz31 ?_ | refine ro (.agg #[_,_,_,_,_]) S sz31 ?_ (ho:=rfl) (hx:=rfl) (hy:=rfl));(clear S F;intro W S;have F:=S.fc)) | ((with_reducible refine gs (t:=50) rfl (L ?_));(first | refine sb (.agg #[_,_,_]) S sz50 ?_ | refine ro (.agg #[_,_,_]) S sz50 ?_ (ho:=rfl) (hx:=rfl) (hy:=rfl));(clear S F;intro W S;have F:=S.fc)))
       refine bodyPost_ret (results_ct rfl _ _ gb1580 31 #[.int .i64 0,.int .i64 0,.slice none 0 0,.slice none 0 0,.slice none 0 0] (0,0) _ rfl S.hb Try.underlying31 rfl (by kernel_rfl)) rfl ?_
       exact ⟨_,_,_,(by first | rfl | (simp [e0_,e1_] <;> rfl) | (simp [*,e0_,e1_] <;> rfl)),(by first | exact S.r | exact Kd.R_nil _ _ _ _ _),(by first | exact S.rn | exact Kd.R_nil _ _ _ _ _),(by first | exact S.rn | exact Kd.R_nil _ _ _ _ _),S.below⟩

/-! ### laws_heldChallenge: function 55 -/
def laws_heldChallenge.f (k:Nat) (a0_0:Int) (a0_1:Int) (l0_2:List (S88)) (l0_3:List Int) (l0_4:List Int) (a1:Int):Option (Int):=(laws_heldCellS.f k l0_2 a1).bind fun t1601=>(if t1601 < 0 then (some (-1)) else ((laws_heldIntS.f k l0_3 t1601).bind fun t1602=>(if t1602 < 0 then (some (-1)) else ((laws_heldIntS.f k l0_4 t1602).bind fun t1603=>(if t1603 < 0 then (some (-1)) else (some t1603))))))
theorem laws_heldChallenge.calls (k:Nat) (a0_0:Int) (a0_1:Int) (A0_2:Option Addr) (c0_2:Nat) (l0_2:List (S88)) (A0_3:Option Addr) (c0_3:Nat) (l0_3:List Int) (A0_4:Option Addr) (c0_4:Nat) (l0_4:List Int) (a1:Int) (r:Int) (w:World) (hr0_2:Kd.C k88 w A0_2 l0_2.length l0_2) (hc0_2:l0_2.length ≤ c0_2) (hr0_3:Kd.C (Kd.int .i64) w A0_3 l0_3.length l0_3) (hc0_3:l0_3.length ≤ c0_3) (hr0_4:Kd.C (Kd.int .i64) w A0_4 l0_4.length l0_4) (hc0_4:l0_4.length ≤ c0_4) (h:laws_heldChallenge.f k a0_0 a0_1 l0_2 l0_3 l0_4 a1 = some r) :
    Calls Try.prog 55 #[.agg #[.int .i64 a0_0,.int .i64 a0_1,.slice A0_2 l0_2.length c0_2,.slice A0_3 l0_3.length c0_3,.slice A0_4 l0_4.length c0_4],.int .i64 a1] w fun e w'=>e = .returned (.int .i64 r)∧Below w.heap.size w w':=by
 have S:=St.init (w:=w) (dc k88_heap at88 hr0_2 hc0_2 (dc (Kd.heap_int .i64) (atI .i64) hr0_3 hc0_3 (dc (Kd.heap_int .i64) (atI .i64) hr0_4 hc0_4 dn)))
 clear hr0_2 hc0_2 hr0_3 hc0_3 hr0_4 hc0_4
 have F:=S.fc
 have H:=h;clear h;unfold laws_heldChallenge.f at H
 replace H:=Option.bind_eq_some_iff.mp H;obtain ⟨t1601,A3,H⟩:=H;(try dsimp only at H)
 replace H:=sp_ H;rcases H with ⟨c4,H⟩ | ⟨c4,H⟩
 · skip
   obtain rfl:=Option.some.inj H
   go_enter Try.func55,Try.ntmps55
   go_wp2_with (first | ((with_reducible refine gd 2 rfl (L ?_));refine bo 2 (.agg #[_,_,_,_,_]) S ?_;clear S F;intro gb1600 W S;have F:=S.fc) | ((with_reducible refine gate_callee (f:=85) rfl (L ?_));refine cl (some 8) Try.func85 (laws_heldCellS.calls _ _ _ _ _ _ _ S.c S.n A3) (hargs:=by (simp only [ma_,mb_,mc_,F] <;> rfl)) (h:=?_);rintro e W ⟨rfl,hb⟩;refine ⟨_,rfl,?_⟩;replace S:=S.gw hb;clear F hb;have F:=S.fc))
   go_ret
   exact ⟨(by first | rfl | (simp [e0_,e1_] <;> rfl) | (simp [*,e0_,e1_] <;> rfl)),S.below⟩
 · skip
   replace H:=Option.bind_eq_some_iff.mp H;obtain ⟨t1602,A7,H⟩:=H;(try dsimp only at H)
   replace H:=sp_ H;rcases H with ⟨c8,H⟩ | ⟨c8,H⟩
   · skip
     obtain rfl:=Option.some.inj H
     go_enter Try.func55,Try.ntmps55
     go_wp2_with (first | ((with_reducible refine gd 2 rfl (L ?_));refine bo 2 (.agg #[_,_,_,_,_]) S ?_;clear S F;intro gb1600 W S;have F:=S.fc) | ((with_reducible refine gate_callee (f:=85) rfl (L ?_));refine cl (some 8) Try.func85 (laws_heldCellS.calls _ _ _ _ _ _ _ S.c S.n A3) (hargs:=by (simp only [ma_,mb_,mc_,F] <;> rfl)) (h:=?_);rintro e W ⟨rfl,hb⟩;refine ⟨_,rfl,?_⟩;replace S:=S.gw hb;clear F hb;have F:=S.fc) | ((with_reducible refine gate_callee (f:=24) rfl (L ?_));refine cl (some 14) Try.func24 (laws_heldIntS.calls _ _ _ _ _ _ _ S.c S.n A7) (hargs:=by (simp only [ma_,mb_,mc_,F] <;> rfl)) (h:=?_);rintro e W ⟨rfl,hb⟩;refine ⟨_,rfl,?_⟩;replace S:=S.gw hb;clear F hb;have F:=S.fc))
     go_ret
     exact ⟨(by first | rfl | (simp [e0_,e1_] <;> rfl) | (simp [*,e0_,e1_] <;> rfl)),S.below⟩
   · skip
     replace H:=Option.bind_eq_some_iff.mp H;obtain ⟨t1603,A11,H⟩:=H;(try dsimp only at H)
     replace H:=sp_ H;rcases H with ⟨c12,H⟩ | ⟨c12,H⟩
     · skip
       obtain rfl:=Option.some.inj H
       go_enter Try.func55,Try.ntmps55
       go_wp2_with (first | ((with_reducible refine gd 2 rfl (L ?_));refine bo 2 (.agg #[_,_,_,_,_]) S ?_;clear S F;intro gb1600 W S;have F:=S.fc) | ((with_reducible refine gate_callee (f:=85) rfl (L ?_));refine cl (some 8) Try.func85 (laws_heldCellS.calls _ _ _ _ _ _ _ S.c S.n A3) (hargs:=by (simp only [ma_,mb_,mc_,F] <;> rfl)) (h:=?_);rintro e W ⟨rfl,hb⟩;refine ⟨_,rfl,?_⟩;replace S:=S.gw hb;clear F hb;have F:=S.fc) | ((with_reducible refine gate_callee (f:=24) rfl (L ?_));refine cl (some 14) Try.func24 (laws_heldIntS.calls _ _ _ _ _ _ _ S.c S.n A7) (hargs:=by (simp only [ma_,mb_,mc_,F] <;> rfl)) (h:=?_);rintro e W ⟨rfl,hb⟩;refine ⟨_,rfl,?_⟩;replace S:=S.gw hb;clear F hb;have F:=S.fc) | ((with_reducible refine gate_callee (f:=24) rfl (L ?_));refine cl (some 20) Try.func24 (laws_heldIntS.calls _ _ _ _ _ _ _ S.c S.n A11) (hargs:=by (simp only [ma_,mb_,mc_,F] <;> rfl)) (h:=?_);rintro e W ⟨rfl,hb⟩;refine ⟨_,rfl,?_⟩;replace S:=S.gw hb;clear F hb;have F:=S.fc))
       go_ret
       exact ⟨(by first | rfl | (simp [e0_,e1_] <;> rfl) | (simp [*,e0_,e1_] <;> rfl)),S.below⟩
     · skip
       obtain rfl:=Option.some.inj H
       go_enter Try.func55,Try.ntmps55
       go_wp2_with (first | ((with_reducible refine gd 2 rfl (L ?_));refine bo 2 (.agg #[_,_,_,_,_]) S ?_;clear S F;intro gb1600 W S;have F:=S.fc) | ((with_reducible refine gate_callee (f:=85) rfl (L ?_));refine cl (some 8) Try.func85 (laws_heldCellS.calls _ _ _ _ _ _ _ S.c S.n A3) (hargs:=by (simp only [ma_,mb_,mc_,F] <;> rfl)) (h:=?_);rintro e W ⟨rfl,hb⟩;refine ⟨_,rfl,?_⟩;replace S:=S.gw hb;clear F hb;have F:=S.fc) | ((with_reducible refine gate_callee (f:=24) rfl (L ?_));refine cl (some 14) Try.func24 (laws_heldIntS.calls _ _ _ _ _ _ _ S.c S.n A7) (hargs:=by (simp only [ma_,mb_,mc_,F] <;> rfl)) (h:=?_);rintro e W ⟨rfl,hb⟩;refine ⟨_,rfl,?_⟩;replace S:=S.gw hb;clear F hb;have F:=S.fc) | ((with_reducible refine gate_callee (f:=24) rfl (L ?_));refine cl (some 20) Try.func24 (laws_heldIntS.calls _ _ _ _ _ _ _ S.c S.n A11) (hargs:=by (simp only [ma_,mb_,mc_,F] <;> rfl)) (h:=?_);rintro e W ⟨rfl,hb⟩;refine ⟨_,rfl,?_⟩;replace S:=S.gw hb;clear F hb;have F:=S.fc))
       go_ret
       exact ⟨(by first | rfl | (simp [e0_,e1_] <;> rfl) | (simp [*,e0_,e1_] <;> rfl)),S.below⟩

/-! ### laws_FnExactAddEntry: function 12 -/
mutual
def laws_FnExactAddEntry.j0:Nat→Int→Bool→Bool→Bool→Int→Int→List (S106)→List Int→List Int→Int→Int→List (S88)→List Int→List Int→Int→Int→List (S88)→List Int→List Int→Int→Int→List (S88)→List Int→List Int→Option (Bool)
  | 0,_,_,_,_,_,_,_,_,_,_,_,_,_,_,_,_,_,_,_,_,_,_,_,_=>none
  | k + 1,x1,x7,x10,x44,x1605000,x1605001,x1605002,x1605003,x1605004,x1630000,x1630001,x1630002,x1630003,x1630004,x1642000,x1642001,x1642002,x1642003,x1642004,x1655000,x1655001,x1655002,x1655003,x1655004=>if x44 = true then (some false) else ((laws_toChallenge.f k x1605000 x1605001 x1605002 x1605003 x1605004).bind fun bt1656=>((laws_eqChallenge.f k x1642000 x1642001 x1642002 x1642003 x1642004 bt1656.1 bt1656.2.1 bt1656.2.2.1 bt1656.2.2.2.1 bt1656.2.2.2.2).bind fun t1667=>(if t1667 = true then ((laws_markChallenge.f k x1642000 x1642001 x1642002 x1642003 x1642004 1).bind fun bt1668=>(if bt1668.1 < 0 then (laws_FnExactAddEntry.j1 k x1 x7 true x1605000 x1605001 x1605002 x1605003 x1605004 x1630000 x1630001 x1630002 x1630003 x1630004 x1655000 x1655001 x1655002 x1655003 x1655004) else ((laws_eqChallenge.f k x1655000 x1655001 x1655002 x1655003 x1655004 x1630000 x1630001 x1630002 x1630003 x1630004).bind fun t1672=>(if t1672 = true then (laws_FnExactAddEntry.j1 k x1 x7 (x10 != x7) x1605000 x1605001 x1605002 x1605003 x1605004 x1630000 x1630001 x1630002 x1630003 x1630004 x1655000 x1655001 x1655002 x1655003 x1655004) else (laws_FnExactAddEntry.j1 k x1 x7 true x1605000 x1605001 x1605002 x1605003 x1605004 x1630000 x1630001 x1630002 x1630003 x1630004 x1655000 x1655001 x1655002 x1655003 x1655004))))) else (some false))))
def laws_FnExactAddEntry.j1:Nat→Int→Bool→Bool→Int→Int→List (S106)→List Int→List Int→Int→Int→List (S88)→List Int→List Int→Int→Int→List (S88)→List Int→List Int→Option (Bool)
  | 0,_,_,_,_,_,_,_,_,_,_,_,_,_,_,_,_,_,_=>none
  | k + 1,x1,x7,x65,x1605000,x1605001,x1605002,x1605003,x1605004,x1630000,x1630001,x1630002,x1630003,x1630004,x1655000,x1655001,x1655002,x1655003,x1655004=>if x65 = true then (some false) else ((laws_markChallenge.f k x1655000 x1655001 x1655002 x1655003 x1655004 1).bind fun bt1673=>((laws_heldChallenge.f k x1655000 x1655001 bt1673.2.1 bt1673.2.2.1 bt1673.2.2.2 1).bind fun t1677=>(if t1677 < 0 then (some false) else (if t1677 = bt1673.1 then ((laws_toChallenge.f k x1605000 x1605001 x1605002 x1605003 x1605004).bind fun bt1678=>((impl_AddEntry.f k bt1678.1 bt1678.2.1 bt1678.2.2.1 bt1678.2.2.2.1 bt1678.2.2.2.2 x1).bind fun bt1689=>((laws_eqChallenge.f k bt1689.1 bt1689.2.1 bt1689.2.2.1 bt1689.2.2.2.1 bt1689.2.2.2.2.1 x1630000 x1630001 x1630002 x1630003 x1630004).bind fun t1702=>(if t1702 = true then (laws_FnExactAddEntry.j2 k bt1673.1 (bt1689.2.2.2.2.2 != x7) x1655000 x1655001 bt1673.2.1 bt1673.2.2.1 bt1673.2.2.2) else (laws_FnExactAddEntry.j2 k bt1673.1 true x1655000 x1655001 bt1673.2.1 bt1673.2.2.1 bt1673.2.2.2))))) else (some false)))))
def laws_FnExactAddEntry.j2:Nat→Int→Bool→Int→Int→List (S88)→List Int→List Int→Option (Bool)
  | 0,_,_,_,_,_,_,_=>none
  | k + 1,x12,x92,x1655000,x1655001,x1655002,x1655003,x1655004=>if x92 = true then (some false) else ((laws_heldChallenge.f k x1655000 x1655001 x1655002 x1655003 x1655004 1).bind fun t1703=>(if t1703 < 0 then (some false) else (if t1703 = x12 then (some true) else (some false))))
end
def laws_FnExactAddEntry.f (k:Nat) (a0_0:Int) (a0_1:Int) (l0_2:List (S106)) (l0_3:List Int) (l0_4:List Int) (a1:Int):Option (Bool):=(laws_szChallenge.f a0_0 a0_1 l0_2 l0_3 l0_4 1048576).bind fun t1605=>(if t1605 < 0 then (some true) else ((laws_toChallenge.f k a0_0 a0_1 l0_2 l0_3 l0_4).bind fun bt1606=>((spec_AddEntry.f k bt1606.1 bt1606.2.1 bt1606.2.2.1 bt1606.2.2.2.1 bt1606.2.2.2.2 a1).bind fun bt1617=>((laws_toChallenge.f k a0_0 a0_1 l0_2 l0_3 l0_4).bind fun bt1630=>((impl_AddEntry.f k bt1630.1 bt1630.2.1 bt1630.2.2.1 bt1630.2.2.2.1 bt1630.2.2.2.2 a1).bind fun bt1642=>((laws_eqChallenge.f k bt1642.1 bt1642.2.1 bt1642.2.2.1 bt1642.2.2.2.1 bt1642.2.2.2.2.1 bt1617.1 bt1617.2.1 bt1617.2.2.1 bt1617.2.2.2.1 bt1617.2.2.2.2.1).bind fun t1655=>(if t1655 = true then (laws_FnExactAddEntry.j0 k a1 bt1617.2.2.2.2.2 bt1642.2.2.2.2.2 (bt1642.2.2.2.2.2 != bt1617.2.2.2.2.2) a0_0 a0_1 l0_2 l0_3 l0_4 bt1617.1 bt1617.2.1 bt1617.2.2.1 bt1617.2.2.2.1 bt1617.2.2.2.2.1 bt1630.1 bt1630.2.1 bt1630.2.2.1 bt1630.2.2.2.1 bt1630.2.2.2.2 bt1642.1 bt1642.2.1 bt1642.2.2.1 bt1642.2.2.2.1 bt1642.2.2.2.2.1) else (laws_FnExactAddEntry.j0 k a1 bt1617.2.2.2.2.2 bt1642.2.2.2.2.2 true a0_0 a0_1 l0_2 l0_3 l0_4 bt1617.1 bt1617.2.1 bt1617.2.2.1 bt1617.2.2.2.1 bt1617.2.2.2.2.1 bt1630.1 bt1630.2.1 bt1630.2.2.1 bt1630.2.2.2.1 bt1630.2.2.2.2 bt1642.1 bt1642.2.1 bt1642.2.2.1 bt1642.2.2.2.1 bt1642.2.2.2.2.1))))))))
theorem laws_FnExactAddEntry.calls (k:Nat) (a0_0:Int) (a0_1:Int) (A0_2:Option Addr) (c0_2:Nat) (l0_2:List (S106)) (A0_3:Option Addr) (c0_3:Nat) (l0_3:List Int) (A0_4:Option Addr) (c0_4:Nat) (l0_4:List Int) (a1:Int) (r:Bool) (w:World) (hr0_2:Kd.C k106 w A0_2 l0_2.length l0_2) (hc0_2:l0_2.length ≤ c0_2) (hr0_3:Kd.C (Kd.int .i64) w A0_3 l0_3.length l0_3) (hc0_3:l0_3.length ≤ c0_3) (hr0_4:Kd.C (Kd.int .i64) w A0_4 l0_4.length l0_4) (hc0_4:l0_4.length ≤ c0_4) (hrt:r = true) (h:laws_FnExactAddEntry.f k a0_0 a0_1 l0_2 l0_3 l0_4 a1 = some r) :
    Calls Try.prog 12 #[.agg #[.int .i64 a0_0,.int .i64 a0_1,.slice A0_2 l0_2.length c0_2,.slice A0_3 l0_3.length c0_3,.slice A0_4 l0_4.length c0_4],.int .i64 a1] w fun e w'=>e = .returned (.bool r)∧Below w.heap.size w w':=by
 have S:=St.init (w:=w) (dc k106_heap at106 hr0_2 hc0_2 (dc (Kd.heap_int .i64) (atI .i64) hr0_3 hc0_3 (dc (Kd.heap_int .i64) (atI .i64) hr0_4 hc0_4 dn)))
 have HRT:=Aside0.mk hrt;clear hrt
 clear hr0_2 hc0_2 hr0_3 hc0_3 hr0_4 hc0_4
 have F:=S.fc
 have H:=h;clear h;unfold laws_FnExactAddEntry.f at H
 replace H:=Option.bind_eq_some_iff.mp H;obtain ⟨t1605,A3,H⟩:=H;(try dsimp only at H)
 replace H:=sp_ H;rcases H with ⟨c4,H⟩ | ⟨c4,H⟩
 · skip
   obtain rfl:=Option.some.inj H
   go_enter Try.func12,Try.ntmps12
   go_wp2_with (first | ((with_reducible refine gd 2 rfl (L ?_));refine bo 2 (.agg #[_,_,_,_,_]) S ?_;clear S F;intro gb1604 W S;have F:=S.fc) | ((with_reducible refine gate_callee (f:=14) rfl (L ?_));refine cl (some 18) Try.func14 (laws_szChallenge.calls _ _ _ _ _ _ _ _ _ _ _ _ _ _ S.c S.n S.c S.n S.c S.n A3) (hargs:=by (simp only [ma_,mb_,mc_,F] <;> rfl)) (h:=?_);rintro e W ⟨rfl,hb⟩;refine ⟨_,rfl,?_⟩;replace S:=S.go hb;clear F hb;have F:=S.fc) | ((with_reducible refine gs (t:=31) rfl (L ?_));(first | refine sb (.agg #[_,_,_,_,_]) S sz31 ?_ | refine ro (.agg #[_,_,_,_,_]) S sz31 ?_ (ho:=rfl) (hx:=rfl) (hy:=rfl));(clear S F;intro W S;have F:=S.fc)))
   go_ret
   exact ⟨(by first | rfl | (simp [e0_,e1_] <;> rfl) | (simp [*,e0_,e1_] <;> rfl)),S.below⟩
 · skip
   replace H:=Option.bind_eq_some_iff.mp H;obtain ⟨⟨t1606,t1607,t1608,t1611,t1614⟩,A8,H⟩:=H;(try dsimp only at H)
   replace H:=Option.bind_eq_some_iff.mp H;obtain ⟨⟨t1617,t1618,t1619,t1622,t1625,t1628⟩,A9,H⟩:=H;(try dsimp only at H)
   replace H:=Option.bind_eq_some_iff.mp H;obtain ⟨⟨t1630,t1631,t1632,t1635,t1638⟩,A10,H⟩:=H;(try dsimp only at H)
   replace H:=Option.bind_eq_some_iff.mp H;obtain ⟨⟨t1642,t1643,t1644,t1647,t1650,t1653⟩,A11,H⟩:=H;(try dsimp only at H)
   go_enter Try.func12,Try.ntmps12
   go_upto_region 8 with (first | ((with_reducible refine gd 2 rfl (L ?_));refine bo 2 (.agg #[_,_,_,_,_]) S ?_;clear S F;intro gb1604 W S;have F:=S.fc) | ((with_reducible refine gate_callee (f:=14) rfl (L ?_));refine cl (some 18) Try.func14 (laws_szChallenge.calls _ _ _ _ _ _ _ _ _ _ _ _ _ _ S.c S.n S.c S.n S.c S.n A3) (hargs:=by (simp only [ma_,mb_,mc_,F] <;> rfl)) (h:=?_);rintro e W ⟨rfl,hb⟩;refine ⟨_,rfl,?_⟩;replace S:=S.go hb;clear F hb;have F:=S.fc) | ((with_reducible refine gate_callee (f:=16) rfl (L ?_));refine cl (some 23) Try.func16 (laws_toChallenge.calls _ _ _ _ _ _ _ _ _ _ _ _ _ _ _ _ _ _ S.c S.n S.c S.n S.c S.n A8) (hargs:=by (simp only [ma_,mb_,mc_,F] <;> rfl)) (h:=?_);rintro e W ⟨v1609,v1612,v1615,rfl,ho0,ho1,ho2,hb⟩;refine ⟨_,rfl,?_⟩;replace S:=S.got3i at88 (atI .i64) (atI .i64) hb ho0 ho1 ho2 (by decide);obtain ⟨At1608,ct1608,At1611,ct1611,At1614,ct1614,rfl,rfl,rfl,S⟩:=S;clear F hb ho0 ho1 ho2;have F:=S.fc) | ((with_reducible refine gate_callee (f:=53) rfl (L ?_));refine cl (some 25) Try.func53 (spec_AddEntry.calls _ _ _ _ _ _ _ _ _ _ _ _ _ _ _ _ _ _ _ _ S.c S.n S.c S.n S.c S.n A9) (hargs:=by (simp only [ma_,mb_,mc_,F] <;> rfl)) (h:=?_);rintro e W ⟨v1620,v1623,v1626,rfl,ho0,ho1,ho2,hb⟩;refine ⟨_,rfl,?_⟩;replace S:=S.got3i at88 (atI .i64) (atI .i64) hb ho0 ho1 ho2 (by decide);obtain ⟨At1619,ct1619,At1622,ct1622,At1625,ct1625,rfl,rfl,rfl,S⟩:=S;clear F hb ho0 ho1 ho2;have F:=S.fc) | ((with_reducible refine gd 6 rfl (L ?_));refine al 6 S zi31 ?_;clear S F;intro gb1629 W S;have F:=S.fc) | ((with_reducible refine gate_callee (f:=16) rfl (L ?_));refine cl (some 29) Try.func16 (laws_toChallenge.calls _ _ _ _ _ _ _ _ _ _ _ _ _ _ _ _ _ _ S.c S.n S.c S.n S.c S.n A10) (hargs:=by (simp only [ma_,mb_,mc_,F] <;> rfl)) (h:=?_);rintro e W ⟨v1633,v1636,v1639,rfl,ho0,ho1,ho2,hb⟩;refine ⟨_,rfl,?_⟩;replace S:=S.got3i at88 (atI .i64) (atI .i64) hb ho0 ho1 ho2 (by decide);obtain ⟨At1632,ct1632,At1635,ct1635,At1638,ct1638,rfl,rfl,rfl,S⟩:=S;clear F hb ho0 ho1 ho2;have F:=S.fc) | ((with_reducible refine gd 8 rfl (L ?_));refine al 8 S zi31 ?_;clear S F;intro gb1641 W S;have F:=S.fc) | ((with_reducible refine gate_callee (f:=54) rfl (L ?_));refine cl (some 33) Try.func54 (impl_AddEntry.calls _ _ _ _ _ _ _ _ _ _ _ _ _ _ _ _ _ _ _ _ S.c S.n S.c S.n S.c S.n A11) (hargs:=by (simp only [ma_,mb_,mc_,F] <;> rfl)) (h:=?_);rintro e W ⟨v1645,v1648,v1651,rfl,ho0,ho1,ho2,hb⟩;refine ⟨_,rfl,?_⟩;replace S:=S.got3i at88 (atI .i64) (atI .i64) hb ho0 ho1 ho2 (by decide);obtain ⟨At1644,ct1644,At1647,ct1647,At1650,ct1650,rfl,rfl,rfl,S⟩:=S;clear F hb ho0 ho1 ho2;have F:=S.fc) | ((with_reducible refine gd 9 rfl (L ?_));refine al 9 S zi31 ?_;clear S F;intro gb1654 W S;have F:=S.fc) | ((with_reducible refine gs (t:=31) rfl (L ?_));(first | refine sb (.agg #[_,_,_,_,_]) S sz31 ?_ | refine ro (.agg #[_,_,_,_,_]) S sz31 ?_ (ho:=rfl) (hx:=rfl) (hy:=rfl));(clear S F;intro W S;have F:=S.fc)))
   go_cut [44] (fun v44 wc=>∃ (kq:Nat) (x44_11:Bool),v44 = .bool x44_11∧laws_FnExactAddEntry.j0 kq a1 t1628 t1653 x44_11 a0_0 a0_1 l0_2 l0_3 l0_4 t1617 t1618 t1619 t1622 t1625 t1630 t1631 t1632 t1635 t1638 t1642 t1643 t1644 t1647 t1650 = some r∧kq ≤ k∧St w w (fun _=>False) [bor at106 A0_2 c0_2 l0_2,bor (atI .i64) A0_3 c0_3 l0_3,bor (atI .i64) A0_4 c0_4 l0_4] wc  [box gb1654 31 [.int .i64 t1642,.int .i64 t1643,.slice At1644 t1644.length ct1644,.slice At1647 t1647.length ct1647,.slice At1650 t1650.length ct1650],row (atI .i64) 3 At1650 t1650.length ct1650 t1650,row (atI .i64) 3 At1647 t1647.length ct1647 t1647,row at88 88 At1644 t1644.length ct1644 t1644,box gb1641 31 [.int .i64 t1630,.int .i64 t1631,.slice At1632 t1632.length ct1632,.slice At1635 t1635.length ct1635,.slice At1638 t1638.length ct1638],row (atI .i64) 3 At1638 t1638.length ct1638 t1638,row (atI .i64) 3 At1635 t1635.length ct1635 t1635,row at88 88 At1632 t1632.length ct1632 t1632,box gb1629 31 [.int .i64 t1617,.int .i64 t1618,.slice At1619 t1619.length ct1619,.slice At1622 t1622.length ct1622,.slice At1625 t1625.length ct1625],row (atI .i64) 3 At1625 t1625.length ct1625 t1625,row (atI .i64) 3 At1622 t1622.length ct1622 t1622,row at88 88 At1619 t1619.length ct1619 t1619,box gb1604 25 [.int .i64 a0_0,.int .i64 a0_1,.slice A0_2 l0_2.length c0_2,.slice A0_3 l0_3.length c0_3,.slice A0_4 l0_4.length c0_4]])
   case first =>
    replace H:=Option.bind_eq_some_iff.mp H;obtain ⟨t1655,A46,H⟩:=H;(try dsimp only at H)
    replace H:=sp_ H;rcases H with ⟨c47,H⟩ | ⟨c47,H⟩
    · skip
      subst c47
      go_wp2_with (first | ((with_reducible refine gate_callee (f:=18) rfl (L ?_));refine cl (some 38) Try.func18 (laws_eqChallenge.calls _ _ _ _ _ _ _ _ _ _ _ _ _ _ _ _ _ _ _ _ _ _ _ _ _ S.c S.n S.c S.n S.c S.n S.c S.n S.c S.n S.c S.n A46) (hargs:=by (simp only [ma_,mb_,mc_,F] <;> rfl)) (h:=?_);rintro e W ⟨rfl,hb⟩;refine ⟨_,rfl,?_⟩;replace S:=S.go hb;clear F hb;have F:=S.fc) | ((with_reducible refine gs (t:=31) rfl (L ?_));(first | refine sb (.agg #[_,_,_,_,_]) S sz31 ?_ | refine ro (.agg #[_,_,_,_,_]) S sz31 ?_ (ho:=rfl) (hx:=rfl) (hy:=rfl));(clear S F;intro W S;have F:=S.fc)))
      go_meet
      case rel=>exact ⟨_,(t1653 != t1628),(by first | rfl | (simp;done) | (simp [*];done) | (rw [w6_ (by omega) (by omega)])),H,(by first | omega | exact Nat.le_refl _),(S.ms [1,1,1,1,1,1,1,1,1,1,1,1,0,0,0])⟩
    · skip
      replace c47:=cbf c47;subst c47
      go_wp2_with (first | ((with_reducible refine gate_callee (f:=18) rfl (L ?_));refine cl (some 38) Try.func18 (laws_eqChallenge.calls _ _ _ _ _ _ _ _ _ _ _ _ _ _ _ _ _ _ _ _ _ _ _ _ _ S.c S.n S.c S.n S.c S.n S.c S.n S.c S.n S.c S.n A46) (hargs:=by (simp only [ma_,mb_,mc_,F] <;> rfl)) (h:=?_);rintro e W ⟨rfl,hb⟩;refine ⟨_,rfl,?_⟩;replace S:=S.go hb;clear F hb;have F:=S.fc) | ((with_reducible refine gs (t:=31) rfl (L ?_));(first | refine sb (.agg #[_,_,_,_,_]) S sz31 ?_ | refine ro (.agg #[_,_,_,_,_]) S sz31 ?_ (ho:=rfl) (hx:=rfl) (hy:=rfl));(clear S F;intro W S;have F:=S.fc)))
      go_meet
      case rel=>exact ⟨_,true,(by first | rfl | (simp;done) | (simp [*];done) | (rw [w6_ (by omega) (by omega)])),H,(by first | omega | exact Nat.le_refl _),(S.ms [1,1,1,1,1,1,1,1,1,1,1,1,0,0,0])⟩
   case rest =>
    clear H S F
    obtain ⟨kq,x44_11,rfl,HA,HJ11,S⟩:=hcut
    have F:=S.fc
    cases kq with
    | zero=>exact absurd HA (by simp [laws_FnExactAddEntry.j0])
    | succ kj11 =>
     have H:=HA;clear HA;simp only [laws_FnExactAddEntry.j0,F] at H
     replace H:=sp_ H;rcases H with ⟨c64,H⟩ | ⟨c64,H⟩
     · skip
       subst c64
       exact absurd (H.trans (congrArg some HRT.out)) (by simp)
     · skip
       replace c64:=cbf c64;subst c64
       replace H:=Option.bind_eq_some_iff.mp H;obtain ⟨⟨t1656,t1657,t1658,t1661,t1664⟩,A65,H⟩:=H;(try dsimp only at H)
       replace H:=Option.bind_eq_some_iff.mp H;obtain ⟨t1667,A66,H⟩:=H;(try dsimp only at H)
       replace H:=sp_ H;rcases H with ⟨c67,H⟩ | ⟨c67,H⟩
       · skip
         subst c67
         replace H:=Option.bind_eq_some_iff.mp H;obtain ⟨⟨t1668,t1669,t1670,t1671⟩,A68,H⟩:=H;(try dsimp only at H)
         go_wp2_with (first | ((with_reducible refine gs (t:=31) rfl (L ?_));(first | refine sb (.agg #[_,_,_,_,_]) S sz31 ?_ | refine ro (.agg #[_,_,_,_,_]) S sz31 ?_ (ho:=rfl) (hx:=rfl) (hy:=rfl));(clear S F;intro W S;have F:=S.fc)))
         refine rq S [(1,0),(1,1),(2,2),(2,3),(0,4)] [] (h:=?_);clear S F;intro W S;have S0:=S;have F:=S.fc
         repeat (first | (refine q0 (h:=?_)) | (refine q1 S0 (h:=?_)) | (refine q0n (h:=?_)) | (refine q1n S0 (h:=?_)))
         refine lk2 (by rfl) (by exact (Eq.refl true)) ?_;refine cl (some 47) Try.func16 (laws_toChallenge.calls _ _ _ _ _ _ _ _ _ _ _ _ _ _ _ _ _ _ S.c S.n S.c S.n S.c S.n A65) (hargs:=by (simp only [ma_,mb_,mc_,F] <;> rfl)) (h:=?_);rintro e W ⟨v1659,v1662,v1665,rfl,ho0,ho1,ho2,hb⟩;refine ⟨_,rfl,?_⟩;replace S:=S.got3i at88 (atI .i64) (atI .i64) hb ho0 ho1 ho2 (by decide);obtain ⟨At1658,ct1658,At1661,ct1661,At1664,ct1664,rfl,rfl,rfl,S⟩:=S;clear F hb ho0 ho1 ho2;have F:=S.fc
         clear S0;have S0:=S.tl.tl.tl;refine ⟨S0,?_⟩
         refine lk2 (by rfl) (by exact (Eq.refl true)) ?_;refine cl (some 48) Try.func18 (laws_eqChallenge.calls _ _ _ _ _ _ _ _ _ _ _ _ _ _ _ _ _ _ _ _ _ _ _ _ _ S.c S.n S.c S.n S.c S.n S.c S.n S.c S.n S.c S.n A66) (hargs:=by (simp only [ma_,mb_,mc_,F] <;> rfl)) (h:=?_);rintro e W ⟨rfl,hb⟩;refine ⟨_,rfl,?_⟩;replace S:=S.go hb;clear F hb;have F:=S.fc
         clear S0;have S0:=S.tl.tl.tl;refine ⟨S0,?_⟩
         repeat (first | (refine q0 (h:=?_)) | (refine q1 S0 (h:=?_)) | (refine q0n (h:=?_)) | (refine q1n S0 (h:=?_)))
         refine oz ?_
         try clear S0
         go_upto_region 14 with (first | ((with_reducible refine gate_callee (f:=22) rfl (L ?_));obtain ⟨o1_,o2_,o3_,k_⟩:=S.lend3 At1632 At1635 At1638;refine cl (some 52) Try.func22 (laws_markChallenge.calls _ _ _ o1_ _ _ o2_ _ _ o3_ _ _ _ _ _ _ _ _ _ k_.below k_.r1 k_.r2 k_.hp k_.r3 k_.hq A68) (hargs:=by (simp only [ma_,mb_,mc_,F] <;> rfl)) (h:=?_);rintro e W ⟨rfl,h1_,h2_,h3_,hb,hk⟩;refine ⟨_,rfl,?_⟩;clear S F;have S:=k_.back h1_ h2_ h3_ hb hk;simp only [List.set_cons_zero,List.set_cons_succ] at S;clear k_ h1_ h2_ h3_ hb hk o1_ o2_ o3_;have F:=S.fc) | ((with_reducible refine gs (t:=31) rfl (L ?_));(first | refine sb (.agg #[_,_,_,_,_]) S sz31 ?_ | refine ro (.agg #[_,_,_,_,_]) S sz31 ?_ (ho:=rfl) (hx:=rfl) (hy:=rfl));(clear S F;intro W S;have F:=S.fc)))
         go_cut [65] (fun v65 wc=>∃ (kq:Nat) (x65_68:Bool),v65 = .bool x65_68∧laws_FnExactAddEntry.j1 kq a1 t1628 x65_68 a0_0 a0_1 l0_2 l0_3 l0_4 t1617 t1618 t1619 t1622 t1625 t1642 t1643 t1644 t1647 t1650 = some r∧kq ≤ kj11∧St w w (fun _=>False) [bor at106 A0_2 c0_2 l0_2,bor (atI .i64) A0_3 c0_3 l0_3,bor (atI .i64) A0_4 c0_4 l0_4] wc  [box gb1654 31 [.int .i64 t1642,.int .i64 t1643,.slice At1644 t1644.length ct1644,.slice At1647 t1647.length ct1647,.slice At1650 t1650.length ct1650],row (atI .i64) 3 At1650 t1650.length ct1650 t1650,row (atI .i64) 3 At1647 t1647.length ct1647 t1647,row at88 88 At1644 t1644.length ct1644 t1644,box gb1641 31 [.int .i64 t1630,.int .i64 t1631,.slice At1632 t1632.length ct1632,.slice At1635 t1635.length ct1635,.slice At1638 t1638.length ct1638],row (atI .i64) 3 At1638 t1638.length ct1638 t1671,row (atI .i64) 3 At1635 t1635.length ct1635 t1670,row at88 88 At1632 t1632.length ct1632 t1669,box gb1629 31 [.int .i64 t1617,.int .i64 t1618,.slice At1619 t1619.length ct1619,.slice At1622 t1622.length ct1622,.slice At1625 t1625.length ct1625],row (atI .i64) 3 At1625 t1625.length ct1625 t1625,row (atI .i64) 3 At1622 t1622.length ct1622 t1622,row at88 88 At1619 t1619.length ct1619 t1619,box gb1604 25 [.int .i64 a0_0,.int .i64 a0_1,.slice A0_2 l0_2.length c0_2,.slice A0_3 l0_3.length c0_3,.slice A0_4 l0_4.length c0_4]])
         case first =>
          replace H:=sp_ H;rcases H with ⟨c81,H⟩ | ⟨c81,H⟩
          · skip
            go_wp2_with (first | ((with_reducible refine gs (t:=31) rfl (L ?_));(first | refine sb (.agg #[_,_,_,_,_]) S sz31 ?_ | refine ro (.agg #[_,_,_,_,_]) S sz31 ?_ (ho:=rfl) (hx:=rfl) (hy:=rfl));(clear S F;intro W S;have F:=S.fc)))
            go_meet
            case rel=>exact ⟨_,true,(by first | rfl | (simp;done) | (simp [*];done) | (rw [w6_ (by omega) (by omega)])),H,(by first | omega | exact Nat.le_refl _),S.tl.tl.tl⟩
          · skip
            replace H:=Option.bind_eq_some_iff.mp H;obtain ⟨t1672,A82,H⟩:=H;(try dsimp only at H)
            replace H:=sp_ H;rcases H with ⟨c83,H⟩ | ⟨c83,H⟩
            · skip
              subst c83
              go_wp2_with (first | (go_at_call 18;(try simp only [F]);refine (laws_eqChallenge.calls _ _ _ _ _ _ _ _ _ _ _ _ _ _ _ _ _ _ _ _ _ _ _ _ _ S.c S.n S.c S.n S.c S.n S.c S.n S.c S.n S.c S.n A82).mono ?_;rintro e W ⟨rfl,hb⟩;replace S:=S.go hb;clear F hb;have F:=S.fc) | ((with_reducible refine gs (t:=31) rfl (L ?_));(first | refine sb (.agg #[_,_,_,_,_]) S sz31 ?_ | refine ro (.agg #[_,_,_,_,_]) S sz31 ?_ (ho:=rfl) (hx:=rfl) (hy:=rfl));(clear S F;intro W S;have F:=S.fc)))
              go_meet
              case rel=>exact ⟨_,(t1653 != t1628),(by first | rfl | (simp;done) | (simp [*];done) | (rw [w6_ (by omega) (by omega)])),H,(by first | omega | exact Nat.le_refl _),S.tl.tl.tl⟩
            · skip
              replace c83:=cbf c83;subst c83
              go_wp2_with (first | (go_at_call 18;(try simp only [F]);refine (laws_eqChallenge.calls _ _ _ _ _ _ _ _ _ _ _ _ _ _ _ _ _ _ _ _ _ _ _ _ _ S.c S.n S.c S.n S.c S.n S.c S.n S.c S.n S.c S.n A82).mono ?_;rintro e W ⟨rfl,hb⟩;replace S:=S.go hb;clear F hb;have F:=S.fc) | ((with_reducible refine gs (t:=31) rfl (L ?_));(first | refine sb (.agg #[_,_,_,_,_]) S sz31 ?_ | refine ro (.agg #[_,_,_,_,_]) S sz31 ?_ (ho:=rfl) (hx:=rfl) (hy:=rfl));(clear S F;intro W S;have F:=S.fc)))
              go_meet
              case rel=>exact ⟨_,true,(by first | rfl | (simp;done) | (simp [*];done) | (rw [w6_ (by omega) (by omega)])),H,(by first | omega | exact Nat.le_refl _),S.tl.tl.tl⟩
         case rest =>
          clear H S F
          obtain ⟨kq,x65_68,rfl,HA,HJ68,S⟩:=hcut
          have F:=S.fc
          cases kq with
          | zero=>exact absurd HA (by simp [laws_FnExactAddEntry.j1])
          | succ kj68 =>
           have H:=HA;clear HA;simp only [laws_FnExactAddEntry.j1,F] at H
           replace H:=sp_ H;rcases H with ⟨c100,H⟩ | ⟨c100,H⟩
           · skip
             subst c100
             exact absurd (H.trans (congrArg some HRT.out)) (by simp)
           · skip
             replace c100:=cbf c100;subst c100
             replace H:=Option.bind_eq_some_iff.mp H;obtain ⟨⟨t1673,t1674,t1675,t1676⟩,A101,H⟩:=H;(try dsimp only at H)
             replace H:=Option.bind_eq_some_iff.mp H;obtain ⟨t1677,A102,H⟩:=H;(try dsimp only at H)
             replace H:=sp_ H;rcases H with ⟨c103,H⟩ | ⟨c103,H⟩
             · skip
               exact absurd (H.trans (congrArg some HRT.out)) (by simp)
             · skip
               replace H:=sp_ H;rcases H with ⟨c104,H⟩ | ⟨c104,H⟩
               · skip
                 replace c104:=ceq c104
                 replace H:=Option.bind_eq_some_iff.mp H;obtain ⟨⟨t1678,t1679,t1680,t1683,t1686⟩,A105,H⟩:=H;(try dsimp only at H)
                 replace H:=Option.bind_eq_some_iff.mp H;obtain ⟨⟨t1689,t1690,t1691,t1694,t1697,t1700⟩,A106,H⟩:=H;(try dsimp only at H)
                 go_upto_region 25 with (first | ((with_reducible refine gate_callee (f:=22) rfl (L ?_));obtain ⟨o1_,o2_,o3_,k_⟩:=S.lend3 At1644 At1647 At1650;refine cl (some 68) Try.func22 (laws_markChallenge.calls _ _ _ o1_ _ _ o2_ _ _ o3_ _ _ _ _ _ _ _ _ _ k_.below k_.r1 k_.r2 k_.hp k_.r3 k_.hq A101) (hargs:=by (simp only [ma_,mb_,mc_,F] <;> rfl)) (h:=?_);rintro e W ⟨rfl,h1_,h2_,h3_,hb,hk⟩;refine ⟨_,rfl,?_⟩;clear S F;have S:=k_.back h1_ h2_ h3_ hb hk;simp only [List.set_cons_zero,List.set_cons_succ] at S;clear k_ h1_ h2_ h3_ hb hk o1_ o2_ o3_;have F:=S.fc) | ((with_reducible refine gate_callee (f:=55) rfl (L ?_));refine cl (some 71) Try.func55 (laws_heldChallenge.calls _ _ _ _ _ _ _ _ _ _ _ _ _ _ _ S.c S.n S.c S.n S.c S.n A102) (hargs:=by (simp only [ma_,mb_,mc_,F] <;> rfl)) (h:=?_);rintro e W ⟨rfl,hb⟩;refine ⟨_,rfl,?_⟩;replace S:=S.go hb;clear F hb;have F:=S.fc) | ((with_reducible refine gate_callee (f:=16) rfl (L ?_));refine cl (some 79) Try.func16 (laws_toChallenge.calls _ _ _ _ _ _ _ _ _ _ _ _ _ _ _ _ _ _ S.c S.n S.c S.n S.c S.n A105) (hargs:=by (simp only [ma_,mb_,mc_,F] <;> rfl)) (h:=?_);rintro e W ⟨v1681,v1684,v1687,rfl,ho0,ho1,ho2,hb⟩;refine ⟨_,rfl,?_⟩;replace S:=S.got3i at88 (atI .i64) (atI .i64) hb ho0 ho1 ho2 (by decide);obtain ⟨At1680,ct1680,At1683,ct1683,At1686,ct1686,rfl,rfl,rfl,S⟩:=S;clear F hb ho0 ho1 ho2;have F:=S.fc) | ((with_reducible refine gate_callee (f:=54) rfl (L ?_));refine cl (some 81) Try.func54 (impl_AddEntry.calls _ _ _ _ _ _ _ _ _ _ _ _ _ _ _ _ _ _ _ _ S.c S.n S.c S.n S.c S.n A106) (hargs:=by (simp only [ma_,mb_,mc_,F] <;> rfl)) (h:=?_);rintro e W ⟨v1692,v1695,v1698,rfl,ho0,ho1,ho2,hb⟩;refine ⟨_,rfl,?_⟩;replace S:=S.got3i at88 (atI .i64) (atI .i64) hb ho0 ho1 ho2 (by decide);obtain ⟨At1691,ct1691,At1694,ct1694,At1697,ct1697,rfl,rfl,rfl,S⟩:=S;clear F hb ho0 ho1 ho2;have F:=S.fc) | ((with_reducible refine gd 14 rfl (L ?_));refine al 14 S zi31 ?_;clear S F;intro gb1701 W S;have F:=S.fc) | ((with_reducible refine gs (t:=31) rfl (L ?_));(first | refine sb (.agg #[_,_,_,_,_]) S sz31 ?_ | refine ro (.agg #[_,_,_,_,_]) S sz31 ?_ (ho:=rfl) (hx:=rfl) (hy:=rfl));(clear S F;intro W S;have F:=S.fc)))
                 go_cut [92] (fun v92 wc=>∃ (kq:Nat) (x92_106:Bool),v92 = .bool x92_106∧laws_FnExactAddEntry.j2 kq t1673 x92_106 t1642 t1643 t1674 t1675 t1676 = some r∧kq ≤ kj68∧St w w (fun _=>False) [bor at106 A0_2 c0_2 l0_2,bor (atI .i64) A0_3 c0_3 l0_3,bor (atI .i64) A0_4 c0_4 l0_4] wc  [box gb1701 31 [.int .i64 t1689,.int .i64 t1690,.slice At1691 t1691.length ct1691,.slice At1694 t1694.length ct1694,.slice At1697 t1697.length ct1697],row (atI .i64) 3 At1697 t1697.length ct1697 t1697,row (atI .i64) 3 At1694 t1694.length ct1694 t1694,row at88 88 At1691 t1691.length ct1691 t1691,box gb1654 31 [.int .i64 t1642,.int .i64 t1643,.slice At1644 t1644.length ct1644,.slice At1647 t1647.length ct1647,.slice At1650 t1650.length ct1650],row (atI .i64) 3 At1650 t1650.length ct1650 t1676,row (atI .i64) 3 At1647 t1647.length ct1647 t1675,row at88 88 At1644 t1644.length ct1644 t1674,box gb1641 31 [.int .i64 t1630,.int .i64 t1631,.slice At1632 t1669.length ct1632,.slice At1635 t1670.length ct1635,.slice At1638 t1671.length ct1638],row (atI .i64) 3 At1638 t1671.length ct1638 t1671,row (atI .i64) 3 At1635 t1670.length ct1635 t1670,row at88 88 At1632 t1669.length ct1632 t1669,box gb1629 31 [.int .i64 t1617,.int .i64 t1618,.slice At1619 t1619.length ct1619,.slice At1622 t1622.length ct1622,.slice At1625 t1625.length ct1625],row (atI .i64) 3 At1625 t1625.length ct1625 t1625,row (atI .i64) 3 At1622 t1622.length ct1622 t1622,row at88 88 At1619 t1619.length ct1619 t1619,box gb1604 25 [.int .i64 a0_0,.int .i64 a0_1,.slice A0_2 l0_2.length c0_2,.slice A0_3 l0_3.length c0_3,.slice A0_4 l0_4.length c0_4]])
                 case first =>
                  replace H:=Option.bind_eq_some_iff.mp H;obtain ⟨t1702,A132,H⟩:=H;(try dsimp only at H)
                  replace H:=sp_ H;rcases H with ⟨c133,H⟩ | ⟨c133,H⟩
                  · skip
                    subst c133
                    go_wp2_with (first | ((with_reducible refine gate_callee (f:=18) rfl (L ?_));refine cl (some 86) Try.func18 (laws_eqChallenge.calls _ _ _ _ _ _ _ _ _ _ _ _ _ _ _ _ _ _ _ _ _ _ _ _ _ S.c S.n S.c S.n S.c S.n S.c S.n S.c S.n S.c S.n A132) (hargs:=by (simp only [ma_,mb_,mc_,F] <;> rfl)) (h:=?_);rintro e W ⟨rfl,hb⟩;refine ⟨_,rfl,?_⟩;replace S:=S.go hb;clear F hb;have F:=S.fc) | ((with_reducible refine gs (t:=31) rfl (L ?_));(first | refine sb (.agg #[_,_,_,_,_]) S sz31 ?_ | refine ro (.agg #[_,_,_,_,_]) S sz31 ?_ (ho:=rfl) (hx:=rfl) (hy:=rfl));(clear S F;intro W S;have F:=S.fc)))
                    go_meet
                    case rel=>(try rw [← (show t1671.length = t1638.length by simp only [F])] at S);(try rw [← (show t1670.length = t1635.length by simp only [F])] at S);(try rw [← (show t1669.length = t1632.length by simp only [F])] at S);exact ⟨_,(t1700 != t1628),(by first | rfl | (simp;done) | (simp [*];done) | (rw [w6_ (by omega) (by omega)])),H,(by first | omega | exact Nat.le_refl _),(S.ms [1,1,1,1,0,0,0])⟩
                  · skip
                    replace c133:=cbf c133;subst c133
                    go_wp2_with (first | ((with_reducible refine gate_callee (f:=18) rfl (L ?_));refine cl (some 86) Try.func18 (laws_eqChallenge.calls _ _ _ _ _ _ _ _ _ _ _ _ _ _ _ _ _ _ _ _ _ _ _ _ _ S.c S.n S.c S.n S.c S.n S.c S.n S.c S.n S.c S.n A132) (hargs:=by (simp only [ma_,mb_,mc_,F] <;> rfl)) (h:=?_);rintro e W ⟨rfl,hb⟩;refine ⟨_,rfl,?_⟩;replace S:=S.go hb;clear F hb;have F:=S.fc) | ((with_reducible refine gs (t:=31) rfl (L ?_));(first | refine sb (.agg #[_,_,_,_,_]) S sz31 ?_ | refine ro (.agg #[_,_,_,_,_]) S sz31 ?_ (ho:=rfl) (hx:=rfl) (hy:=rfl));(clear S F;intro W S;have F:=S.fc)))
                    go_meet
                    case rel=>(try rw [← (show t1671.length = t1638.length by simp only [F])] at S);(try rw [← (show t1670.length = t1635.length by simp only [F])] at S);(try rw [← (show t1669.length = t1632.length by simp only [F])] at S);exact ⟨_,true,(by first | rfl | (simp;done) | (simp [*];done) | (rw [w6_ (by omega) (by omega)])),H,(by first | omega | exact Nat.le_refl _),(S.ms [1,1,1,1,0,0,0])⟩
                 case rest =>
                  clear H S F
                  obtain ⟨kq,x92_106,rfl,HA,HJ106,S⟩:=hcut
                  have F:=S.fc
                  cases kq with
                  | zero=>exact absurd HA (by simp [laws_FnExactAddEntry.j2])
                  | succ kj106 =>
                   have H:=HA;clear HA;simp only [laws_FnExactAddEntry.j2,F] at H
                   replace H:=sp_ H;rcases H with ⟨c154,H⟩ | ⟨c154,H⟩
                   · skip
                     subst c154
                     exact absurd (H.trans (congrArg some HRT.out)) (by simp)
                   · skip
                     replace c154:=cbf c154;subst c154
                     replace H:=Option.bind_eq_some_iff.mp H;obtain ⟨t1703,A155,H⟩:=H;(try dsimp only at H)
                     replace H:=sp_ H;rcases H with ⟨c156,H⟩ | ⟨c156,H⟩
                     · skip
                       exact absurd (H.trans (congrArg some HRT.out)) (by simp)
                     · skip
                       replace H:=sp_ H;rcases H with ⟨c157,H⟩ | ⟨c157,H⟩
                       · skip
                         replace c157:=ceq c157
                         obtain rfl:=Option.some.inj H
                         go_wp2_with (first | ((with_reducible refine gate_callee (f:=55) rfl (L ?_));refine cl (some 95) Try.func55 (laws_heldChallenge.calls _ _ _ _ _ _ _ _ _ _ _ _ _ _ _ S.c S.n S.c S.n S.c S.n A155) (hargs:=by (simp only [ma_,mb_,mc_,F] <;> rfl)) (h:=?_);rintro e W ⟨rfl,hb⟩;refine ⟨_,rfl,?_⟩;replace S:=S.go hb;clear F hb;have F:=S.fc) | ((with_reducible refine gs (t:=31) rfl (L ?_));(first | refine sb (.agg #[_,_,_,_,_]) S sz31 ?_ | refine ro (.agg #[_,_,_,_,_]) S sz31 ?_ (ho:=rfl) (hx:=rfl) (hy:=rfl));(clear S F;intro W S;have F:=S.fc)))
                         go_ret
                         exact ⟨(by first | rfl | (simp [e0_,e1_] <;> rfl) | (simp [*,e0_,e1_] <;> rfl)),S.below⟩
                       · skip
                         replace c157:=cne c157
                         exact absurd (H.trans (congrArg some HRT.out)) (by simp)
               · skip
                 replace c104:=cne c104
                 exact absurd (H.trans (congrArg some HRT.out)) (by simp)
       · skip
         replace c67:=cbf c67;subst c67
         exact absurd (H.trans (congrArg some HRT.out)) (by simp)
end Go.Proofs.Ytipaimgpmgbkiaa.F
