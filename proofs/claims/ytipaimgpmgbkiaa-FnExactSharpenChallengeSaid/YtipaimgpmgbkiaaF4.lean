-- Printed by a program; checked here.
import Derived.Test.YtipaimgpmgbkiaaF0
import Derived.Test.YtipaimgpmgbkiaaF1
import Derived.Test.YtipaimgpmgbkiaaF3
namespace Go.Proofs.Ytipaimgpmgbkiaa.F
open Go.RowKit Go.Proofs.YtipaimgpmgbkiaaV.PrintWords Go.Proofs.YtipaimgpmgbkiaaV.PrintLast Go.Proofs.YtipaimgpmgbkiaaV.PrintMore Go.Proofs.YtipaimgpmgbkiaaV.Sl Go.Proofs.YtipaimgpmgbkiaaV.Rf
attribute [local go_sem] max2_int min2_int max_two min_two max_three min_three max_four min_four ia_opt it_opt
attribute [local go_sem] Try.underlying23 Try.underlying25 Try.underlying29 Try.underlying31 Try.underlying42 Try.underlying50 Try.underlying85 Try.underlying88 Try.underlying89 Try.underlying106 Try.underlying122 Try.underlying127
set_option maxHeartbeats 8000000
set_option maxRecDepth 100000
set_option linter.unusedVariables false
set_option linter.unusedSimpArgs false

attribute [local go_sem high] eqA88
/-! ### impl_boardOf: function 107 -/
def impl_boardOf.l0:Nat→Int→Int→Int→Int→List (S88)→List Int→List Int→Int→Int→List (S88)→Option (Int × Int × (List (S88)))
  | 0,_,_,_,_,_,_,_,_,_,_=>none
  | k + 1,x1,x6,x362000,x362001,x362002,x362003,x362004,x367000,x367001,x367002=>if x6 ≥ 0 then (if (wrap64 ((x362002.length:Int) + 1)) = 0 then (none) else (if (Int.tmod x1 (wrap64 ((x362002.length:Int) + 1))) > 0 then (if 0 ≤ (wrap64 ((Int.tmod x1 (wrap64 ((x362002.length:Int) + 1))) - 1)) then (if (wrap64 ((Int.tmod x1 (wrap64 ((x362002.length:Int) + 1))) - 1)) < (x362002.length:Int) then (if 0 ≤ x6 then (if x6 < (x367002.length:Int) then (impl_boardOf.l0 k (wrap64 (Int.tdiv x1 (wrap64 ((x362002.length:Int) + 1)))) (wrap64 (x6 - 1)) x362000 x362001 x362002 x362003 x362004 x367000 x367001 (x367002.set (x6:Int).toNat (⟨(rd_T88 x362002 (wrap64 ((Int.tmod x1 (wrap64 ((x362002.length:Int) + 1))) - 1))).f0,(rd_T88 x362002 (wrap64 ((Int.tmod x1 (wrap64 ((x362002.length:Int) + 1))) - 1))).f1⟩:S88))) else (none)) else (none)) else (none)) else (none)) else (impl_boardOf.l0 k (wrap64 (Int.tdiv x1 (wrap64 ((x362002.length:Int) + 1)))) (wrap64 (x6 - 1)) x362000 x362001 x362002 x362003 x362004 x367000 x367001 x367002))) else (some (x367000,x367001,x367002))
def impl_boardOf.f (k:Nat) (a0_0:Int) (a0_1:Int) (l0_2:List (S88)) (l0_3:List Int) (l0_4:List Int) (a1:Int):Option (Int × Int × (List (S88))):=if 0 ≤ (wrap64 (a0_0 * a0_1)) then (if (wrap64 (a0_0 * a0_1):Int).toNat ≤ 17592186044416 then ((some (List.replicate (wrap64 (a0_0 * a0_1):Int).toNat z88:List (S88))).bind fun y363=>(impl_boardOf.l0 k a1 (wrap64 ((y363.length:Int) - 1)) a0_0 a0_1 l0_2 l0_3 l0_4 a0_0 a0_1 y363)) else (none)) else (none)
theorem impl_boardOf.calls (k:Nat) (a0_0:Int) (a0_1:Int) (A0_2:Option Addr) (c0_2:Nat) (l0_2:List (S88)) (A0_3:Option Addr) (c0_3:Nat) (l0_3:List Int) (A0_4:Option Addr) (c0_4:Nat) (l0_4:List Int) (a1:Int) (r1:Int) (r2:Int) (r3:List (S88)) (w:World) (hr0_2:Kd.C k88 w A0_2 l0_2.length l0_2) (hc0_2:l0_2.length ≤ c0_2) (hr0_3:Kd.C (Kd.int .i64) w A0_3 l0_3.length l0_3) (hc0_3:l0_3.length ≤ c0_3) (hr0_4:Kd.C (Kd.int .i64) w A0_4 l0_4.length l0_4) (hc0_4:l0_4.length ≤ c0_4) (h:impl_boardOf.f k a0_0 a0_1 l0_2 l0_3 l0_4 a1 = some (r1,r2,r3)) :
    Calls Try.prog 107 #[.agg #[.int .i64 a0_0,.int .i64 a0_1,.slice A0_2 l0_2.length c0_2,.slice A0_3 l0_3.length c0_3,.slice A0_4 l0_4.length c0_4],.int .i64 a1] w fun e w'=>∃ v2_:Value,e = .returned (.agg #[.int .i64 r1,.int .i64 r2,v2_])∧Kd.R k88 88 w' w.heap.size (fun _=>True) v2_ r3∧Below w.heap.size w w':=by
 have S:=St.init (w:=w) (dc k88_heap at88 hr0_2 hc0_2 (dc (Kd.heap_int .i64) (atI .i64) hr0_3 hc0_3 (dc (Kd.heap_int .i64) (atI .i64) hr0_4 hc0_4 dn)))
 clear hr0_2 hc0_2 hr0_3 hc0_3 hr0_4 hc0_4
 have F:=S.fc
 have H:=h;clear h;unfold impl_boardOf.f at H
 obtain ⟨ji3,hji3⟩:∃ j_:Int,(wrap64 (a0_0 * a0_1)) = j_:=⟨_,rfl⟩;simp only [hji3] at H
 have hji3w:(IntKind.i64.wrap (a0_0 * a0_1)) = ji3:=(i64_w _).trans hji3
 replace H:=np_ H;obtain ⟨c4,H⟩:=H
 replace H:=np_ H;obtain ⟨c5,H⟩:=H
 (first | (with_reducible replace H:=ob_ H;obtain ⟨y363,hy363,H⟩:=H;(try dsimp only at H)) | (obtain ⟨y363,hy363⟩:∃ y_:List (S88),y_ = (List.replicate (ji3:Int).toNat z88):=⟨_,rfl⟩;(try rw [← hy363] at H);(try simp only [Option.bind_some] at H)));have Ny363:=Aside0.mk hy363;clear hy363
 go_enter Try.func107,Try.ntmps107
 go_wp2_with (first | ((with_reducible refine gd 2 rfl (L ?_));refine bo 2 (.agg #[_,_,_,_,_]) S ?_;clear S F;intro gb361 W S;have F:=S.fc) | ((with_reducible refine gd 4 rfl (L ?_));refine al 4 S zi50 ?_;clear S F;intro gb362 W S;have F:=S.fc) | ((with_reducible refine gs (t:=50) rfl (L ?_));(first | refine sb (.agg #[_,_,_]) S sz50 ?_ | refine ro (.agg #[_,_,_]) S sz50 ?_ (ho:=rfl) (hx:=rfl) (hy:=rfl));clear S F;intro W S;(try simp only [gd88] at S);(try rw [← Ny363.out] at S);have F:=S.fc) | ((with_reducible refine gs (t:=88) rfl (L ?_));(first | refine sb (.agg #[_,_]) S sz88 ?_ | refine ro (.agg #[_,_]) S sz88 ?_ (ho:=rfl) (hx:=rfl) (hy:=rfl));clear S F;intro W S;(try simp only [gd88] at S);(try rw [← Ny363.out] at S);have F:=S.fc))
 refine rgF S (fun _ S=>S) (fkc 11 5 zi50 fk0) [(0,0),(0,2),(0,4),(0,6),(1,1),(1,3),(1,5),(1,7),(0,8),(2,9),(0,10)] [(3,12)] [12] (id:=1) (h:=?_);clear S F;intro W S;have S0:=S;have F:=S.fc
 repeat (first | (refine f0 (h:=?_)) | (refine f1 S0 (h:=?_)) | (refine f0n (h:=?_)) | (refine f1n S0 (h:=?_)))
 refine fe2 S (by rfl) ?_;intro x5_ X W S;simp only [List.cons_append,List.nil_append,putF,Act.put,za_,zb_,zc_] at S ⊢;clear F;have F:=S.fc;refine ⟨rfl,?_⟩;refine mka 17 at88 S Try.underlying29 info88 ?_;clear S F;intro Ay363 cy363 W S;(try simp only [Int.reduceToNat] at S ⊢);(try rw [← Ny363.out] at S ⊢);have F:=S.fc
 clear S0;have S0:=(S.nx X).tl;refine ⟨S0,?_⟩
 repeat (first | (refine f0 (h:=?_)) | (refine f1 S0 (h:=?_)) | (refine f0n (h:=?_)) | (refine f1n S0 (h:=?_)))
 refine fz S ?_;intro gb366 W S;simp only [bxs,fbox,ptr,List.map_cons,List.map_nil,List.cons_append,List.nil_append,putF,Act.put,za_,zb_,zc_] at S ⊢;clear F S0;have S0:=S.tl.tl;have F:=S.fc
 refine lk3 (by rfl) (by exact (Eq.refl true)) ?_;(first | refine sb (.agg #[_,_,_]) S sz50 ?_ | refine ro (.agg #[_,_,_]) S sz50 ?_ (ho:=rfl) (hx:=rfl) (hy:=rfl) | refine sb (.agg #[_,_]) S sz88 ?_ | refine ro (.agg #[_,_]) S sz88 ?_ (ho:=rfl) (hx:=rfl) (hy:=rfl));clear S F;intro W S;(try simp only [gd88] at S);(try rw [← Ny363.out] at S);have F:=S.fc
 refine oz ?_
 try clear S0
 go_wp2_with (first | ((with_reducible refine gs (t:=50) rfl (L ?_));(first | refine sb (.agg #[_,_,_]) S sz50 ?_ | refine ro (.agg #[_,_,_]) S sz50 ?_ (ho:=rfl) (hx:=rfl) (hy:=rfl));clear S F;intro W S;(try simp only [gd88] at S);(try rw [← Ny363.out] at S);have F:=S.fc) | ((with_reducible refine gs (t:=88) rfl (L ?_));(first | refine sb (.agg #[_,_]) S sz88 ?_ | refine ro (.agg #[_,_]) S sz88 ?_ (ho:=rfl) (hx:=rfl) (hy:=rfl));clear S F;intro W S;(try simp only [gd88] at S);(try rw [← Ny363.out] at S);have F:=S.fc))
 go_loopg [1,6] k (fun kq v1 v6 w'=>∃ (x1_1:Int) (x6_1:Int) (x367002_1:List (S88)) (Ax367002_1:Option Addr) (cx367002_1:Nat),v1 = .int .i64 x1_1∧v6 = .int .i64 x6_1∧impl_boardOf.l0 kq x1_1 x6_1 a0_0 a0_1 l0_2 l0_3 l0_4 a0_0 a0_1 x367002_1 = some (r1,r2,r3)∧kq ≤ k∧St w w (fun _=>False) [bor at88 A0_2 c0_2 l0_2,bor (atI .i64) A0_3 c0_3 l0_3,bor (atI .i64) A0_4 c0_4 l0_4] w'  [box gb366 50 [.int .i64 a0_0,.int .i64 a0_1,.slice Ax367002_1 x367002_1.length cx367002_1],row at88 88 Ax367002_1 x367002_1.length cx367002_1 x367002_1,box gb362 50 [.int .i64 0,.int .i64 0,.slice none 0 0],box gb361 31 [.int .i64 a0_0,.int .i64 a0_1,.slice A0_2 l0_2.length c0_2,.slice A0_3 l0_3.length c0_3,.slice A0_4 l0_4.length c0_4]])
 case atStart=>exact ⟨a1,(wrap64 ((y363.length:Int) - 1)),y363,_,_,(by first | rfl | (simp;done) | (simp [*];done) | (rw [w6_ (by omega) (by omega)])),(by first | rfl | (simp;done) | (simp [*];done) | (rw [w6_ (by omega) (by omega)])),H,Nat.le_refl _,S⟩
 case round =>
  clear H S F
  obtain ⟨x1_1,x6_1,x367002_1,Ax367002_1,cx367002_1,rfl,rfl,HA,HK1,S⟩:=hrel
  have F:=S.fc
  cases gk with
  | zero=>exact absurd HA (by simp [impl_boardOf.l0])
  | succ k1 =>
   have H:=HA;clear HA;simp only [impl_boardOf.l0,F] at H
   replace H:=sp_ H;rcases H with ⟨c21,H⟩ | ⟨c21,H⟩
   · skip
     replace H:=nn_ H;obtain ⟨c22,H⟩:=H
     replace c22:=cne c22
     replace H:=sp_ H;rcases H with ⟨c23,H⟩ | ⟨c23,H⟩
     · skip
       obtain ⟨ji24,hji24⟩:∃ j_:Int,(wrap64 ((Int.tmod x1_1 (wrap64 ((l0_2.length:Int) + 1))) - 1)) = j_:=⟨_,rfl⟩;simp only [hji24] at H
       have hji24w:(IntKind.i64.wrap ((Int.tmod x1_1 (wrap64 ((l0_2.length:Int) + 1))) - 1)) = ji24:=(i64_w _).trans hji24
       replace H:=np_ H;obtain ⟨c25,H⟩:=H
       replace H:=np_ H;obtain ⟨c26,H⟩:=H
       replace H:=np_ H;obtain ⟨c27,H⟩:=H
       replace H:=np_ H;obtain ⟨c28,H⟩:=H
       (first | (with_reducible replace H:=ob_ H;obtain ⟨y368,hy368,H⟩:=H;(try dsimp only at H)) | (obtain ⟨y368,hy368⟩:∃ y_:List (S88),y_ = (x367002_1.set (x6_1:Int).toNat (⟨(rd_T88 l0_2 (ji24)).f0,(rd_T88 l0_2 (ji24)).f1⟩:S88)):=⟨_,rfl⟩;(try rw [← hy368] at H);(try simp only [Option.bind_some] at H)));have Ny368:=Aside0.mk hy368;clear hy368
       go_wp2_with (first | ((with_reducible refine gs (t:=50) rfl (L ?_));(first | refine sb (.agg #[_,_,_]) S sz50 ?_ | refine ro (.agg #[_,_,_]) S sz50 ?_ (ho:=rfl) (hx:=rfl) (hy:=rfl));clear S F;intro W S;(try simp only [gd88] at S);(try rw [← Ny363.out] at S);(try rw [← Ny368.out] at S);have F:=S.fc) | ((with_reducible refine gs (t:=88) rfl (L ?_));(first | refine sb (.agg #[_,_]) S sz88 ?_ | refine ro (.agg #[_,_]) S sz88 ?_ (ho:=rfl) (hx:=rfl) (hy:=rfl));clear S F;intro W S;(try simp only [gd88] at S);(try rw [← Ny363.out] at S);(try rw [← Ny368.out] at S);have F:=S.fc))
       refine rq S [(0,0),(0,2),(0,3),(0,5),(0,6),(1,1),(1,4),(0,7),(1,8),(0,9),(3,10)] [10] (h:=?_);clear S F;intro W S;have S0:=S;have F:=S.fc
       repeat (first | (refine q0 (h:=?_)) | (refine q1 S0 (h:=?_)) | (refine q0n (h:=?_)) | (refine q1n S0 (h:=?_)))
       refine lk3 (by rfl) (by exact (Eq.refl true)) ?_;(first | refine sb (.agg #[_,_,_]) S sz50 ?_ | refine ro (.agg #[_,_,_]) S sz50 ?_ (ho:=rfl) (hx:=rfl) (hy:=rfl) | refine sb (.agg #[_,_]) S sz88 ?_ | refine ro (.agg #[_,_]) S sz88 ?_ (ho:=rfl) (hx:=rfl) (hy:=rfl));clear S F;intro W S;(try simp only [gd88] at S);(try rw [← Ny363.out] at S);(try rw [← Ny368.out] at S);have F:=S.fc
       refine oz ?_
       try clear S0
       go_wp2_with (first | ((with_reducible refine gs (t:=50) rfl (L ?_));(first | refine sb (.agg #[_,_,_]) S sz50 ?_ | refine ro (.agg #[_,_,_]) S sz50 ?_ (ho:=rfl) (hx:=rfl) (hy:=rfl));clear S F;intro W S;(try simp only [gd88] at S);(try rw [← Ny363.out] at S);(try rw [← Ny368.out] at S);have F:=S.fc) | ((with_reducible refine gs (t:=88) rfl (L ?_));(first | refine sb (.agg #[_,_]) S sz88 ?_ | refine ro (.agg #[_,_]) S sz88 ?_ (ho:=rfl) (hx:=rfl) (hy:=rfl));clear S F;intro W S;(try simp only [gd88] at S);(try rw [← Ny363.out] at S);(try rw [← Ny368.out] at S);have F:=S.fc))
       go_roundg k1
       case measure=>omega
       case rel=>(try rw [← (show y368.length = x367002_1.length by first | simp only [F] | (have F_:=F;simp only [Ny368.out,List.length_set] at F_;simp only [F_]))] at S);exact ⟨(wrap64 (Int.tdiv x1_1 (wrap64 ((l0_2.length:Int) + 1)))),(wrap64 (x6_1 - 1)),y368,_,_,(by first | rfl | (simp;done) | (simp [*];done) | (rw [w6_ (by omega) (by omega)])),(by first | rfl | (simp;done) | (simp [*];done) | (rw [w6_ (by omega) (by omega)])),H,(by first | omega | exact Nat.le_refl _),S⟩
     · skip
       go_wp2_with (first | ((with_reducible refine gs (t:=50) rfl (L ?_));(first | refine sb (.agg #[_,_,_]) S sz50 ?_ | refine ro (.agg #[_,_,_]) S sz50 ?_ (ho:=rfl) (hx:=rfl) (hy:=rfl));clear S F;intro W S;(try simp only [gd88] at S);(try rw [← Ny363.out] at S);have F:=S.fc) | ((with_reducible refine gs (t:=88) rfl (L ?_));(first | refine sb (.agg #[_,_]) S sz88 ?_ | refine ro (.agg #[_,_]) S sz88 ?_ (ho:=rfl) (hx:=rfl) (hy:=rfl));clear S F;intro W S;(try simp only [gd88] at S);(try rw [← Ny363.out] at S);have F:=S.fc))
       go_roundg k1
       case measure=>omega
       case rel=>exact ⟨(wrap64 (Int.tdiv x1_1 (wrap64 ((l0_2.length:Int) + 1)))),(wrap64 (x6_1 - 1)),x367002_1,_,_,(by first | rfl | (simp;done) | (simp [*];done) | (rw [w6_ (by omega) (by omega)])),(by first | rfl | (simp;done) | (simp [*];done) | (rw [w6_ (by omega) (by omega)])),H,(by first | omega | exact Nat.le_refl _),S⟩
   · skip
     simp only [Option.some.injEq,Prod.mk.injEq] at H
     obtain ⟨rfl,rfl,rfl⟩:=H
     go_wp2_with (first | ((with_reducible refine gs (t:=50) rfl (L ?_));(first | refine sb (.agg #[_,_,_]) S sz50 ?_ | refine ro (.agg #[_,_,_]) S sz50 ?_ (ho:=rfl) (hx:=rfl) (hy:=rfl));clear S F;intro W S;(try simp only [gd88] at S);(try rw [← Ny363.out] at S);have F:=S.fc) | ((with_reducible refine gs (t:=88) rfl (L ?_));(first | refine sb (.agg #[_,_]) S sz88 ?_ | refine ro (.agg #[_,_]) S sz88 ?_ (ho:=rfl) (hx:=rfl) (hy:=rfl));clear S F;intro W S;(try simp only [gd88] at S);(try rw [← Ny363.out] at S);have F:=S.fc))
     refine bodyPost_ret (results_cell_row rfl _ _ gb362 50 #[.int .i64 a0_0,.int .i64 a0_1,.slice Ax367002_1 x367002_1.length cx367002_1] (0,0) _ rfl S.hb Try.underlying50 rfl (by kernel_rfl)) rfl ?_
     exact ⟨_,(by first | rfl | (simp [e0_,e1_] <;> rfl) | (simp [*,e0_,e1_] <;> rfl)),(by first | exact S.r | exact Kd.R_nil _ _ _ _ _),S.below⟩

/-! ### impl_copyBoard: function 117 -/
def impl_copyBoard.f (a0_0:Int) (a0_1:Int) (l0_2:List (S88)):Option (Int × Int × (List (S88))):=(some (([]:List (S88)):List (S88))).bind fun y371=>(if y371.length + l0_2.length < 8796093022208 then (some (a0_0,a0_1,(y371 ++ l0_2))) else (none))
theorem impl_copyBoard.calls (a0_0:Int) (a0_1:Int) (A0_2:Option Addr) (c0_2:Nat) (l0_2:List (S88)) (r1:Int) (r2:Int) (r3:List (S88)) (w:World) (hr0_2:Kd.C k88 w A0_2 l0_2.length l0_2) (hc0_2:l0_2.length ≤ c0_2) (h:impl_copyBoard.f a0_0 a0_1 l0_2 = some (r1,r2,r3)) :
    Calls Try.prog 117 #[.agg #[.int .i64 a0_0,.int .i64 a0_1,.slice A0_2 l0_2.length c0_2]] w fun e w'=>∃ v2_:Value,e = .returned (.agg #[.int .i64 r1,.int .i64 r2,v2_])∧Kd.R k88 88 w' w.heap.size (fun _=>True) v2_ r3∧Below w.heap.size w w':=by
 have S:=St.init (w:=w) (dc k88_heap at88 hr0_2 hc0_2 dn)
 clear hr0_2 hc0_2
 have F:=S.fc
 have H:=h;clear h;unfold impl_copyBoard.f at H
 (first | (with_reducible replace H:=ob_ H;obtain ⟨y371,hy371,H⟩:=H;(try dsimp only at H)) | (obtain ⟨y371,hy371⟩:∃ y_:List (S88),y_ = (([]:List (S88))):=⟨_,rfl⟩;(try rw [← hy371] at H);(try simp only [Option.bind_some] at H)));have Ny371:=Aside0.mk hy371;clear hy371
 replace H:=np_ H;obtain ⟨c2,H⟩:=H
 (first | (with_reducible replace H:=ob_ H;obtain ⟨y374,hy374,H⟩:=H;(try dsimp only at H)) | (obtain ⟨y374,hy374⟩:∃ y_:List (S88),y_ = (y371 ++ l0_2):=⟨_,rfl⟩;(try rw [← hy374] at H);(try simp only [Option.bind_some] at H)));have Ny374:=Aside0.mk hy374;clear hy374
 simp only [Option.some.injEq,Prod.mk.injEq] at H
 obtain ⟨rfl,rfl,rfl⟩:=H
 go_enter Try.func117,Try.ntmps117
 go_wp2_with (first | ((with_reducible refine gd 1 rfl (L ?_));refine bo 1 (.agg #[_,_,_]) S ?_;clear S F;intro gb369 W S;have F:=S.fc) | ((with_reducible refine gd 2 rfl (L ?_));refine al 2 S zi50 ?_;clear S F;intro gb370 W S;have F:=S.fc) | ((with_reducible refine gs (t:=50) rfl (L ?_));(first | refine sb (.agg #[_,_,_]) S sz50 ?_ | refine ro (.agg #[_,_,_]) S sz50 ?_ (ho:=rfl) (hx:=rfl) (hy:=rfl));clear S F;intro W S;(try rw [← Ny374.out] at S);have F:=S.fc))
 refine rgP S (fun _ S=>S.tl) [(0,0),(0,2),(0,5),(1,1),(1,3),(1,6),(2,4),(2,7),(0,8),(2,9)] [] (by kernel_rfl) (by kernel_rfl) (fun _ d _ _ _ h=>by cases d <;> exact h) ?_;clear S F;intro W S;have S0:=S.tl;have F:=S.fc
 repeat (first | (refine q0 (h:=?_)) | (refine q1 S0 (h:=?_)) | (refine q0n (h:=?_)) | (refine q1n S0 (h:=?_)))
 refine lk2 (by rfl) (by exact (Eq.refl true)) ?_;refine lia 7 at88 88 S ([]:List (S88)) (fun _ _=>(Reps.none _ _)) (by first | (go_simp;done) | (go_simp;rfl)) ?_;clear S F;intro Ay371 cy371 W S;(try rw [← Ny371.out] at S ⊢);(try rw [← Ny374.out] at S ⊢);have F:=S.fc
 clear S0;have S0:=S.tl.tl;refine ⟨S0,?_⟩
 refine lk2 (by rfl) (by exact (Eq.refl true)) ?_;refine apr (A:=Ay371) (ys:=l0_2) 10 S Try.underlying29 info88 S.c ?_ (ho:=rfl) (hs:=rfl) (hx:=rfl);clear S F;intro Ay374 cy374 W S;(try rw [← Ny374.out] at S ⊢);have F:=S.fc
 clear S0;have S0:=S.tl.tl;refine ⟨S0,?_⟩
 repeat (first | (refine q0 (h:=?_)) | (refine q1 S0 (h:=?_)) | (refine q0n (h:=?_)) | (refine q1n S0 (h:=?_)))
 refine lk2 (by rfl) (by exact (Eq.refl true)) ?_;(first | refine sb (.agg #[_,_,_]) S sz50 ?_ | refine ro (.agg #[_,_,_]) S sz50 ?_ (ho:=rfl) (hx:=rfl) (hy:=rfl));clear S F;intro W S;(try rw [← Ny374.out] at S);have F:=S.fc
 clear S0;have S0:=S.tl.tl;refine ⟨S0,?_⟩
 refine oz ?_
 try clear S0
 go_wp2_with (first | ((with_reducible refine gs (t:=50) rfl (L ?_));(first | refine sb (.agg #[_,_,_]) S sz50 ?_ | refine ro (.agg #[_,_,_]) S sz50 ?_ (ho:=rfl) (hx:=rfl) (hy:=rfl));clear S F;intro W S;(try rw [← Ny374.out] at S);have F:=S.fc))
 refine bodyPost_ret (results_cell_row rfl _ _ gb370 50 #[.int .i64 a0_0,.int .i64 a0_1,.slice Ay374 y374.length cy374] (0,0) _ rfl S.hb Try.underlying50 rfl (by kernel_rfl)) rfl ?_
 exact ⟨_,(by first | rfl | (simp [e0_,e1_] <;> rfl) | (simp [*,e0_,e1_] <;> rfl)),(by first | exact S.r | exact Kd.R_nil _ _ _ _ _),S.below⟩

/-! ### impl_endNumber: function 121 -/
def impl_endNumber.f (a0_0:Int) (a0_1:Int) (l0_2:List (S88)) (a1_0:Int) (a1_1:Int) (a1_2:Int):Option (Int):=if a1_0 = 1 then (some a1_2) else (if a1_0 = 2 then (some a0_1) else (some (wrap64 (a0_1 + 1))))
theorem impl_endNumber.calls (a0_0:Int) (a0_1:Int) (A0_2:Option Addr) (c0_2:Nat) (l0_2:List (S88)) (a1_0:Int) (a1_1:Int) (a1_2:Int) (r:Int) (w:World) (hr0_2:Kd.C k88 w A0_2 l0_2.length l0_2) (hc0_2:l0_2.length ≤ c0_2) (h:impl_endNumber.f a0_0 a0_1 l0_2 a1_0 a1_1 a1_2 = some r) :
    Calls Try.prog 121 #[.agg #[.int .i64 a0_0,.int .i64 a0_1,.slice A0_2 l0_2.length c0_2],.agg #[.int .i64 a1_0,.int .i64 a1_1,.int .i64 a1_2]] w fun e w'=>e = .returned (.int .i64 r)∧Below w.heap.size w w':=by
 have S:=St.init (w:=w) (dc k88_heap at88 hr0_2 hc0_2 dn)
 clear hr0_2 hc0_2
 have F:=S.fc
 have H:=h;clear h;unfold impl_endNumber.f at H
 replace H:=sp_ H;rcases H with ⟨c3,H⟩ | ⟨c3,H⟩
 · skip
   replace c3:=ceq c3
   obtain rfl:=Option.some.inj H
   go_enter Try.func121,Try.ntmps121
   go_wp2_with (first | ((with_reducible refine gd 2 rfl (L ?_));refine bo 2 (.agg #[_,_,_]) S ?_;clear S F;intro gb377 W S;have F:=S.fc) | ((with_reducible refine gd 3 rfl (L ?_));refine bo 3 (.agg #[_,_,_]) S ?_;clear S F;intro gb378 W S;have F:=S.fc))
   go_ret
   exact ⟨(by first | rfl | (simp [e0_,e1_] <;> rfl) | (simp [*,e0_,e1_] <;> rfl)),S.below⟩
 · skip
   replace c3:=cne c3
   replace H:=sp_ H;rcases H with ⟨c8,H⟩ | ⟨c8,H⟩
   · skip
     replace c8:=ceq c8
     obtain rfl:=Option.some.inj H
     go_enter Try.func121,Try.ntmps121
     go_wp2_with (first | ((with_reducible refine gd 2 rfl (L ?_));refine bo 2 (.agg #[_,_,_]) S ?_;clear S F;intro gb377 W S;have F:=S.fc) | ((with_reducible refine gd 3 rfl (L ?_));refine bo 3 (.agg #[_,_,_]) S ?_;clear S F;intro gb378 W S;have F:=S.fc))
     go_ret
     exact ⟨(by first | rfl | (simp [e0_,e1_] <;> rfl) | (simp [*,e0_,e1_] <;> rfl)),S.below⟩
   · skip
     replace c8:=cne c8
     obtain rfl:=Option.some.inj H
     go_enter Try.func121,Try.ntmps121
     go_wp2_with (first | ((with_reducible refine gd 2 rfl (L ?_));refine bo 2 (.agg #[_,_,_]) S ?_;clear S F;intro gb377 W S;have F:=S.fc) | ((with_reducible refine gd 3 rfl (L ?_));refine bo 3 (.agg #[_,_,_]) S ?_;clear S F;intro gb378 W S;have F:=S.fc))
     go_ret
     exact ⟨(by first | rfl | (simp [e0_,e1_] <;> rfl) | (simp [*,e0_,e1_] <;> rfl)),S.below⟩

/-! ### impl_isGeared: function 137 -/
def impl_isGeared.f (a0_0:Int) (a0_1:Int):Option (Bool):=if a0_0 = 6 then (some true) else (some (a0_0 == 7))
theorem impl_isGeared.calls (a0_0:Int) (a0_1:Int) (r:Bool) (w:World) (h:impl_isGeared.f a0_0 a0_1 = some r) :
    Calls Try.prog 137 #[.agg #[.int .i64 a0_0,.int .i64 a0_1]] w fun e w'=>e = .returned (.bool r)∧Below w.heap.size w w':=by
 have S:=St.init (w:=w) dn
 have F:=S.fc
 have H:=h;clear h;unfold impl_isGeared.f at H
 replace H:=sp_ H;rcases H with ⟨c2,H⟩ | ⟨c2,H⟩
 · skip
   replace c2:=ceq c2
   obtain rfl:=Option.some.inj H
   go_enter Try.func137,Try.ntmps137
   go_wp2_with (first | ((with_reducible refine gd 1 rfl (L ?_));refine bo 1 (.agg #[_,_]) S ?_;clear S F;intro gb379 W S;have F:=S.fc))
   go_ret
   exact ⟨(by first | rfl | (simp [e0_,e1_] <;> rfl) | (simp [*,e0_,e1_] <;> rfl)),S.below⟩
 · skip
   replace c2:=cne c2
   obtain rfl:=Option.some.inj H
   go_enter Try.func137,Try.ntmps137
   go_wp2_with (first | ((with_reducible refine gd 1 rfl (L ?_));refine bo 1 (.agg #[_,_]) S ?_;clear S F;intro gb379 W S;have F:=S.fc))
   go_ret
   exact ⟨(by first | rfl | (simp [e0_,e1_] <;> rfl) | (simp [*,e0_,e1_] <;> rfl)),S.below⟩

/-! ### impl_besideOf: function 138 -/
mutual
def impl_besideOf.j0:Nat→Int→List Int→Int→Int→Int→Int→List (S88)→Option (List Int)
  | 0,_,_,_,_,_,_,_=>none
  | k + 1,x1,x5,x6,x7,x381000,x381001,x381002=>if x7 > 0 then (if x5.length < 17592186044416 then (impl_besideOf.j1 k x1 (x5 ++ [wrap64 (x1 - 1)]) x6 x7 x381000 x381001 x381002) else (none)) else (impl_besideOf.j1 k x1 x5 x6 x7 x381000 x381001 x381002)
def impl_besideOf.j1:Nat→Int→List Int→Int→Int→Int→Int→List (S88)→Option (List Int)
  | 0,_,_,_,_,_,_,_=>none
  | k + 1,x1,x5,x6,x7,x381000,x381001,x381002=>if (wrap64 (x7 + 1)) < x381001 then (if x5.length < 17592186044416 then ((some (x5 ++ [wrap64 (x1 + 1)]:List Int)).bind fun y390=>(if (wrap64 (x6 + 1)) < x381000 then (if y390.length < 17592186044416 then (some (y390 ++ [wrap64 (x1 + x381001)])) else (none)) else (some y390))) else (none)) else (if (wrap64 (x6 + 1)) < x381000 then (if x5.length < 17592186044416 then (some (x5 ++ [wrap64 (x1 + x381001)])) else (none)) else (some x5))
end
def impl_besideOf.f (k:Nat) (a0_0:Int) (a0_1:Int) (l0_2:List (S88)) (a1:Int):Option (List Int):=(some (([]:List Int):List Int)).bind fun y381=>(if a0_1 = 0 then (none) else (if (wrap64 (Int.tdiv a1 a0_1)) > 0 then (if y381.length < 17592186044416 then (impl_besideOf.j0 k a1 (y381 ++ [wrap64 (a1 - a0_1)]) (wrap64 (Int.tdiv a1 a0_1)) (Int.tmod a1 a0_1) a0_0 a0_1 l0_2) else (none)) else (impl_besideOf.j0 k a1 y381 (wrap64 (Int.tdiv a1 a0_1)) (Int.tmod a1 a0_1) a0_0 a0_1 l0_2)))
theorem impl_besideOf.calls (k:Nat) (a0_0:Int) (a0_1:Int) (A0_2:Option Addr) (c0_2:Nat) (l0_2:List (S88)) (a1:Int) (r:List Int) (w:World) (hr0_2:Kd.C k88 w A0_2 l0_2.length l0_2) (hc0_2:l0_2.length ≤ c0_2) (h:impl_besideOf.f k a0_0 a0_1 l0_2 a1 = some r) :
    Calls Try.prog 138 #[.agg #[.int .i64 a0_0,.int .i64 a0_1,.slice A0_2 l0_2.length c0_2],.int .i64 a1] w fun e w'=>∃ v0_:Value,e = .returned (v0_)∧Kd.R (Kd.int .i64) 3 w' w.heap.size (fun _=>True) v0_ r∧Below w.heap.size w w':=by
 have S:=St.init (w:=w) (dc k88_heap at88 hr0_2 hc0_2 dn)
 clear hr0_2 hc0_2
 have F:=S.fc
 have H:=h;clear h;unfold impl_besideOf.f at H
 (first | (with_reducible replace H:=ob_ H;obtain ⟨y381,hy381,H⟩:=H;(try dsimp only at H)) | (obtain ⟨y381,hy381⟩:∃ y_:List Int,y_ = (([]:List Int)):=⟨_,rfl⟩;(try rw [← hy381] at H);(try simp only [Option.bind_some] at H)));have Ny381:=Aside0.mk hy381;clear hy381
 replace H:=nn_ H;obtain ⟨c3,H⟩:=H
 replace c3:=cne c3
 go_enter Try.func138,Try.ntmps138
 go_upto_if 18 with (first | ((with_reducible refine gd 2 rfl (L ?_));refine bo 2 (.agg #[_,_,_]) S ?_;clear S F;intro gb380 W S;have F:=S.fc) | ((with_reducible refine gd 8 rfl (L ?_));refine lia 8 (atI .i64) 3 S ([]:List Int) (fun _ _=>(Reps.none _ _)) (by first | (go_simp;done) | (go_simp;rfl)) ?_;clear S F;intro Ay381 cy381 W S;(try rw [← Ny381.out] at S ⊢);have F:=S.fc))
 go_upto_if 18 with (first | ((with_reducible refine gd 2 rfl (L ?_));refine bo 2 (.agg #[_,_,_]) S ?_;clear S F;intro gb380 W S;have F:=S.fc) | ((with_reducible refine gd 8 rfl (L ?_));refine lia 8 (atI .i64) 3 S ([]:List Int) (fun _ _=>(Reps.none _ _)) (by first | (go_simp;done) | (go_simp;rfl)) ?_;clear S F;intro Ay381 cy381 W S;(try rw [← Ny381.out] at S ⊢);have F:=S.fc) | ((with_reducible refine gd 2 rfl (L ?_));refine bo 2 (.agg #[_,_,_]) S ?_;clear S F;intro gb380 W S;have F:=S.fc) | ((with_reducible refine gd 8 rfl (L ?_));refine lia 8 (atI .i64) 3 S ([]:List Int) (fun _ _=>(Reps.none _ _)) (by first | (go_simp;done) | (go_simp;rfl)) ?_;clear S F;intro Ay381 cy381 W S;(try rw [← Ny381.out] at S ⊢);have F:=S.fc) | ((refine rq (id:=2) S [(0,0),(0,1),(0,4),(0,5),(1,2),(0,3),(0,8),(1,6),(0,7),(0,9)] [] (h:=?_);clear S F;intro W S;have S0:=S;have F:=S.fc)) | (refine q0 (h:=?_)) | (refine q1 S0 (h:=?_)) | (refine q0n (h:=?_)) | (refine q1n S0 (h:=?_)) | refine oz ?_)
 (try simp only [Act.put,List.setIfInBounds_toArray,List.set_cons_zero,List.set_cons_succ])
 go_cut [5] (fun v5 wc=>∃ (kq:Nat) (x5_3:List Int) (Ax5_3:Option Addr) (cx5_3:Nat),v5 = .slice Ax5_3 x5_3.length cx5_3∧impl_besideOf.j0 kq a1 x5_3 (wrap64 (Int.tdiv a1 a0_1)) (Int.tmod a1 a0_1) a0_0 a0_1 l0_2 = some r∧kq ≤ k∧St w w (fun _=>False) [bor at88 A0_2 c0_2 l0_2] wc  [row (atI .i64) 3 Ax5_3 x5_3.length cx5_3 x5_3,box gb380 50 [.int .i64 a0_0,.int .i64 a0_1,.slice A0_2 l0_2.length c0_2]])
 case first =>
  replace H:=sp_ H;rcases H with ⟨c9,H⟩ | ⟨c9,H⟩
  · skip
    replace H:=np_ H;obtain ⟨c10,H⟩:=H
    (first | (with_reducible replace H:=ob_ H;obtain ⟨y384,hy384,H⟩:=H;(try dsimp only at H)) | (obtain ⟨y384,hy384⟩:∃ y_:List Int,y_ = (y381 ++ [wrap64 (a1 - a0_1)]):=⟨_,rfl⟩;(try rw [← hy384] at H);(try simp only [Option.bind_some] at H)));have Ny384:=Aside0.mk hy384;clear hy384
    go_wp2_with (first | ((with_reducible refine gd 25 rfl (L ?_));refine apa (A:=Ay381) 25 S Try.underlying23 info3 ?_ (ho:=rfl) (hs:=rfl) (hx:=rfl);clear S F;intro Ay384 cy384 W S;(try rw [← Ny384.out] at S ⊢);have F:=S.fc))
    go_wp2_with (first | ((with_reducible refine gd 25 rfl (L ?_));refine apa (A:=Ay381) 25 S Try.underlying23 info3 ?_ (ho:=rfl) (hs:=rfl) (hx:=rfl);clear S F;intro Ay384 cy384 W S;(try rw [← Ny384.out] at S ⊢);have F:=S.fc) | ((with_reducible refine gd 25 rfl (L ?_));refine apa (A:=Ay381) 25 S Try.underlying23 info3 ?_ (ho:=rfl) (hs:=rfl) (hx:=rfl);clear S F;intro Ay384 cy384 W S;(try rw [← Ny384.out] at S ⊢);have F:=S.fc) | ((refine rq (id:=2) S [(0,0),(0,1),(0,4),(0,5),(1,2),(0,3),(0,8),(1,6),(0,7),(0,9)] [] (h:=?_);clear S F;intro W S;have S0:=S;have F:=S.fc)) | (refine q0 (h:=?_)) | (refine q1 S0 (h:=?_)) | (refine q0n (h:=?_)) | (refine q1n S0 (h:=?_)) | refine oz ?_)
    go_meet
    case rel=>exact ⟨_,y384,_,_,rfl,H,(by first | omega | exact Nat.le_refl _),S⟩
  · skip
    go_wp2
    go_wp2_with (first | ((refine rq (id:=2) S [(0,0),(0,1),(0,4),(0,5),(1,2),(0,3),(0,8),(1,6),(0,7),(0,9)] [] (h:=?_);clear S F;intro W S;have S0:=S;have F:=S.fc)) | (refine q0 (h:=?_)) | (refine q1 S0 (h:=?_)) | (refine q0n (h:=?_)) | (refine q1n S0 (h:=?_)) | refine oz ?_)
    go_meet
    case rel=>exact ⟨_,y381,_,_,rfl,H,(by first | omega | exact Nat.le_refl _),S⟩
 case rest =>
  clear H S F
  obtain ⟨kq,x5_3,Ax5_3,cx5_3,rfl,HA,HJ3,S⟩:=hcut
  have F:=S.fc
  cases kq with
  | zero=>exact absurd HA (by simp [impl_besideOf.j0])
  | succ kj3 =>
   have H:=HA;clear HA;simp only [impl_besideOf.j0,F] at H
   go_upto_if 27 with (fail)
   go_upto_if 27 with (first | ((refine rq (id:=2) S [(0,0),(0,1),(0,4),(0,5),(1,2),(0,3),(0,8),(1,6),(0,7),(0,9)] [] (h:=?_);clear S F;intro W S;have S0:=S;have F:=S.fc)) | (refine q0 (h:=?_)) | (refine q1 S0 (h:=?_)) | (refine q0n (h:=?_)) | (refine q1n S0 (h:=?_)) | refine oz ?_)
   go_cut [5] (fun v5 wc=>∃ (kq:Nat) (x5_12:List Int) (Ax5_12:Option Addr) (cx5_12:Nat),v5 = .slice Ax5_12 x5_12.length cx5_12∧impl_besideOf.j1 kq a1 x5_12 (wrap64 (Int.tdiv a1 a0_1)) (Int.tmod a1 a0_1) a0_0 a0_1 l0_2 = some r∧kq ≤ kj3∧St w w (fun _=>False) [bor at88 A0_2 c0_2 l0_2] wc  [row (atI .i64) 3 Ax5_12 x5_12.length cx5_12 x5_12,box gb380 50 [.int .i64 a0_0,.int .i64 a0_1,.slice A0_2 l0_2.length c0_2]])
   case first =>
    replace H:=sp_ H;rcases H with ⟨c14,H⟩ | ⟨c14,H⟩
    · skip
      replace H:=np_ H;obtain ⟨c15,H⟩:=H
      (first | (with_reducible replace H:=ob_ H;obtain ⟨y387,hy387,H⟩:=H;(try dsimp only at H)) | (obtain ⟨y387,hy387⟩:∃ y_:List Int,y_ = (x5_3 ++ [wrap64 (a1 - 1)]):=⟨_,rfl⟩;(try rw [← hy387] at H);(try simp only [Option.bind_some] at H)));have Ny387:=Aside0.mk hy387;clear hy387
      go_wp2_with (first | ((with_reducible refine gd 32 rfl (L ?_));refine apa (A:=Ax5_3) 32 S Try.underlying23 info3 ?_ (ho:=rfl) (hs:=rfl) (hx:=rfl);clear S F;intro Ay387 cy387 W S;(try rw [← Ny387.out] at S ⊢);have F:=S.fc))
      go_wp2_with (first | ((with_reducible refine gd 32 rfl (L ?_));refine apa (A:=Ax5_3) 32 S Try.underlying23 info3 ?_ (ho:=rfl) (hs:=rfl) (hx:=rfl);clear S F;intro Ay387 cy387 W S;(try rw [← Ny387.out] at S ⊢);have F:=S.fc) | ((with_reducible refine gd 32 rfl (L ?_));refine apa (A:=Ax5_3) 32 S Try.underlying23 info3 ?_ (ho:=rfl) (hs:=rfl) (hx:=rfl);clear S F;intro Ay387 cy387 W S;(try rw [← Ny387.out] at S ⊢);have F:=S.fc) | ((refine rq (id:=2) S [(0,0),(0,1),(0,4),(0,5),(1,2),(0,3),(0,8),(1,6),(0,7),(0,9)] [] (h:=?_);clear S F;intro W S;have S0:=S;have F:=S.fc)) | (refine q0 (h:=?_)) | (refine q1 S0 (h:=?_)) | (refine q0n (h:=?_)) | (refine q1n S0 (h:=?_)) | refine oz ?_)
      go_meet
      case rel=>exact ⟨_,y387,_,_,rfl,H,(by first | omega | exact Nat.le_refl _),S⟩
    · skip
      go_wp2
      go_wp2_with (first | ((refine rq (id:=2) S [(0,0),(0,1),(0,4),(0,5),(1,2),(0,3),(0,8),(1,6),(0,7),(0,9)] [] (h:=?_);clear S F;intro W S;have S0:=S;have F:=S.fc)) | (refine q0 (h:=?_)) | (refine q1 S0 (h:=?_)) | (refine q0n (h:=?_)) | (refine q1n S0 (h:=?_)) | refine oz ?_)
      go_meet
      case rel=>exact ⟨_,x5_3,_,_,rfl,H,(by first | omega | exact Nat.le_refl _),S⟩
   case rest =>
    clear H S F
    obtain ⟨kq,x5_12,Ax5_12,cx5_12,rfl,HA,HJ12,S⟩:=hcut
    have F:=S.fc
    cases kq with
    | zero=>exact absurd HA (by simp [impl_besideOf.j1])
    | succ kj12 =>
     have H:=HA;clear HA;simp only [impl_besideOf.j1,F] at H
     replace H:=sp_ H;rcases H with ⟨c17,H⟩ | ⟨c17,H⟩
     · skip
       replace H:=np_ H;obtain ⟨c18,H⟩:=H
       (first | (with_reducible replace H:=ob_ H;obtain ⟨y390,hy390,H⟩:=H;(try dsimp only at H)) | (obtain ⟨y390,hy390⟩:∃ y_:List Int,y_ = (x5_12 ++ [wrap64 (a1 + 1)]):=⟨_,rfl⟩;(try rw [← hy390] at H);(try simp only [Option.bind_some] at H)));have Ny390:=Aside0.mk hy390;clear hy390
       replace H:=sp_ H;rcases H with ⟨c19,H⟩ | ⟨c19,H⟩
       · skip
         replace H:=np_ H;obtain ⟨c20,H⟩:=H
         (first | (with_reducible replace H:=ob_ H;obtain ⟨y393,hy393,H⟩:=H;(try dsimp only at H)) | (obtain ⟨y393,hy393⟩:∃ y_:List Int,y_ = (y390 ++ [wrap64 (a1 + a0_1)]):=⟨_,rfl⟩;(try rw [← hy393] at H);(try simp only [Option.bind_some] at H)));have Ny393:=Aside0.mk hy393;clear hy393
         obtain rfl:=Option.some.inj H
         go_wp2_with (first | ((with_reducible refine gd 42 rfl (L ?_));refine apa (A:=Ax5_12) 42 S Try.underlying23 info3 ?_ (ho:=rfl) (hs:=rfl) (hx:=rfl);clear S F;intro Ay390 cy390 W S;(try rw [← Ny390.out] at S ⊢);(try rw [← Ny393.out] at S ⊢);have F:=S.fc) | ((with_reducible refine gd 54 rfl (L ?_));refine apa (A:=Ay390) 54 S Try.underlying23 info3 ?_ (ho:=rfl) (hs:=rfl) (hx:=rfl);clear S F;intro Ay393 cy393 W S;(try rw [← Ny390.out] at S ⊢);(try rw [← Ny393.out] at S ⊢);have F:=S.fc))
         go_wp2_with (first | ((with_reducible refine gd 42 rfl (L ?_));refine apa (A:=Ax5_12) 42 S Try.underlying23 info3 ?_ (ho:=rfl) (hs:=rfl) (hx:=rfl);clear S F;intro Ay390 cy390 W S;(try rw [← Ny390.out] at S ⊢);(try rw [← Ny393.out] at S ⊢);have F:=S.fc) | ((with_reducible refine gd 54 rfl (L ?_));refine apa (A:=Ay390) 54 S Try.underlying23 info3 ?_ (ho:=rfl) (hs:=rfl) (hx:=rfl);clear S F;intro Ay393 cy393 W S;(try rw [← Ny390.out] at S ⊢);(try rw [← Ny393.out] at S ⊢);have F:=S.fc) | ((with_reducible refine gd 42 rfl (L ?_));refine apa (A:=Ax5_12) 42 S Try.underlying23 info3 ?_ (ho:=rfl) (hs:=rfl) (hx:=rfl);clear S F;intro Ay390 cy390 W S;(try rw [← Ny390.out] at S ⊢);(try rw [← Ny393.out] at S ⊢);have F:=S.fc) | ((with_reducible refine gd 54 rfl (L ?_));refine apa (A:=Ay390) 54 S Try.underlying23 info3 ?_ (ho:=rfl) (hs:=rfl) (hx:=rfl);clear S F;intro Ay393 cy393 W S;(try rw [← Ny390.out] at S ⊢);(try rw [← Ny393.out] at S ⊢);have F:=S.fc) | ((refine rq (id:=2) S [(0,0),(0,1),(0,4),(0,5),(1,2),(0,3),(0,8),(1,6),(0,7),(0,9)] [] (h:=?_);clear S F;intro W S;have S0:=S;have F:=S.fc)) | (refine q0 (h:=?_)) | (refine q1 S0 (h:=?_)) | (refine q0n (h:=?_)) | (refine q1n S0 (h:=?_)) | refine oz ?_)
         go_ret
         exact ⟨_,(by first | rfl | (simp [e0_,e1_] <;> rfl) | (simp [*,e0_,e1_] <;> rfl)),(by first | exact S.r | exact Kd.R_nil _ _ _ _ _),S.below⟩
       · skip
         obtain rfl:=Option.some.inj H
         go_wp2_with (first | ((with_reducible refine gd 42 rfl (L ?_));refine apa (A:=Ax5_12) 42 S Try.underlying23 info3 ?_ (ho:=rfl) (hs:=rfl) (hx:=rfl);clear S F;intro Ay390 cy390 W S;(try rw [← Ny390.out] at S ⊢);have F:=S.fc))
         go_wp2_with (first | ((with_reducible refine gd 42 rfl (L ?_));refine apa (A:=Ax5_12) 42 S Try.underlying23 info3 ?_ (ho:=rfl) (hs:=rfl) (hx:=rfl);clear S F;intro Ay390 cy390 W S;(try rw [← Ny390.out] at S ⊢);have F:=S.fc) | ((with_reducible refine gd 42 rfl (L ?_));refine apa (A:=Ax5_12) 42 S Try.underlying23 info3 ?_ (ho:=rfl) (hs:=rfl) (hx:=rfl);clear S F;intro Ay390 cy390 W S;(try rw [← Ny390.out] at S ⊢);have F:=S.fc) | ((refine rq (id:=2) S [(0,0),(0,1),(0,4),(0,5),(1,2),(0,3),(0,8),(1,6),(0,7),(0,9)] [] (h:=?_);clear S F;intro W S;have S0:=S;have F:=S.fc)) | (refine q0 (h:=?_)) | (refine q1 S0 (h:=?_)) | (refine q0n (h:=?_)) | (refine q1n S0 (h:=?_)) | refine oz ?_)
         go_ret
         exact ⟨_,(by first | rfl | (simp [e0_,e1_] <;> rfl) | (simp [*,e0_,e1_] <;> rfl)),(by first | exact S.r | exact Kd.R_nil _ _ _ _ _),S.below⟩
     · skip
       replace H:=sp_ H;rcases H with ⟨c28,H⟩ | ⟨c28,H⟩
       · skip
         replace H:=np_ H;obtain ⟨c29,H⟩:=H
         (first | (with_reducible replace H:=ob_ H;obtain ⟨y396,hy396,H⟩:=H;(try dsimp only at H)) | (obtain ⟨y396,hy396⟩:∃ y_:List Int,y_ = (x5_12 ++ [wrap64 (a1 + a0_1)]):=⟨_,rfl⟩;(try rw [← hy396] at H);(try simp only [Option.bind_some] at H)));have Ny396:=Aside0.mk hy396;clear hy396
         obtain rfl:=Option.some.inj H
         go_wp2_with (first | ((with_reducible refine gd 54 rfl (L ?_));refine apa (A:=Ax5_12) 54 S Try.underlying23 info3 ?_ (ho:=rfl) (hs:=rfl) (hx:=rfl);clear S F;intro Ay396 cy396 W S;(try rw [← Ny396.out] at S ⊢);have F:=S.fc))
         go_wp2_with (first | ((with_reducible refine gd 54 rfl (L ?_));refine apa (A:=Ax5_12) 54 S Try.underlying23 info3 ?_ (ho:=rfl) (hs:=rfl) (hx:=rfl);clear S F;intro Ay396 cy396 W S;(try rw [← Ny396.out] at S ⊢);have F:=S.fc) | ((with_reducible refine gd 54 rfl (L ?_));refine apa (A:=Ax5_12) 54 S Try.underlying23 info3 ?_ (ho:=rfl) (hs:=rfl) (hx:=rfl);clear S F;intro Ay396 cy396 W S;(try rw [← Ny396.out] at S ⊢);have F:=S.fc) | ((refine rq (id:=2) S [(0,0),(0,1),(0,4),(0,5),(1,2),(0,3),(0,8),(1,6),(0,7),(0,9)] [] (h:=?_);clear S F;intro W S;have S0:=S;have F:=S.fc)) | (refine q0 (h:=?_)) | (refine q1 S0 (h:=?_)) | (refine q0n (h:=?_)) | (refine q1n S0 (h:=?_)) | refine oz ?_)
         go_ret
         exact ⟨_,(by first | rfl | (simp [e0_,e1_] <;> rfl) | (simp [*,e0_,e1_] <;> rfl)),(by first | exact S.r | exact Kd.R_nil _ _ _ _ _),S.below⟩
       · skip
         obtain rfl:=Option.some.inj H
         go_wp2
         go_wp2_with (first | ((refine rq (id:=2) S [(0,0),(0,1),(0,4),(0,5),(1,2),(0,3),(0,8),(1,6),(0,7),(0,9)] [] (h:=?_);clear S F;intro W S;have S0:=S;have F:=S.fc)) | (refine q0 (h:=?_)) | (refine q1 S0 (h:=?_)) | (refine q0n (h:=?_)) | (refine q1n S0 (h:=?_)) | refine oz ?_)
         go_ret
         exact ⟨_,(by first | rfl | (simp [e0_,e1_] <;> rfl) | (simp [*,e0_,e1_] <;> rfl)),(by first | exact S.r | exact Kd.R_nil _ _ _ _ _),S.below⟩

/-! ### impl_groupNumbers: function 128 -/
mutual
def impl_groupNumbers.l0:Nat→List Int→Int→Int→Int→Int→List (S88)→Option (List Int)
 | 0,_,_,_,_,_,_=>none
 | k + 1,x3,x17,x18,x400000,x400001,x400002=>if x18 < x17 then (if 0 ≤ x18 then (if x18 < (x3.length:Int) then (impl_groupNumbers.l0 k (x3.set (x18:Int).toNat (-1)) x17 (wrap64 (x18 + 1)) x400000 x400001 x400002) else (none)) else (none)) else (impl_groupNumbers.l1 k x3 0 x400002 (x400002.length:Int) 0 x400000 x400001 x400002)
def impl_groupNumbers.l1:Nat→List Int→Int→List (S88)→Int→Int→Int→Int→List (S88)→Option (List Int)
 | 0,_,_,_,_,_,_,_,_=>none
 | k + 1,x3,x5,x26,x27,x28,x400000,x400001,x400002=>if x28 < x27 then (if 0 ≤ x28 then (if x28 < (x26.length:Int) then ((impl_isGeared.f ((rd_T88 x26 x28).f0) ((rd_T88 x26 x28).f1)).bind fun t406=>(if t406 = true then (if x28 < (x3.length:Int) then (impl_groupNumbers.j2 k x3 x5 x28 x26 x27 x28 (decide ((rd x3 x28) ≥ 0)) x400000 x400001 x400002) else (none)) else (impl_groupNumbers.j2 k x3 x5 x28 x26 x27 x28 true x400000 x400001 x400002))) else (none)) else (none)) else (some x3)
def impl_groupNumbers.j2:Nat→List Int→Int→Int→List (S88)→Int→Int→Bool→Int→Int→List (S88)→Option (List Int)
 | 0,_,_,_,_,_,_,_,_,_,_=>none
 | k + 1,x3,x5,x6,x26,x27,x28,x42,x400000,x400001,x400002=>if x42 = true then (impl_groupNumbers.l1 k x3 x5 x26 x27 (wrap64 (x28 + 1)) x400000 x400001 x400002) else (if 0 ≤ x6 then (if x6 < (x3.length:Int) then (impl_groupNumbers.l2 k (x3.set (x6:Int).toNat x5) x5 (([x6]:List Int)) x26 x27 x28 x400000 x400001 x400002) else (none)) else (none))
def impl_groupNumbers.l2:Nat→List Int→Int→List Int→List (S88)→Int→Int→Int→Int→List (S88)→Option (List Int)
 | 0,_,_,_,_,_,_,_,_,_=>none
 | k + 1,x3,x5,x8,x26,x27,x28,x400000,x400001,x400002=>if (x8.length:Int) > 0 then (if 0 < (x8.length:Int) then (if 1 ≤ (x8.length:Int) then ((impl_besideOf.f k x400000 x400001 x400002 (rd x8 0)).bind fun t416=>(impl_groupNumbers.l3 k x3 x5 (x8.drop (1:Int).toNat) x26 x27 x28 t416 (t416.length:Int) 0 x400000 x400001 x400002)) else (none)) else (none)) else (impl_groupNumbers.l1 k x3 (wrap64 (x5 + 1)) x26 x27 (wrap64 (x28 + 1)) x400000 x400001 x400002)
def impl_groupNumbers.l3:Nat→List Int→Int→List Int→List (S88)→Int→Int→List Int→Int→Int→Int→Int→List (S88)→Option (List Int)
 | 0,_,_,_,_,_,_,_,_,_,_,_,_=>none
 | k + 1,x3,x5,x8,x26,x27,x28,x59,x60,x61,x400000,x400001,x400002=>if x61 < x60 then (if 0 ≤ x61 then (if x61 < (x59.length:Int) then (if 0 ≤ (rd x59 x61) then (if (rd x59 x61) < (x400002.length:Int) then ((impl_isGeared.f ((rd_T88 x400002 (rd x59 x61)).f0) ((rd_T88 x400002 (rd x59 x61)).f1)).bind fun t421=>(if t421 = true then (if (rd x59 x61) < (x3.length:Int) then (if (rd x3 (rd x59 x61)) < 0 then (if x8.length < 17592186044416 then (impl_groupNumbers.l3 k (x3.set ((rd x59 x61):Int).toNat x5) x5 (x8 ++ [rd x59 x61]) x26 x27 x28 x59 x60 (wrap64 (x61 + 1)) x400000 x400001 x400002) else (none)) else (impl_groupNumbers.l3 k x3 x5 x8 x26 x27 x28 x59 x60 (wrap64 (x61 + 1)) x400000 x400001 x400002)) else (none)) else (impl_groupNumbers.l3 k x3 x5 x8 x26 x27 x28 x59 x60 (wrap64 (x61 + 1)) x400000 x400001 x400002))) else (none)) else (none)) else (none)) else (none)) else (impl_groupNumbers.l2 k x3 x5 x8 x26 x27 x28 x400000 x400001 x400002)
end
def impl_groupNumbers.f (k:Nat) (a0_0:Int) (a0_1:Int) (l0_2:List (S88)):Option (List Int):=if 0 ≤ (l0_2.length:Int) then (if ((l0_2.length:Int):Int).toNat ≤ 35184372088832 then ((some (List.replicate ((l0_2.length:Int):Int).toNat 0:List Int)).bind fun y400=>(impl_groupNumbers.l0 k y400 (y400.length:Int) 0 a0_0 a0_1 l0_2)) else (none)) else (none)
theorem impl_groupNumbers.calls (k:Nat) (a0_0:Int) (a0_1:Int) (A0_2:Option Addr) (c0_2:Nat) (l0_2:List (S88)) (r:List Int) (w:World) (hr0_2:Kd.C k88 w A0_2 l0_2.length l0_2) (hc0_2:l0_2.length ≤ c0_2) (h:impl_groupNumbers.f k a0_0 a0_1 l0_2 = some r) :
  Calls Try.prog 128 #[.agg #[.int .i64 a0_0,.int .i64 a0_1,.slice A0_2 l0_2.length c0_2]] w fun e w'=>∃ v0_:Value,e = .returned (v0_)∧Kd.R (Kd.int .i64) 3 w' w.heap.size (fun _=>True) v0_ r∧Below w.heap.size w w':=by
 have HR0_2:=Aside0.mk hr0_2;have HC0_2:=Aside0.mk hc0_2;clear hr0_2 hc0_2;have HB:=Aside0.mk (Below.refl w.heap.size w);have H:(if 0 ≤ (l0_2.length:Int) then (if ((l0_2.length:Int):Int).toNat ≤ 35184372088832 then ((some (List.replicate ((l0_2.length:Int):Int).toNat 0:List Int)).bind fun y400=>(impl_groupNumbers.l0 k y400 (y400.length:Int) 0 a0_0 a0_1 l0_2)) else (none)) else (none)) = some r:=h;clear h;replace H:=np_ H;obtain ⟨c2,H⟩:=H;have c2b0:=eq_true c2;have c2b1:decide (0 ≤ (l0_2.length:Int)) = true:=decide_eq_true c2;clear c2;replace H:=np_ H;obtain ⟨c3,H⟩:=H;have c3b0:=eq_true c3;have c3b1:decide (((l0_2.length:Int):Int).toNat ≤ 35184372088832) = true:=decide_eq_true c3;clear c3;obtain ⟨y400,hy400⟩:∃ y_:List Int,y_ = (List.replicate ((l0_2.length:Int):Int).toNat 0):=⟨_,rfl⟩
 replace H:(impl_groupNumbers.l0 k y400 (y400.length:Int) 0 a0_0 a0_1 l0_2) = some r:=by first | (rw [hy400];with_reducible exact H) | (have H2_:=(Option.bind_some _ _).symm.trans H;rw [hy400];with_reducible exact H2_) | (have H2_:=(Option.bind_some _ _).symm.trans H;with_reducible exact H2_) | with_reducible exact H | (rw [hy400];exact H) | exact H
 have Ny400:=Aside0.mk hy400;clear hy400;have H':=Aside0.mk H;clear H;go_enter Try.func128,Try.ntmps128;go_wp2_with (first | ((with_reducible refine gate_dst (N:=1) rfl ?_);refine box_event ?hg (N:=1) ?hd (cs:=#[.int .i64 a0_0,.int .i64 a0_1,.slice A0_2 l0_2.length c0_2]) (t:=50) ?hr ?_;(case hd=>rfl);(case hg=>rfl);(case hr=>first | (go_simp;done) | (go_simp;rfl));intro gb399 hg w4 hbox hb;refine ev4 (bs HB hb) (hbox) (gle hg HB) (gle hg HB) ?_;clear HB;intro HB BK399 GW399 GE399;clear hb hbox hg;obtain ⟨hcz5_0,hcz5_1,hcz5_2,hfz5_0,hfz5_1,hfz5_2⟩:=bt3 BK399) | ((with_reducible refine gate_dst (N:=15) rfl ?_);refine Kd.R_make (Kd.int .i64) _ 3 rfl (N:=15) rfl 23 _ _ rfl (l0_2.length:Int) rfl rfl Try.underlying23 (.int .i64 0) 8 info3 rfl (by decide) (by omega) 0 (ok:=fun _=>True) (okp:=fun _=>True) rfl (fun _ hk=>hk) trivial (of_decide_eq_true (by first | (with_reducible assumption) | assumption)) (Nat.le_trans (Nat.mul_le_mul_right _ (of_decide_eq_true (by first | (with_reducible assumption) | assumption):(l0_2.length:Int).toNat ≤ 35184372088832)) (by omega)) (Below.refl _ _) (Nat.le_refl _) ?_;intro v401 w6 ho7 hb hg_ hnew_;clear hg_ hnew_;(first | rw [← Ny400.out] at ho7 | (simp only [Int.reduceToNat] at ho7;rw [← Ny400.out] at ho7));refine ev3 (Kd.R_lower ho7 (below_size (bm HB))) (kb BK399 hb) (bs HB hb) ?_;clear BK399 HB;intro HO402 BK399 HB;clear hb ho7;obtain ⟨Ao8,co8,eo8⟩:=Kd.R_slice HO402.out;subst eo8))
 go_loopg [18] k (fun kq v18 w'=>∃ (x3_1:List Int) (x18_1:Int),v18 = .int .i64 x18_1∧Aside0 (impl_groupNumbers.l0 kq x3_1 (y400.length:Int) x18_1 a0_0 a0_1 l0_2 = some r)∧Aside0 (kq ≤ k)∧Aside0 (Kd.R (Kd.int .i64) 3 w' w.heap.size (fun _=>True) (.slice Ao8 y400.length co8) x3_1)∧Aside0 (w'.heap[gb399]? = some (.cells #[.int .i64 a0_0,.int .i64 a0_1,(.slice A0_2 l0_2.length c0_2)] 50 (0,0)))∧Aside0 (Below w.heap.size w w'))
 case atStart=>exact ⟨(y400),(0),(by first | rfl | (simp;done) | (simp [*];done)),H',⟨Nat.le_refl _⟩,⟨Kd.R_mv HO402.out⟩,⟨km_ BK399⟩,⟨bm HB⟩⟩
 case round =>
  clear H';(try clear c1);(try clear c2);(try clear c2b0);(try clear c2b1);(try clear p2);(try clear c3);(try clear c3b0);(try clear c3b1);(try clear hcz5_0 hcz5_1 hcz5_2 hfz5_0 hfz5_1 hfz5_2);obtain ⟨x3_1,x18_1,rfl,HA,HK1,HO_3,BK399,HB⟩:=hrel;have hl3_1:=(Kd.R_reads' HO_3.out).1;rw [hl3_1] at HO_3;(try simp only [hl3_1])
  (try simp only [hl3_1] at BK399)
  cases gk with
  | zero=>exact absurd HA.out (by simp [impl_groupNumbers.l0])
  | succ k1 =>
   have H:=HA.out;clear HA;simp only [impl_groupNumbers.l0] at H;by_cases c9:x18_1 < (y400.length:Int)
   ·rw [if_pos c9] at H;have c9b0:decide (x18_1 < (y400.length:Int)) = true:=decide_eq_true c9;(try simp only [hl3_1] at c9b0)
    clear c9;replace H:=np_ H;obtain ⟨c10,H⟩:=H;have c10b0:decide (0 ≤ x18_1) = true:=decide_eq_true c10;clear c10;replace H:=np_ H;obtain ⟨c11,H⟩:=H;have c11b0:decide (x18_1 < (x3_1.length:Int)) = true:=decide_eq_true c11;(try simp only [hl3_1] at c11b0)
    clear c11;obtain ⟨y403,hy403⟩:∃ y_:List Int,y_ = (x3_1.set (x18_1:Int).toNat (-1)):=⟨_,rfl⟩
    replace H:(impl_groupNumbers.l0 k1 y403 (y400.length:Int) (wrap64 (x18_1 + 1)) a0_0 a0_1 l0_2) = some r:=by first | (rw [hy403];with_reducible exact H) | (have H2_:=(Option.bind_some _ _).symm.trans H;rw [hy403];with_reducible exact H2_) | (have H2_:=(Option.bind_some _ _).symm.trans H;with_reducible exact H2_) | with_reducible exact H | (rw [hy403];exact H) | exact H
    have Ny403:=Aside0.mk hy403;clear hy403;have H':=Aside0.mk H;clear H;have p12:0 ≤ (x18_1:Int):=of_decide_eq_true (by first | (with_reducible assumption) | assumption);have q12:(x18_1:Int) < ((x3_1.length:Int):Int):=of_decide_eq_true (by first | (with_reducible assumption) | assumption);obtain ⟨go12,co12,eo12,gb12,gl12,cl12,HG12⟩:=Kd.R_form HO_3.out (by omega);(first | cases eo12 | (injection eo12 with ea_ en_ ec_;(first | subst ea_ | (injection ea_ with ea_;subst ea_));subst ec_;clear en_))
    have GB12:=Aside0.mk gb12;have GG12:=Aside0.mk HG12;clear gb12 gl12 HG12;obtain ⟨hx12_0,hf12_0⟩:=Kd.R_celln 0 HO_3.out (x18_1:Int) p12 q12;replace p12:=eq_true p12;replace q12:=eq_true q12;have HP13:=Kd.R_putg HO_3.out (x18_1:Int) (-1);go_wp2_with (first | ((with_reducible refine gate_store (t:=3) (p:=23) rfl ?_);refine store_event (t:=3) (p:=23) (v:=?vo_w14) (w1:=(wr.setCell ⟨go12,(x18_1:Int).toNat,none⟩ (.int .i64 (-1)))) ?hg ?ho ?hn ?hr ?_;(case ho=>rfl);(case hg=>rfl);(case hn=>rfl);(case hr=>first | (go_simp;done) | (go_simp;rfl));intro w14 hw;have hg:wr.grownBy w14 (some go12):=(by rw [hw];exact HP13.2);have hp_:Kd.R (Kd.int .i64) 3 w14 w.heap.size (fun _=>True) (.slice (some ⟨go12,0,none⟩) x3_1.length co8) y403:=(by rw [hw,Ny403.out];exact HP13.1);clear HP13;refine ev3 (hp_) (blk_grown (km_ BK399) hg (Kd.R_ne HO_3.out BK399.out (by decide))) ((by rw [hw];exact below_set (HB.out) GB12.out:Below w.heap.size w w14)) ?_;clear HO_3 BK399 HB;intro HO_3 BK399 HB;clear hg hw hp_))
    (try simp only [← hl3_1])
    go_roundg k1
    case measure=>have:=HK1.out;omega
    case rel=>exact ⟨(y403),(wrap64 (x18_1 + 1)),(by first | rfl | (simp;done) | (simp [*];done)),H',⟨by have:=HK1.out;omega⟩,⟨by (try simp only [hl3_1]);exact Kd.R_mv HO_3.out⟩,⟨by (try simp only [hl3_1]);exact km_ BK399⟩,⟨bm HB⟩⟩
   ·rw [if_neg c9] at H;have c9b0:decide (x18_1 < (y400.length:Int)) = false:=decide_eq_false c9;(try simp only [hl3_1] at c9b0)
    clear c9;have H':=Aside0.mk H;clear H;obtain ⟨hcz15_0,hcz15_1,hcz15_2,hfz15_0,hfz15_1,hfz15_2⟩:=bt3 BK399;go_wp2;go_loopg [5,28] k1 (fun kq v5 v28 w'=>∃ (x3_2:List Int) (x5_2:Int) (x28_2:Int),v5 = .int .i64 x5_2∧v28 = .int .i64 x28_2∧Aside0 (impl_groupNumbers.l1 kq x3_2 x5_2 l0_2 (l0_2.length:Int) x28_2 a0_0 a0_1 l0_2 = some r)∧Aside0 (kq ≤ k1)∧Aside0 (Kd.R (Kd.int .i64) 3 w' w.heap.size (fun _=>True) (.slice Ao8 x3_1.length co8) x3_2)∧Aside0 (w'.heap[gb399]? = some (.cells #[.int .i64 a0_0,.int .i64 a0_1,(.slice A0_2 l0_2.length c0_2)] 50 (0,0)))∧Aside0 (Below w.heap.size w w'))
    case atStart=>exact ⟨(x3_1),(0),(0),(by first | rfl | (simp;done) | (simp [*];done)),(by first | rfl | (simp;done) | (simp [*];done)),H',⟨Nat.le_refl _⟩,⟨by (try simp only [hl3_1]);exact Kd.R_mv HO_3.out⟩,⟨by (try simp only [hl3_1]);exact km_ BK399⟩,⟨bm HB⟩⟩
    case round =>
     clear H';(try clear c1);(try clear c2);(try clear c2b0);(try clear c2b1);(try clear p2);(try clear c3);(try clear c3b0);(try clear c3b1);(try clear c9);(try clear c9b0);(try clear c12);(try clear hcz15_0 hcz15_1 hcz15_2 hfz15_0 hfz15_1 hfz15_2);(try clear hcz5_0 hcz5_1 hcz5_2 hfz5_0 hfz5_1 hfz5_2);(try clear p2);obtain ⟨x3_2,x5_2,x28_2,rfl,rfl,HA,HK2,HO_3,BK399,HB⟩:=hrel;have hl3_2:=(Kd.R_reads' HO_3.out).1;rw [hl3_2] at HO_3;(try simp only [hl3_2])
     (try simp only [hl3_2] at BK399)
     cases gk with
     | zero=>exact absurd HA.out (by simp [impl_groupNumbers.l1])
     | succ k2 =>
      have H:=HA.out;clear HA;simp only [impl_groupNumbers.l1] at H;by_cases c16:x28_2 < (l0_2.length:Int)
      ·rw [if_pos c16] at H;have c16b0:decide (x28_2 < (l0_2.length:Int)) = true:=decide_eq_true c16;(try simp only [hl3_1] at c16b0)
       (try simp only [hl3_2] at c16b0)
       clear c16;replace H:=np_ H;obtain ⟨c17,H⟩:=H;have c17b0:decide (0 ≤ x28_2) = true:=decide_eq_true c17;clear c17;replace H:=np_ H;obtain ⟨c18,H⟩:=H;have c18b0:decide (x28_2 < (l0_2.length:Int)) = true:=decide_eq_true c18;(try simp only [hl3_1] at c18b0)
       (try simp only [hl3_2] at c18b0)
       clear c18;have HC19:=Aside0.mk H;clear H;have p404:0 ≤ (x28_2:Int):=of_decide_eq_true (by first | (with_reducible assumption) | assumption);have q404:x28_2 < (l0_2.length:Int):=of_decide_eq_true (by first | (with_reducible assumption) | assumption);obtain ⟨ad404,e404,hx404_0,hx404_1⟩:=at_T88 HR0_2.out x28_2 p404 q404;cases e404;replace hx404_0:=(HB.out.cell (World.block_lt_of_cell? w _ hx404_0)).trans hx404_0;replace hx404_1:=(HB.out.cell (World.block_lt_of_cell? w _ hx404_1)).trans hx404_1;replace p404:=eq_true p404;replace q404:=eq_true q404;go_upto_region 11 with (first | ((with_reducible refine gate_dst (N:=7) rfl ?_);refine box_event ?hg (N:=7) ?hd (cs:=#[.int .i64 0,.int .i64 0]) (t:=88) ?hr ?_;(case hd=>rfl);(case hg=>rfl);(case hr=>first | (go_simp;done) | (go_simp;rfl));intro gb405 hg w20 hbox hb;refine ev8 (Kd.R_below (Kd.R_mv HO_3.out) hb) (kb BK399 hb) (bs HB hb) (hbox) (gle hg HB) (gle hg HB) (gnf hg BK399) (gne hg BK399) ?_;clear HO_3 BK399 HB;intro HO_3 BK399 HB BK405 GW405 GE405 NB399_405 NB405_399;clear hb hbox hg;have hnb21:=NB405_399.out;have hnc21:=NB399_405.out;obtain ⟨hcz22_0,hcz22_1,hfz22_0,hfz22_1⟩:=bt2 BK405))
       (try simp only [Act.put,za_,zb_,zc_])
       go_cut [42] (fun v42 wc=>∃ (kq:Nat) (x42_18:Bool),v42 = .bool x42_18∧Aside0 (impl_groupNumbers.j2 kq x3_2 x5_2 x28_2 l0_2 (l0_2.length:Int) x28_2 x42_18 a0_0 a0_1 l0_2 = some r)∧Aside0 (kq ≤ k2)∧Aside0 (Kd.R (Kd.int .i64) 3 wc w.heap.size (fun _=>True) (.slice Ao8 x3_2.length co8) x3_2)∧Aside0 (wc.heap[gb399]? = some (.cells #[.int .i64 a0_0,.int .i64 a0_1,(.slice (some ad404) l0_2.length c0_2)] 50 (0,0)))∧Aside0 (wc.heap[gb405]? = some (.cells #[.int .i64 ((rd_T88 l0_2 x28_2).f0),.int .i64 ((rd_T88 l0_2 x28_2).f1)] 88 (0,0)))∧Aside0 (Below w.heap.size w wc))
       case first =>
        have H:=HC19.out;clear HC19;replace H:=Option.bind_eq_some_iff.mp H;obtain ⟨t406,A230,H⟩:=H;(try dsimp only at H)
        have A23:=Aside0.mk A230;clear A230;by_cases c24:t406 = true
        ·subst c24;have H1:(if x28_2 < (x3_2.length:Int) then (impl_groupNumbers.j2 k2 x3_2 x5_2 x28_2 l0_2 (l0_2.length:Int) x28_2 (decide ((rd x3_2 x28_2) ≥ 0)) a0_0 a0_1 l0_2) else (none)) = some r:=by rw [if_pos rfl] at H;exact H
         clear H;have H:=H1;clear H1;replace H:=np_ H;obtain ⟨c25,H⟩:=H;have c25b0:decide (x28_2 < (x3_2.length:Int)) = true:=decide_eq_true c25;(try simp only [hl3_1] at c25b0)
         (try simp only [hl3_2] at c25b0)
         clear c25;(first | rw [c25b0] | (simp only [i64_w,i32_w];rw [c25b0]) | skip)
         have H':=Aside0.mk H;clear H;have hnb26:=NB405_399.out;have hnc26:=NB399_405.out;obtain ⟨hcz27_0,hcz27_1,hfz27_0,hfz27_1⟩:=bt2 BK405;go_wp2_with (first | ((with_reducible refine gate_callee (f:=137) rfl ?_);refine gL_ (some 34) Try.func137 #[.agg #[.int .i64 ((rd_T88 l0_2 x28_2).f0),.int .i64 ((rd_T88 l0_2 x28_2).f1)]] (h:=?_);(with_reducible refine (impl_isGeared.calls ((rd_T88 l0_2 x28_2).f0) ((rd_T88 l0_2 x28_2).f1) true _ A23.out).mono ?_);rintro e w28 ⟨rfl,hb⟩;refine ⟨_,rfl,?_⟩;refine ev4 (Kd.R_below (Kd.R_ft HO_3.out BK405.out (by decide)) hb) (blk_below (g:=gb399) (o:=.cells #[.int .i64 a0_0,.int .i64 a0_1,.slice (some ad404) l0_2.length c0_2] 50 (0,0)) (fp BK399 rfl) hb) (blk_below (g:=gb405) (o:=.cells #[.int .i64 ((rd_T88 l0_2 x28_2).f0),.int .i64 ((rd_T88 l0_2 x28_2).f1)] 88 (0,0)) (fp BK405 rfl) hb) (bs HB hb) ?_;clear HO_3 BK399 BK405 HB;intro HO_3 BK399 BK405 HB;(try clear hb);have p407:0 ≤ (x28_2:Int):=of_decide_eq_true (by first | (with_reducible assumption) | assumption);have q407:x28_2 < (x3_2.length:Int):=of_decide_eq_true (by first | (with_reducible assumption) | assumption);obtain ⟨ad407,e407,hx407_0⟩:=Kd.at_int (Kd.R_reads' HO_3.out).2.2 x28_2 p407 q407;cases e407;replace p407:=eq_true p407;replace q407:=eq_true q407))
         go_meet
         case rel=>exact ⟨_,(decide ((rd x3_2 x28_2) ≥ 0)),(by first | rfl | (simp;done) | (simp [*];done)),H',⟨by have:=HK1.out;have:=HK2.out;first | omega | exact Nat.le_refl _⟩,⟨by (try simp only [hl3_1]);(try simp only [hl3_2]);exact Kd.R_mv HO_3.out⟩,⟨by (try simp only [hl3_1]);(try simp only [hl3_2]);exact km_ BK399⟩,⟨by (try simp only [hl3_1]);(try simp only [hl3_2]);exact km_ BK405⟩,⟨bm HB⟩⟩
        ·replace c24:=Bool.eq_false_iff.mpr c24;subst c24;have H1:(impl_groupNumbers.j2 k2 x3_2 x5_2 x28_2 l0_2 (l0_2.length:Int) x28_2 true a0_0 a0_1 l0_2) = some r:=by rw [if_neg (show ¬ (false = true) by decide)] at H;exact H
         clear H;have H:=H1;clear H1;have H':=Aside0.mk H;clear H;have hnb29:=NB405_399.out;have hnc29:=NB399_405.out;obtain ⟨hcz30_0,hcz30_1,hfz30_0,hfz30_1⟩:=bt2 BK405;go_wp2_with (first | ((with_reducible refine gate_callee (f:=137) rfl ?_);refine gL_ (some 34) Try.func137 #[.agg #[.int .i64 ((rd_T88 l0_2 x28_2).f0),.int .i64 ((rd_T88 l0_2 x28_2).f1)]] (h:=?_);(with_reducible refine (impl_isGeared.calls ((rd_T88 l0_2 x28_2).f0) ((rd_T88 l0_2 x28_2).f1) false _ A23.out).mono ?_);rintro e w31 ⟨rfl,hb⟩;refine ⟨_,rfl,?_⟩;refine ev4 (Kd.R_below (Kd.R_ft HO_3.out BK405.out (by decide)) hb) (blk_below (g:=gb399) (o:=.cells #[.int .i64 a0_0,.int .i64 a0_1,.slice (some ad404) l0_2.length c0_2] 50 (0,0)) (fp BK399 rfl) hb) (blk_below (g:=gb405) (o:=.cells #[.int .i64 ((rd_T88 l0_2 x28_2).f0),.int .i64 ((rd_T88 l0_2 x28_2).f1)] 88 (0,0)) (fp BK405 rfl) hb) (bs HB hb) ?_;clear HO_3 BK399 BK405 HB;intro HO_3 BK399 BK405 HB;(try clear hb)))
         go_meet
         case rel=>exact ⟨_,(true),(by first | rfl | (simp;done) | (simp [*];done)),H',⟨by have:=HK1.out;have:=HK2.out;first | omega | exact Nat.le_refl _⟩,⟨by (try simp only [hl3_1]);(try simp only [hl3_2]);exact Kd.R_mv HO_3.out⟩,⟨by (try simp only [hl3_1]);(try simp only [hl3_2]);exact km_ BK399⟩,⟨by (try simp only [hl3_1]);(try simp only [hl3_2]);exact km_ BK405⟩,⟨bm HB⟩⟩
       case rest =>
        clear HC19;(try clear c1);(try clear c2);(try clear c2b0);(try clear c2b1);(try clear p2);(try clear c3);(try clear c3b0);(try clear c3b1);(try clear p4);(try clear q4);(try clear hx4);(try clear c9);(try clear c9b0);(try clear c12);(try clear c16);(try clear c16b0);(try clear c17);(try clear c17b0);(try clear c18);(try clear c18b0);(try clear c21);(try clear hcz15_0 hcz15_1 hcz15_2 hfz15_0 hfz15_1 hfz15_2);(try clear hcz22_0 hcz22_1 hfz22_0 hfz22_1);(try clear hcz5_0 hcz5_1 hcz5_2 hfz5_0 hfz5_1 hfz5_2);(try clear hx404_0);(try clear hx404_1);(try clear p2);(try clear p404);(try clear q404);obtain ⟨kq,x42_18,rfl,HA,HJ18,HO_3,BK399,BK405,HB⟩:=hcut;cases kq with
        | zero=>exact absurd HA.out (by simp [impl_groupNumbers.j2])
        | succ kj18 =>
         have H:=HA.out;clear HA;simp only [impl_groupNumbers.j2] at H;by_cases c32:x42_18 = true
         ·subst c32;have H1:(impl_groupNumbers.l1 kj18 x3_2 x5_2 l0_2 (l0_2.length:Int) (wrap64 (x28_2 + 1)) a0_0 a0_1 l0_2) = some r:=by rw [if_pos rfl] at H;exact H
          clear H;have H:=H1;clear H1;have H':=Aside0.mk H;clear H;go_wp2;(try simp only [← hl3_2])
          go_roundg kj18
          case measure=>have:=HK1.out;have:=HK2.out;have:=HJ18.out;omega
          case rel=>exact ⟨(x3_2),(x5_2),(wrap64 (x28_2 + 1)),(by first | rfl | (simp;done) | (simp [*];done)),(by first | rfl | (simp;done) | (simp [*];done)),H',⟨by have:=HK1.out;have:=HK2.out;have:=HJ18.out;omega⟩,⟨by (try simp only [hl3_1]);(try simp only [hl3_2]);exact Kd.R_mv HO_3.out⟩,⟨by (try simp only [hl3_1]);(try simp only [hl3_2]);exact km_ BK399⟩,⟨bm HB⟩⟩
         ·replace c32:=Bool.eq_false_iff.mpr c32;subst c32;have H1:(if 0 ≤ x28_2 then (if x28_2 < (x3_2.length:Int) then (impl_groupNumbers.l2 kj18 (x3_2.set (x28_2:Int).toNat x5_2) x5_2 (([x28_2]:List Int)) l0_2 (l0_2.length:Int) x28_2 a0_0 a0_1 l0_2) else (none)) else (none)) = some r:=by rw [if_neg (show ¬ (false = true) by decide)] at H;exact H
          clear H;have H:=H1;clear H1;replace H:=np_ H;obtain ⟨c33,H⟩:=H;have c33b0:decide (0 ≤ x28_2) = true:=decide_eq_true c33;clear c33;replace H:=np_ H;obtain ⟨c34,H⟩:=H;have c34b0:decide (x28_2 < (x3_2.length:Int)) = true:=decide_eq_true c34;(try simp only [hl3_1] at c34b0)
          (try simp only [hl3_2] at c34b0)
          clear c34;obtain ⟨y408,hy408⟩:∃ y_:List Int,y_ = (x3_2.set (x28_2:Int).toNat x5_2):=⟨_,rfl⟩
          replace H:(impl_groupNumbers.l2 kj18 y408 x5_2 (([x28_2]:List Int)) l0_2 (l0_2.length:Int) x28_2 a0_0 a0_1 l0_2) = some r:=by first | (rw [hy408];with_reducible exact H) | (have H2_:=(Option.bind_some _ _).symm.trans H;rw [hy408];with_reducible exact H2_) | (have H2_:=(Option.bind_some _ _).symm.trans H;with_reducible exact H2_) | with_reducible exact H | (rw [hy408];exact H) | exact H
          have Ny408:=Aside0.mk hy408;clear hy408;obtain ⟨y409,hy409⟩:∃ y_:List Int,y_ = (([x28_2]:List Int)):=⟨_,rfl⟩
          replace H:(impl_groupNumbers.l2 kj18 y408 x5_2 y409 l0_2 (l0_2.length:Int) x28_2 a0_0 a0_1 l0_2) = some r:=by first | (rw [hy409];with_reducible exact H) | (have H2_:=(Option.bind_some _ _).symm.trans H;rw [hy409];with_reducible exact H2_) | (have H2_:=(Option.bind_some _ _).symm.trans H;with_reducible exact H2_) | with_reducible exact H | (rw [hy409];exact H) | exact H
          have Ny409:=Aside0.mk hy409;clear hy409;have H':=Aside0.mk H;clear H;have p35:0 ≤ (x28_2:Int):=of_decide_eq_true (by first | (with_reducible assumption) | assumption);have q35:(x28_2:Int) < ((x3_2.length:Int):Int):=of_decide_eq_true (by first | (with_reducible assumption) | assumption);obtain ⟨go35,co35,eo35,gb35,gl35,cl35,HG35⟩:=Kd.R_form HO_3.out (by omega);(first | cases eo35 | (injection eo35 with ea_ en_ ec_;(first | subst ea_ | (injection ea_ with ea_;subst ea_));subst ec_;clear en_))
          have GB35:=Aside0.mk gb35;have GG35:=Aside0.mk HG35;clear gb35 gl35 HG35;obtain ⟨hx35_0,hf35_0⟩:=Kd.R_celln 0 HO_3.out (x28_2:Int) p35 q35;replace p35:=eq_true p35;replace q35:=eq_true q35;have HP36:=Kd.R_putg HO_3.out (x28_2:Int) x5_2;go_wp2_with (first | ((with_reducible refine gate_store (t:=3) (p:=46) rfl ?_);refine store_event (t:=3) (p:=46) (v:=?vo_w37) (w1:=(wc.setCell ⟨go35,(x28_2:Int).toNat,none⟩ (.int .i64 x5_2))) ?hg ?ho ?hn ?hr ?_;(case ho=>rfl);(case hg=>rfl);(case hn=>rfl);(case hr=>first | (go_simp;done) | (go_simp;rfl));intro w37 hw;have hg:wc.grownBy w37 (some go35):=(by rw [hw];exact HP36.2);have hp_:Kd.R (Kd.int .i64) 3 w37 w.heap.size (fun _=>True) (.slice (some ⟨go35,0,none⟩) x3_2.length co8) y408:=(by rw [hw,Ny408.out];exact HP36.1);clear HP36;refine ev4 (hp_) (blk_grown (km_ BK399) hg (Kd.R_ne HO_3.out BK399.out (by decide))) (blk_grown (km_ BK405) hg (Kd.R_ne HO_3.out BK405.out (by decide))) ((by rw [hw];exact below_set (HB.out) GB35.out:Below w.heap.size w w37)) ?_;clear HO_3 BK399 BK405 HB;intro HO_3 BK399 BK405 HB;clear hg hw hp_) | ((with_reducible refine gate_dst (N:=48) rfl ?_);refine Kd.R_lit (Kd.int .i64) _ 3 ?hg (N:=48) ?hd (xs:=([x28_2]:List Int)) (inner:=[.int .i64 x28_2]) (ok:=fun _=>True) (okp:=fun _=>True) ?hr ?hp (fun _ hk=>hk) trivial (Below.refl _ _) (Nat.le_refl _) (by simp) ?_;(case hd=>rfl);(case hg=>rfl);(case hr=>first | (go_simp;done) | (go_simp;rfl));(case hp=>exact (Reps.one (show Kd.M (Kd.int .i64) _ _ _ x28_2 [.int .i64 x28_2] from rfl) (Reps.none _ _)));intro v410 w38 ho39 hb hg_ hnew_;clear hg_ hnew_;(first | rw [← Ny409.out] at ho39 | (simp only [Int.reduceToNat] at ho39;rw [← Ny409.out] at ho39));refine ev5 (Kd.R_elder' (Kd.R_mv HO_3.out) (Kd.R_base ho39) hb) (Kd.R_lower (Kd.R_new' ho39 (Kd.R_lt (Kd.R_mv HO_3.out))) (below_size (bm HB))) (kb BK399 hb) (kb BK405 hb) (bs HB hb) ?_;clear HO_3 BK399 BK405 HB;intro HO_3 HO411 BK399 BK405 HB;clear hb ho39))
          go_loopg [8] kj18 (fun kq v8 w'=>∃ (x3_4:List Int) (x8_4:List Int),Aside0 (impl_groupNumbers.l2 kq x3_4 x5_2 x8_4 l0_2 (l0_2.length:Int) x28_2 a0_0 a0_1 l0_2 = some r)∧Aside0 (kq ≤ kj18)∧Aside0 (Kd.R (Kd.int .i64) 3 w' w.heap.size (fun k_=>some k_ ≠ (v8:Value).ownBlock) (.slice (some ⟨go35,0,none⟩) x3_2.length co8) x3_4)∧Aside0 (Kd.Q (Kd.int .i64) 3 w' w.heap.size (fun k_=>some k_ ≠ ((.slice (some ⟨go35,0,none⟩) x3_2.length co8):Value).ownBlock) v8 x8_4)∧Aside0 (w'.heap[gb399]? = some (.cells #[.int .i64 a0_0,.int .i64 a0_1,(.slice (some ad404) l0_2.length c0_2)] 50 (0,0)))∧Aside0 (w'.heap[gb405]? = some (.cells #[.int .i64 ((rd_T88 l0_2 x28_2).f0),.int .i64 ((rd_T88 l0_2 x28_2).f1)] 88 (0,0)))∧Aside0 (Below w.heap.size w w'))
          case atStart=>exact ⟨(y408),(y409),H',⟨Nat.le_refl _⟩,⟨by (try simp only [hl3_1]);(try simp only [hl3_2]);exact Kd.R_mv (Kd.R_mono HO_3.out (fun _ hk=>hk.2))⟩,⟨Kd.Q_of_R (by (try simp only [hl3_1]);(try simp only [hl3_2]);exact Kd.R_mv (Kd.R_mono HO411.out (fun _ hk=>hk.2)))⟩,⟨by (try simp only [hl3_1]);(try simp only [hl3_2]);exact km_ BK399⟩,⟨by (try simp only [hl3_1]);(try simp only [hl3_2]);exact km_ BK405⟩,⟨bm HB⟩⟩
          case round =>
           clear H';(try clear c1);(try clear c2);(try clear c2b0);(try clear c2b1);(try clear p2);(try clear c3);(try clear c3b0);(try clear c3b1);(try clear p3);(try clear q3);(try clear hx3);(try clear hf3);(try clear p4);(try clear q4);(try clear hx4);(try clear c9);(try clear c9b0);(try clear c12);(try clear c16);(try clear c16b0);(try clear c17);(try clear c17b0);(try clear c18);(try clear c18b0);(try clear c21);(try clear c32);(try clear c33);(try clear c33b0);(try clear c34);(try clear c34b0);(try clear p35);(try clear q35);(try clear hx35);(try clear hf35);(try clear hcz15_0 hcz15_1 hcz15_2 hfz15_0 hfz15_1 hfz15_2);(try clear hcz22_0 hcz22_1 hfz22_0 hfz22_1);(try clear hcz5_0 hcz5_1 hcz5_2 hfz5_0 hfz5_1 hfz5_2);(try clear hx35_0);(try clear hx404_0);(try clear hx404_1);(try clear p2);(try clear p35);(try clear p4);(try clear p404);(try clear q35);(try clear q4);(try clear q404);obtain ⟨x3_4,x8_4,HA,HK4,HO_3,HO_8,BK399,BK405,HB⟩:=hrel;have hl3_4:=(Kd.R_reads' HO_3.out).1;rw [hl3_4] at HO_3;(try simp only [hl3_4])
           (try simp only [hl3_4] at BK399)
           (try simp only [hl3_4] at BK405)
           (try simp only [hl3_4] at HO_8)
           cases gk with
           | zero=>exact absurd HA.out (by simp [impl_groupNumbers.l2])
           | succ k4 =>
            have H:=HA.out;clear HA;simp only [impl_groupNumbers.l2] at H;by_cases c40:(x8_4.length:Int) > 0
            ·rw [if_pos c40] at H;have c40b0:decide (0 < (x8_4.length:Int)) = true:=decide_eq_true c40;have c40b1:decide (0 < x8_4.length) = true:=decide_eq_true (by omega);(try simp only [hl3_1] at c40b0 c40b1)
             (try simp only [hl3_2] at c40b0 c40b1)
             (try simp only [hl3_4] at c40b0 c40b1)
             clear c40;replace H:=np_ H;obtain ⟨c41,H⟩:=H;have c41b0:decide (0 < (x8_4.length:Int)) = true:=decide_eq_true c41;have c41b1:decide (0 < x8_4.length) = true:=decide_eq_true (by omega);(try simp only [hl3_1] at c41b0 c41b1)
             (try simp only [hl3_2] at c41b0 c41b1)
             (try simp only [hl3_4] at c41b0 c41b1)
             clear c41;replace H:=np_ H;obtain ⟨c42,H⟩:=H;have c42b0:=eq_true c42;have c42b1:decide (1 ≤ (x8_4.length:Int)) = true:=decide_eq_true c42;clear c42;obtain ⟨y413,hy413⟩:∃ y_:List Int,y_ = (x8_4.drop (1:Int).toNat):=⟨_,rfl⟩
             replace H:((impl_besideOf.f k4 a0_0 a0_1 l0_2 (rd x8_4 0)).bind fun t416=>(impl_groupNumbers.l3 k4 x3_4 x5_2 y413 l0_2 (l0_2.length:Int) x28_2 t416 (t416.length:Int) 0 a0_0 a0_1 l0_2)) = some r:=by first | (rw [hy413];with_reducible exact H) | (have H2_:=(Option.bind_some _ _).symm.trans H;rw [hy413];with_reducible exact H2_) | (have H2_:=(Option.bind_some _ _).symm.trans H;with_reducible exact H2_) | with_reducible exact H | (rw [hy413];exact H) | exact H
             have Ny413:=Aside0.mk hy413;clear hy413;replace H:=Option.bind_eq_some_iff.mp H;obtain ⟨t416,A430,H⟩:=H;(try dsimp only at H)
             have A43:=Aside0.mk A430;clear A430;have H':=Aside0.mk H;clear H;obtain ⟨Ao44,co44,eo44,_⟩:=Kd.Q_slice HO_8.out;subst eo44;have p412:0 ≤ (0:Int):=(by omega)
             have q412:0 < (x8_4.length:Int):=of_decide_eq_true (by first | (with_reducible assumption) | assumption);obtain ⟨ad412,e412,hx412_0⟩:=Kd.at_int (Kd.Q_reads' HO_8.out).2.2 0 p412 q412;cases e412;have qi412:(0 < x8_4.length) = True:=eq_true (by omega);(try rw [show ((0:Int)).toNat = 0 from rfl] at hx412_0)
             (try rw [Addr.add_zero'] at hx412_0)
             replace p412:=eq_true p412;replace q412:=eq_true q412;have q45:(1:Int) ≤ ((x8_4.length:Int):Int):=of_decide_eq_true (by first | (with_reducible assumption) | assumption);obtain ⟨i045,hi045,_,hsz45,_⟩:=info_parts info3;have hcut45:=cut_from (P:=Try.prog) 23 3 .i64 Try.underlying23 hi045 1 hsz45 (some ad412) x8_4.length co44 1 (by omega) q45;have hr45:=Kd.Q_drop (k:=(1:Int).toNat) HO_8.out (by omega);obtain ⟨A45,hA45⟩:∃ A1,A1 = (if co44 = (1:Int).toNat then (some ad412) else ((some ad412):Option Addr).map (·.add ((1:Int).toNat * 1))):=⟨_,rfl⟩
             obtain ⟨c45,hc45⟩:∃ c1,c1 = co44 - (1:Int).toNat:=⟨_,rfl⟩
             have hy45:y413.length = x8_4.length - (1:Int).toNat:=(by rw [Ny413.out,List.length_drop])
             rw [← Ny413.out] at hr45;rw [← hy45,← hA45,← hc45] at hcut45;replace hr45:Kd.Q (Kd.int .i64) 3 wr w.heap.size (fun k_=>some k_ ≠ (.slice (some ⟨go35,0,none⟩) x3_4.length co8:Value).ownBlock) (.slice A45 y413.length c45) y413:=(by rw [hA45,hc45,hy45];exact hr45)
             have HE45:Aside0 ((Value.slice A45 y413.length c45).ownBlock = (.slice (some ad412) x8_4.length co44:Value).ownBlock):=⟨by rw [hA45];split <;> (cases ((some ad412):Option Addr) <;> rfl)⟩
             clear hy45 hi045 hsz45 HO_8 hA45 hc45;have HO415:=Aside0.mk hr45;clear hr45;replace q45:=eq_true q45;have n_:=Aside0.mk (Kd.R_mono (ok':=fun k_=>some k_ ≠ (.slice A45 y413.length c45:Value).ownBlock) HO_3.out (fun k_ hk=>(by rw [HE45.out];exact hk)));clear HO_3;have HO_3:=n_;clear n_;have hnb46:=NB399_405.out;have hnc46:=NB405_399.out;obtain ⟨hcz47_0,hcz47_1,hcz47_2,hfz47_0,hfz47_1,hfz47_2⟩:=bt3 BK399;go_wp2_with (first | ((with_reducible refine gate_callee (f:=138) rfl ?_);refine gL_ (some 59) Try.func138 #[.agg #[.int .i64 a0_0,.int .i64 a0_1,.slice (some ad404) l0_2.length c0_2],.int .i64 (rd x8_4 0)] (h:=?_);(with_reducible refine (impl_besideOf.calls k4 a0_0 a0_1 _ _ l0_2 (rd x8_4 0) t416 _ (Kd.C_mv (Kd.C_below HR0_2.out HB.out)) HC0_2.out A43.out).mono ?_);rintro e w48 ⟨v417,rfl,ho0,hb⟩;refine ⟨_,rfl,?_⟩;refine ev6 (Kd.R_elder' (Kd.R_mv HO_3.out) (Kd.R_base ho0) hb) (Kd.Q_elder' (Kd.Q_mv HO415.out) (Kd.R_base ho0) hb) (Kd.R_lower (Kd.R_new' (Kd.R_new' ho0 (Kd.R_lt (Kd.R_mv HO_3.out))) (Kd.Q_lt (Kd.Q_mv HO415.out))) (below_size (bm HB))) (kb BK399 hb) (kb BK405 hb) (bs HB hb) ?_;clear HO_3 HO415 BK399 BK405 HB;intro HO_3 HO415 HO418 BK399 BK405 HB;(try clear hb);(try clear ho0);obtain ⟨Ao49,co49,eo49⟩:=Kd.R_slice HO418.out;subst eo49))
             go_loopg [8,61] k4 (fun kq v8 v61 w'=>∃ (x3_5:List Int) (x8_5:List Int) (x61_5:Int),v61 = .int .i64 x61_5∧Aside0 (impl_groupNumbers.l3 kq x3_5 x5_2 x8_5 l0_2 (l0_2.length:Int) x28_2 t416 (t416.length:Int) x61_5 a0_0 a0_1 l0_2 = some r)∧Aside0 (kq ≤ k4)∧Aside0 (Kd.R (Kd.int .i64) 3 w' w.heap.size (fun k_=>some k_ ≠ (v8:Value).ownBlock∧some k_ ≠ ((.slice Ao49 t416.length co49):Value).ownBlock) (.slice (some ⟨go35,0,none⟩) x3_4.length co8) x3_5)∧Aside0 (Kd.Q (Kd.int .i64) 3 w' w.heap.size (fun k_=>some k_ ≠ ((.slice (some ⟨go35,0,none⟩) x3_4.length co8):Value).ownBlock∧some k_ ≠ ((.slice Ao49 t416.length co49):Value).ownBlock) v8 x8_5)∧Aside0 (Kd.R (Kd.int .i64) 3 w' w.heap.size (fun k_=>some k_ ≠ ((.slice (some ⟨go35,0,none⟩) x3_4.length co8):Value).ownBlock∧some k_ ≠ (v8:Value).ownBlock) (.slice Ao49 t416.length co49) t416)∧Aside0 (w'.heap[gb399]? = some (.cells #[.int .i64 a0_0,.int .i64 a0_1,(.slice (some ad404) l0_2.length c0_2)] 50 (0,0)))∧Aside0 (w'.heap[gb405]? = some (.cells #[.int .i64 ((rd_T88 l0_2 x28_2).f0),.int .i64 ((rd_T88 l0_2 x28_2).f1)] 88 (0,0)))∧Aside0 (Below w.heap.size w w'))
             case atStart=>exact ⟨(x3_4),(y413),(0),(by first | rfl | (simp;done) | (simp [*];done)),H',⟨Nat.le_refl _⟩,⟨by (try simp only [hl3_1]);(try simp only [hl3_2]);(try simp only [hl3_4]);exact Kd.R_mv HO_3.out⟩,⟨by (try simp only [hl3_1]);(try simp only [hl3_2]);(try simp only [hl3_4]);exact Kd.Q_mv HO415.out⟩,⟨by (try simp only [hl3_1]);(try simp only [hl3_2]);(try simp only [hl3_4]);exact Kd.R_mv (Kd.R_mono HO418.out (fun _ hk=>⟨hk.1.2,hk.2⟩))⟩,⟨by (try simp only [hl3_1]);(try simp only [hl3_2]);(try simp only [hl3_4]);exact km_ BK399⟩,⟨by (try simp only [hl3_1]);(try simp only [hl3_2]);(try simp only [hl3_4]);exact km_ BK405⟩,⟨bm HB⟩⟩
             case round =>
              clear H';(try clear c1);(try clear c2);(try clear c2b0);(try clear c2b1);(try clear p2);(try clear c3);(try clear c3b0);(try clear c3b1);(try clear p3);(try clear q3);(try clear hx3);(try clear hf3);(try clear c4);(try clear p4);(try clear q4);(try clear hx4);(try clear qi4);(try clear c9);(try clear c9b0);(try clear c12);(try clear c13);(try clear c16);(try clear c16b0);(try clear c17);(try clear c17b0);(try clear c18);(try clear c18b0);(try clear c21);(try clear c32);(try clear c33);(try clear c33b0);(try clear c34);(try clear c34b0);(try clear p35);(try clear q35);(try clear hx35);(try clear hf35);(try clear c40);(try clear c40b0);(try clear c40b1);(try clear p40);(try clear q40);(try clear hx40);(try clear c41);(try clear c41b0);(try clear c41b1);(try clear p41);(try clear q41);(try clear hx41);(try clear qi41);(try clear c42);(try clear c42b0);(try clear c42b1);(try clear c45);(try clear q45);(try clear c46);(try clear hcz15_0 hcz15_1 hcz15_2 hfz15_0 hfz15_1 hfz15_2);(try clear hcz22_0 hcz22_1 hfz22_0 hfz22_1);(try clear hcz47_0 hcz47_1 hcz47_2 hfz47_0 hfz47_1 hfz47_2);(try clear hcz5_0 hcz5_1 hcz5_2 hfz5_0 hfz5_1 hfz5_2);(try clear hx35_0);(try clear hx404_0);(try clear hx404_1);(try clear hx412_0);(try clear p2);(try clear p3);(try clear p35);(try clear p4);(try clear p404);(try clear p412);(try clear q3);(try clear q35);(try clear q4);(try clear q404);(try clear q412);(try clear q45);obtain ⟨x3_5,x8_5,x61_5,rfl,HA,HK5,HO_3,HO_8,HO_59,BK399,BK405,HB⟩:=hrel;have hl3_5:=(Kd.R_reads' HO_3.out).1;rw [hl3_5] at HO_3;(try simp only [hl3_5])
              (try simp only [hl3_5] at BK399)
              (try simp only [hl3_5] at BK405)
              (try simp only [hl3_5] at HO_8)
              (try simp only [hl3_5] at HO_59)
              cases gk with
              | zero=>exact absurd HA.out (by simp [impl_groupNumbers.l3])
              | succ k5 =>
               have H:=HA.out;clear HA;simp only [impl_groupNumbers.l3] at H;by_cases c50:x61_5 < (t416.length:Int)
               ·rw [if_pos c50] at H;have c50b0:decide (x61_5 < (t416.length:Int)) = true:=decide_eq_true c50;(try simp only [hl3_1] at c50b0)
                (try simp only [hl3_2] at c50b0)
                (try simp only [hl3_4] at c50b0)
                (try simp only [hl3_5] at c50b0)
                clear c50;replace H:=np_ H;obtain ⟨c51,H⟩:=H;have c51b0:decide (0 ≤ x61_5) = true:=decide_eq_true c51;clear c51;replace H:=np_ H;obtain ⟨c52,H⟩:=H;have c52b0:decide (x61_5 < (t416.length:Int)) = true:=decide_eq_true c52;(try simp only [hl3_1] at c52b0)
                (try simp only [hl3_2] at c52b0)
                (try simp only [hl3_4] at c52b0)
                (try simp only [hl3_5] at c52b0)
                clear c52;replace H:=np_ H;obtain ⟨c53,H⟩:=H;have c53b0:decide (0 ≤ (rd t416 x61_5)) = true:=decide_eq_true c53;clear c53;replace H:=np_ H;obtain ⟨c54,H⟩:=H;have c54b0:decide ((rd t416 x61_5) < (l0_2.length:Int)) = true:=decide_eq_true c54;(try simp only [hl3_1] at c54b0)
                (try simp only [hl3_2] at c54b0)
                (try simp only [hl3_4] at c54b0)
                (try simp only [hl3_5] at c54b0)
                clear c54;replace H:=Option.bind_eq_some_iff.mp H;obtain ⟨t421,A550,H⟩:=H;(try dsimp only at H)
                have A55:=Aside0.mk A550;clear A550;by_cases c56:t421 = true
                ·subst c56;have H1:(if (rd t416 x61_5) < (x3_5.length:Int) then (if (rd x3_5 (rd t416 x61_5)) < 0 then (if x8_5.length < 17592186044416 then (impl_groupNumbers.l3 k5 (x3_5.set ((rd t416 x61_5):Int).toNat x5_2) x5_2 (x8_5 ++ [rd t416 x61_5]) l0_2 (l0_2.length:Int) x28_2 t416 (t416.length:Int) (wrap64 (x61_5 + 1)) a0_0 a0_1 l0_2) else (none)) else (impl_groupNumbers.l3 k5 x3_5 x5_2 x8_5 l0_2 (l0_2.length:Int) x28_2 t416 (t416.length:Int) (wrap64 (x61_5 + 1)) a0_0 a0_1 l0_2)) else (none)) = some r:=by rw [if_pos rfl] at H;exact H
                 clear H;have H:=H1;clear H1;replace H:=np_ H;obtain ⟨c57,H⟩:=H;have c57b0:decide ((rd t416 x61_5) < (x3_5.length:Int)) = true:=decide_eq_true c57;(try simp only [hl3_1] at c57b0)
                 (try simp only [hl3_2] at c57b0)
                 (try simp only [hl3_4] at c57b0)
                 (try simp only [hl3_5] at c57b0)
                 clear c57;by_cases c58:(rd x3_5 (rd t416 x61_5)) < 0
                 ·rw [if_pos c58] at H;have c58b0:decide ((rd x3_5 (rd t416 x61_5)) < 0) = true:=decide_eq_true c58;clear c58;obtain ⟨y423,hy423⟩:∃ y_:List Int,y_ = (x3_5.set ((rd t416 x61_5):Int).toNat x5_2):=⟨_,rfl⟩
                  replace H:(if x8_5.length < 17592186044416 then (impl_groupNumbers.l3 k5 y423 x5_2 (x8_5 ++ [rd t416 x61_5]) l0_2 (l0_2.length:Int) x28_2 t416 (t416.length:Int) (wrap64 (x61_5 + 1)) a0_0 a0_1 l0_2) else (none)) = some r:=by first | (rw [hy423];with_reducible exact H) | (have H2_:=(Option.bind_some _ _).symm.trans H;rw [hy423];with_reducible exact H2_) | (have H2_:=(Option.bind_some _ _).symm.trans H;with_reducible exact H2_) | with_reducible exact H | (rw [hy423];exact H) | exact H
                  have Ny423:=Aside0.mk hy423;clear hy423;replace H:=np_ H;obtain ⟨c60,H⟩:=H;have LMc60:=Aside0.mk c60;clear c60;obtain ⟨y424,hy424⟩:∃ y_:List Int,y_ = (x8_5 ++ [rd t416 x61_5]):=⟨_,rfl⟩
                  replace H:(impl_groupNumbers.l3 k5 y423 x5_2 y424 l0_2 (l0_2.length:Int) x28_2 t416 (t416.length:Int) (wrap64 (x61_5 + 1)) a0_0 a0_1 l0_2) = some r:=by first | (rw [hy424];with_reducible exact H) | (have H2_:=(Option.bind_some _ _).symm.trans H;rw [hy424];with_reducible exact H2_) | (have H2_:=(Option.bind_some _ _).symm.trans H;with_reducible exact H2_) | with_reducible exact H | (rw [hy424];exact H) | exact H
                  have Ny424:=Aside0.mk hy424;clear hy424;have H':=Aside0.mk H;clear H;have p419:0 ≤ (x61_5:Int):=of_decide_eq_true (by first | (with_reducible assumption) | assumption);have q419:x61_5 < (t416.length:Int):=of_decide_eq_true (by first | (with_reducible assumption) | assumption);obtain ⟨ad419,e419,hx419_0⟩:=Kd.at_int (Kd.R_reads' HO_59.out).2.2 x61_5 p419 q419;cases e419;replace p419:=eq_true p419;replace q419:=eq_true q419;have hnb61:=NB399_405.out;have hnc61:=NB405_399.out;obtain ⟨hcz62_0,hcz62_1,hcz62_2,hfz62_0,hfz62_1,hfz62_2⟩:=bt3 BK399;have p420:0 ≤ ((rd t416 x61_5):Int):=of_decide_eq_true (by first | (with_reducible assumption) | assumption);have q420:(rd t416 x61_5) < (l0_2.length:Int):=of_decide_eq_true (by first | (with_reducible assumption) | assumption);obtain ⟨ad420,e420,hx420_0,hx420_1⟩:=at_T88 HR0_2.out (rd t416 x61_5) p420 q420;obtain rfl:ad404 = ad420:=(by injection e420)
                  replace hx420_0:=(HB.out.cell (World.block_lt_of_cell? w _ hx420_0)).trans hx420_0;replace hx420_1:=(HB.out.cell (World.block_lt_of_cell? w _ hx420_1)).trans hx420_1;replace p420:=eq_true p420;replace q420:=eq_true q420;go_wp2_with (first | ((with_reducible refine gate_callee (f:=137) rfl ?_);refine gL_ (some 70) Try.func137 #[.agg #[.int .i64 ((rd_T88 l0_2 (rd t416 x61_5)).f0),.int .i64 ((rd_T88 l0_2 (rd t416 x61_5)).f1)]] (h:=?_);(with_reducible refine (impl_isGeared.calls ((rd_T88 l0_2 (rd t416 x61_5)).f0) ((rd_T88 l0_2 (rd t416 x61_5)).f1) true _ A55.out).mono ?_);rintro e w63 ⟨rfl,hb⟩;refine ⟨_,rfl,?_⟩;refine ev6 (Kd.R_below (Kd.R_mv HO_3.out) hb) (Kd.Q_below (Kd.Q_mv HO_8.out) hb) (Kd.R_below (Kd.R_mv HO_59.out) hb) (kb BK399 hb) (kb BK405 hb) (bs HB hb) ?_;clear HO_3 HO_8 HO_59 BK399 BK405 HB;intro HO_3 HO_8 HO_59 BK399 BK405 HB;(try clear hb);have p422:0 ≤ ((rd t416 x61_5):Int):=of_decide_eq_true (by first | (with_reducible assumption) | assumption);have q422:(rd t416 x61_5) < (x3_5.length:Int):=of_decide_eq_true (by first | (with_reducible assumption) | assumption);obtain ⟨ad422,e422,hx422_0⟩:=Kd.at_int (Kd.R_reads' HO_3.out).2.2 (rd t416 x61_5) p422 q422;obtain rfl:(⟨go35,0,none⟩:Addr) = ad422:=(by injection e422);(first | simp only [add_plain] at hx422_0 | simp only [add_at] at hx422_0 | simp only [Addr.add,Nat.zero_add] at hx422_0 | skip);replace p422:=eq_true p422;replace q422:=eq_true q422;have p59:0 ≤ ((rd t416 x61_5):Int):=of_decide_eq_true (by first | (with_reducible assumption) | assumption);have q59:((rd t416 x61_5):Int) < ((x3_5.length:Int):Int):=of_decide_eq_true (by first | (with_reducible assumption) | assumption);obtain ⟨hx59_0,hf59_0⟩:=Kd.R_celln 0 HO_3.out ((rd t416 x61_5):Int) p59 q59;replace p59:=eq_true p59;replace q59:=eq_true q59;obtain ⟨hy64_,hz64_⟩:=Kd.R_celln 0 HO_3.out ((rd t416 x61_5):Int) (of_decide_eq_true (by first | (with_reducible assumption) | assumption)) (of_decide_eq_true (by first | (with_reducible assumption) | assumption));have HP64:=Kd.R_putg HO_3.out ((rd t416 x61_5):Int) x5_2) | ((with_reducible refine gate_store (t:=3) (p:=81) rfl ?_);refine store_event (t:=3) (p:=81) (v:=?vo_w65) (w1:=(w63.setCell ⟨go35,((rd t416 x61_5):Int).toNat,none⟩ (.int .i64 x5_2))) ?hg ?ho ?hn ?hr ?_;(case ho=>rfl);(case hg=>rfl);(case hn=>rfl);(case hr=>first | (go_simp;done) | (go_simp;rfl));intro w65 hw;have hg:w63.grownBy w65 (some go35):=(by rw [hw];exact HP64.2);have hp_:Kd.R (Kd.int .i64) 3 w65 w.heap.size (fun k_=>some k_ ≠ (u8:Value).ownBlock∧some k_ ≠ (.slice (some ad419) t416.length co49:Value).ownBlock) (.slice (some ⟨go35,0,none⟩) x3_5.length co8) y423:=(by rw [hw,Ny423.out];exact HP64.1);clear HP64;refine ev6 (hp_) (Kd.Q_after (v:=(.slice (some ⟨go35,0,none⟩) x3_5.length co8)) (v1:=(.slice (some ⟨go35,0,none⟩) x3_5.length co8)) (ok:=(fun k_=>some k_ ≠ (.slice (some ad419) t416.length co49:Value).ownBlock)) (Kd.Q_mv (Kd.Q_mono HO_8.out (fun _ hk=>⟨hk.2,hk.1⟩))) hg (.inl rfl)) (Kd.R_after (v:=(.slice (some ⟨go35,0,none⟩) x3_5.length co8)) (v1:=(.slice (some ⟨go35,0,none⟩) x3_5.length co8)) (ok:=(fun k_=>some k_ ≠ (u8:Value).ownBlock)) (Kd.R_mv (Kd.R_mono HO_59.out (fun _ hk=>⟨hk.2,hk.1⟩))) hg (.inl rfl)) (blk_grown (km_ BK399) hg (Kd.R_ne HO_3.out BK399.out (by decide))) (blk_grown (km_ BK405) hg (Kd.R_ne HO_3.out BK405.out (by decide))) ((by rw [hw];exact below_set (HB.out) GB35.out:Below w.heap.size w w65)) ?_;clear HO_3 HO_8 HO_59 BK399 BK405 HB;intro HO_3 HO_8 HO_59 BK399 BK405 HB;clear hg hw hp_) | ((with_reducible refine gate_builtin (b:=.append) (xs:=#[.tmp 82,.tmp 84]) rfl ?_);at_builtin;refine Kd.Q_append (Kd.int .i64) (w0:=w) w.heap.size rfl (.tmp 82) (.tmp 84) 23 3 (.int .i64 0) 8 rfl Try.underlying23 info3 rfl (by decide) (by omega) u8 x8_5 (rd t416 x61_5) [.int .i64 (rd t416 x61_5)] (fun k_=>some k_ ≠ (.slice (some ⟨go35,0,none⟩) x3_5.length co8:Value).ownBlock∧some k_ ≠ (.slice (some ad419) t416.length co49:Value).ownBlock) (fun _=>False) rfl rfl ?aP (fun _ hk=>hk.elim) ?aF ?aO ?aB ?aS ?aL ?_;(case aP=>exact rfl);(case aB=>exact (bm HB));(case aF=>exact (fun k_ hk=>⟨Kd.fresh' (Kd.R_lt (Kd.R_mv HO_3.out)) k_ hk,Kd.fresh' (Kd.R_lt (Kd.R_mv HO_59.out)) k_ hk⟩));(case aO=>exact (Kd.Q_mv (Kd.Q_mono HO_8.out (fun _ hk=>⟨hk.2,hk.1⟩))));(case aS=>exact (below_size (bm HB)));(case aL=>have:=LMc60.out;omega);intro v425 w66 ho hb hg hat;rw [← Ny424.out] at ho;refine ev6 (Kd.R_after (ok:=(fun k_=>some k_ ≠ (.slice (some ad419) t416.length co49:Value).ownBlock)) (Kd.R_mv (Kd.R_mono HO_3.out (fun _ hk=>⟨hk.2,hk.1⟩))) hg hat) (Kd.R_after (ok:=(fun k_=>some k_ ≠ (.slice (some ⟨go35,0,none⟩) x3_5.length co8:Value).ownBlock)) (Kd.R_mv (Kd.R_mono HO_59.out (fun _ hk=>⟨hk.2,hk.1⟩))) hg hat) (blk_grown (km_ BK399) hg (Kd.Q_ne HO_8.out BK399.out (by decide))) (blk_grown (km_ BK405) hg (Kd.Q_ne HO_8.out BK405.out (by decide))) (hb) (ho) ?_;clear HO_3 HO_59 BK399 BK405 HB HO_8;intro HO_3 HO_59 BK399 BK405 HB HO426;clear ho hb hg hat))
                  (try simp only [← hl3_5])
                  go_roundg k5
                  case measure=>have:=HK1.out;have:=HK2.out;have:=HJ18.out;have:=HK4.out;have:=HK5.out;omega
                  case rel=>exact ⟨(y423),(y424),(wrap64 (x61_5 + 1)),(by first | rfl | (simp;done) | (simp [*];done)),H',⟨by have:=HK1.out;have:=HK2.out;have:=HJ18.out;have:=HK4.out;have:=HK5.out;omega⟩,⟨by (try simp only [hl3_1]);(try simp only [hl3_2]);(try simp only [hl3_4]);(try simp only [hl3_5]);exact Kd.R_mv (Kd.R_mono HO_3.out (fun _ hk=>⟨hk.2,hk.1⟩))⟩,⟨by (try simp only [hl3_1]);(try simp only [hl3_2]);(try simp only [hl3_4]);(try simp only [hl3_5]);exact Kd.Q_mv HO426.out⟩,⟨by (try simp only [hl3_1]);(try simp only [hl3_2]);(try simp only [hl3_4]);(try simp only [hl3_5]);exact Kd.R_mv HO_59.out⟩,⟨by (try simp only [hl3_1]);(try simp only [hl3_2]);(try simp only [hl3_4]);(try simp only [hl3_5]);exact km_ BK399⟩,⟨by (try simp only [hl3_1]);(try simp only [hl3_2]);(try simp only [hl3_4]);(try simp only [hl3_5]);exact km_ BK405⟩,⟨bm HB⟩⟩
                 ·rw [if_neg c58] at H;have c58b0:decide ((rd x3_5 (rd t416 x61_5)) < 0) = false:=decide_eq_false c58;clear c58;have H':=Aside0.mk H;clear H;have p419:0 ≤ (x61_5:Int):=of_decide_eq_true (by first | (with_reducible assumption) | assumption);have q419:x61_5 < (t416.length:Int):=of_decide_eq_true (by first | (with_reducible assumption) | assumption);obtain ⟨ad419,e419,hx419_0⟩:=Kd.at_int (Kd.R_reads' HO_59.out).2.2 x61_5 p419 q419;cases e419;replace p419:=eq_true p419;replace q419:=eq_true q419;have hnb67:=NB399_405.out;have hnc67:=NB405_399.out;obtain ⟨hcz68_0,hcz68_1,hcz68_2,hfz68_0,hfz68_1,hfz68_2⟩:=bt3 BK399;have p420:0 ≤ ((rd t416 x61_5):Int):=of_decide_eq_true (by first | (with_reducible assumption) | assumption);have q420:(rd t416 x61_5) < (l0_2.length:Int):=of_decide_eq_true (by first | (with_reducible assumption) | assumption);obtain ⟨ad420,e420,hx420_0,hx420_1⟩:=at_T88 HR0_2.out (rd t416 x61_5) p420 q420;obtain rfl:ad404 = ad420:=(by injection e420)
                  replace hx420_0:=(HB.out.cell (World.block_lt_of_cell? w _ hx420_0)).trans hx420_0;replace hx420_1:=(HB.out.cell (World.block_lt_of_cell? w _ hx420_1)).trans hx420_1;replace p420:=eq_true p420;replace q420:=eq_true q420;go_wp2_with (first | ((with_reducible refine gate_callee (f:=137) rfl ?_);refine gL_ (some 70) Try.func137 #[.agg #[.int .i64 ((rd_T88 l0_2 (rd t416 x61_5)).f0),.int .i64 ((rd_T88 l0_2 (rd t416 x61_5)).f1)]] (h:=?_);(with_reducible refine (impl_isGeared.calls ((rd_T88 l0_2 (rd t416 x61_5)).f0) ((rd_T88 l0_2 (rd t416 x61_5)).f1) true _ A55.out).mono ?_);rintro e w69 ⟨rfl,hb⟩;refine ⟨_,rfl,?_⟩;refine ev6 (Kd.R_below (Kd.R_mv HO_3.out) hb) (Kd.Q_below (Kd.Q_mv HO_8.out) hb) (Kd.R_below (Kd.R_mv HO_59.out) hb) (kb BK399 hb) (kb BK405 hb) (bs HB hb) ?_;clear HO_3 HO_8 HO_59 BK399 BK405 HB;intro HO_3 HO_8 HO_59 BK399 BK405 HB;(try clear hb);have p422:0 ≤ ((rd t416 x61_5):Int):=of_decide_eq_true (by first | (with_reducible assumption) | assumption);have q422:(rd t416 x61_5) < (x3_5.length:Int):=of_decide_eq_true (by first | (with_reducible assumption) | assumption);obtain ⟨ad422,e422,hx422_0⟩:=Kd.at_int (Kd.R_reads' HO_3.out).2.2 (rd t416 x61_5) p422 q422;obtain rfl:(⟨go35,0,none⟩:Addr) = ad422:=(by injection e422);(first | simp only [add_plain] at hx422_0 | simp only [add_at] at hx422_0 | simp only [Addr.add,Nat.zero_add] at hx422_0 | skip);replace p422:=eq_true p422;replace q422:=eq_true q422))
                  (try simp only [← hl3_5])
                  go_roundg k5
                  case measure=>have:=HK1.out;have:=HK2.out;have:=HJ18.out;have:=HK4.out;have:=HK5.out;omega
                  case rel=>exact ⟨(x3_5),(x8_5),(wrap64 (x61_5 + 1)),(by first | rfl | (simp;done) | (simp [*];done)),H',⟨by have:=HK1.out;have:=HK2.out;have:=HJ18.out;have:=HK4.out;have:=HK5.out;omega⟩,⟨by (try simp only [hl3_1]);(try simp only [hl3_2]);(try simp only [hl3_4]);(try simp only [hl3_5]);exact Kd.R_mv HO_3.out⟩,⟨by (try simp only [hl3_1]);(try simp only [hl3_2]);(try simp only [hl3_4]);(try simp only [hl3_5]);exact Kd.Q_mv HO_8.out⟩,⟨by (try simp only [hl3_1]);(try simp only [hl3_2]);(try simp only [hl3_4]);(try simp only [hl3_5]);exact Kd.R_mv HO_59.out⟩,⟨by (try simp only [hl3_1]);(try simp only [hl3_2]);(try simp only [hl3_4]);(try simp only [hl3_5]);exact km_ BK399⟩,⟨by (try simp only [hl3_1]);(try simp only [hl3_2]);(try simp only [hl3_4]);(try simp only [hl3_5]);exact km_ BK405⟩,⟨bm HB⟩⟩
                ·replace c56:=Bool.eq_false_iff.mpr c56;subst c56;have H1:(impl_groupNumbers.l3 k5 x3_5 x5_2 x8_5 l0_2 (l0_2.length:Int) x28_2 t416 (t416.length:Int) (wrap64 (x61_5 + 1)) a0_0 a0_1 l0_2) = some r:=by rw [if_neg (show ¬ (false = true) by decide)] at H;exact H
                 clear H;have H:=H1;clear H1;have H':=Aside0.mk H;clear H;have p419:0 ≤ (x61_5:Int):=of_decide_eq_true (by first | (with_reducible assumption) | assumption);have q419:x61_5 < (t416.length:Int):=of_decide_eq_true (by first | (with_reducible assumption) | assumption);obtain ⟨ad419,e419,hx419_0⟩:=Kd.at_int (Kd.R_reads' HO_59.out).2.2 x61_5 p419 q419;cases e419;replace p419:=eq_true p419;replace q419:=eq_true q419;have hnb70:=NB399_405.out;have hnc70:=NB405_399.out;obtain ⟨hcz71_0,hcz71_1,hcz71_2,hfz71_0,hfz71_1,hfz71_2⟩:=bt3 BK399;have p420:0 ≤ ((rd t416 x61_5):Int):=of_decide_eq_true (by first | (with_reducible assumption) | assumption);have q420:(rd t416 x61_5) < (l0_2.length:Int):=of_decide_eq_true (by first | (with_reducible assumption) | assumption);obtain ⟨ad420,e420,hx420_0,hx420_1⟩:=at_T88 HR0_2.out (rd t416 x61_5) p420 q420;obtain rfl:ad404 = ad420:=(by injection e420)
                 replace hx420_0:=(HB.out.cell (World.block_lt_of_cell? w _ hx420_0)).trans hx420_0;replace hx420_1:=(HB.out.cell (World.block_lt_of_cell? w _ hx420_1)).trans hx420_1;replace p420:=eq_true p420;replace q420:=eq_true q420;go_wp2_with (first | ((with_reducible refine gate_callee (f:=137) rfl ?_);refine gL_ (some 70) Try.func137 #[.agg #[.int .i64 ((rd_T88 l0_2 (rd t416 x61_5)).f0),.int .i64 ((rd_T88 l0_2 (rd t416 x61_5)).f1)]] (h:=?_);(with_reducible refine (impl_isGeared.calls ((rd_T88 l0_2 (rd t416 x61_5)).f0) ((rd_T88 l0_2 (rd t416 x61_5)).f1) false _ A55.out).mono ?_);rintro e w72 ⟨rfl,hb⟩;refine ⟨_,rfl,?_⟩;refine ev6 (Kd.R_below (Kd.R_mv HO_3.out) hb) (Kd.Q_below (Kd.Q_mv HO_8.out) hb) (Kd.R_below (Kd.R_mv HO_59.out) hb) (kb BK399 hb) (kb BK405 hb) (bs HB hb) ?_;clear HO_3 HO_8 HO_59 BK399 BK405 HB;intro HO_3 HO_8 HO_59 BK399 BK405 HB;(try clear hb)))
                 (try simp only [← hl3_5])
                 go_roundg k5
                 case measure=>have:=HK1.out;have:=HK2.out;have:=HJ18.out;have:=HK4.out;have:=HK5.out;omega
                 case rel=>exact ⟨(x3_5),(x8_5),(wrap64 (x61_5 + 1)),(by first | rfl | (simp;done) | (simp [*];done)),H',⟨by have:=HK1.out;have:=HK2.out;have:=HJ18.out;have:=HK4.out;have:=HK5.out;omega⟩,⟨by (try simp only [hl3_1]);(try simp only [hl3_2]);(try simp only [hl3_4]);(try simp only [hl3_5]);exact Kd.R_mv HO_3.out⟩,⟨by (try simp only [hl3_1]);(try simp only [hl3_2]);(try simp only [hl3_4]);(try simp only [hl3_5]);exact Kd.Q_mv HO_8.out⟩,⟨by (try simp only [hl3_1]);(try simp only [hl3_2]);(try simp only [hl3_4]);(try simp only [hl3_5]);exact Kd.R_mv HO_59.out⟩,⟨by (try simp only [hl3_1]);(try simp only [hl3_2]);(try simp only [hl3_4]);(try simp only [hl3_5]);exact km_ BK399⟩,⟨by (try simp only [hl3_1]);(try simp only [hl3_2]);(try simp only [hl3_4]);(try simp only [hl3_5]);exact km_ BK405⟩,⟨bm HB⟩⟩
               ·rw [if_neg c50] at H;have c50b0:decide (x61_5 < (t416.length:Int)) = false:=decide_eq_false c50;(try simp only [hl3_1] at c50b0)
                (try simp only [hl3_2] at c50b0)
                (try simp only [hl3_4] at c50b0)
                (try simp only [hl3_5] at c50b0)
                clear c50;have H':=Aside0.mk H;clear H;go_wp2;(try simp only [← hl3_4,← hl3_5])
                go_roundg k5
                case measure=>have:=HK1.out;have:=HK2.out;have:=HJ18.out;have:=HK4.out;have:=HK5.out;omega
                case rel=>exact ⟨(x3_5),(x8_5),H',⟨by have:=HK1.out;have:=HK2.out;have:=HJ18.out;have:=HK4.out;have:=HK5.out;omega⟩,⟨by (try simp only [hl3_1]);(try simp only [hl3_2]);(try simp only [hl3_4]);(try simp only [hl3_5]);exact Kd.R_mv (Kd.R_mono HO_3.out (fun _ hk=>hk.1))⟩,⟨by (try simp only [hl3_1]);(try simp only [hl3_2]);(try simp only [hl3_4]);(try simp only [hl3_5]);exact Kd.Q_mv (Kd.Q_mono HO_8.out (fun _ hk=>hk.1))⟩,⟨by (try simp only [hl3_1]);(try simp only [hl3_2]);(try simp only [hl3_4]);(try simp only [hl3_5]);exact km_ BK399⟩,⟨by (try simp only [hl3_1]);(try simp only [hl3_2]);(try simp only [hl3_4]);(try simp only [hl3_5]);exact km_ BK405⟩,⟨bm HB⟩⟩
            ·rw [if_neg c40] at H;have c40b0:decide (0 < (x8_4.length:Int)) = false:=decide_eq_false c40;have c40b1:decide (0 < x8_4.length) = false:=decide_eq_false (by omega);(try simp only [hl3_1] at c40b0 c40b1)
             (try simp only [hl3_2] at c40b0 c40b1)
             (try simp only [hl3_4] at c40b0 c40b1)
             clear c40;have H':=Aside0.mk H;clear H;obtain ⟨Ao73,co73,eo73,_⟩:=Kd.Q_slice HO_8.out;subst eo73;go_wp2;(try simp only [← hl3_2,← hl3_4])
             go_roundg k4
             case measure=>have:=HK1.out;have:=HK2.out;have:=HJ18.out;have:=HK4.out;omega
             case rel=>exact ⟨(x3_4),(wrap64 (x5_2 + 1)),(wrap64 (x28_2 + 1)),(by first | rfl | (simp;done) | (simp [*];done)),(by first | rfl | (simp;done) | (simp [*];done)),H',⟨by have:=HK1.out;have:=HK2.out;have:=HJ18.out;have:=HK4.out;omega⟩,⟨by (try simp only [hl3_1]);(try simp only [hl3_2]);(try simp only [hl3_4]);exact Kd.R_mv (Kd.R_mono (ok':=fun k_=>True) HO_3.out (fun _ hk=>trivial))⟩,⟨by (try simp only [hl3_1]);(try simp only [hl3_2]);(try simp only [hl3_4]);exact km_ BK399⟩,⟨bm HB⟩⟩
      ·rw [if_neg c16] at H;have c16b0:decide (x28_2 < (l0_2.length:Int)) = false:=decide_eq_false c16;(try simp only [hl3_1] at c16b0)
       (try simp only [hl3_2] at c16b0)
       clear c16;obtain rfl:=Option.some.inj H;go_wp2;go_ret;exact ⟨_,by first | rfl | (simp [e0_,e1_] <;> rfl) | (simp [*,e0_,e1_] <;> rfl),Kd.R_mv HO_3.out,bm HB⟩

/-! ### impl_GoesTo: function 139 -/
mutual
def impl_GoesTo.j0:Nat→Int→Bool→Int→Int→Option (Int × Bool)
 | 0,_,_,_,_=>none
 | k + 1,x1,x21,x428000,x428001=>if x21 = true then (some (0,false)) else (if x428000 = 1 then (some ((-1),true)) else (if x428000 = 2 then (some (1,true)) else (if x428000 = 3 then (impl_GoesTo.j1 k x1 x428000 (x428000 == 3) x428000 x428001) else (impl_GoesTo.j1 k x1 x428000 (x428000 == 6) x428000 x428001))))
def impl_GoesTo.j1:Nat→Int→Int→Bool→Int→Int→Option (Int × Bool)
 | 0,_,_,_,_,_=>none
 | k + 1,x1,x23,x28,x428000,x428001=>if x28 = true then (some (wrap64 ((wrap64 (2 * x428001)) - 1),true)) else (if x23 = 4 then (some (wrap64 (-x1),true)) else (some (0,true)))
end
def impl_GoesTo.f (k:Nat) (a0_0:Int) (a0_1:Int) (a1:Int):Option (Int × Bool):=(impl_IsCell.f a0_0 a0_1).bind fun t428=>(if t428 = true then (if a1 < (-1) then (impl_GoesTo.j0 k a1 true a0_0 a0_1) else (if a1 > 1 then (impl_GoesTo.j0 k a1 true a0_0 a0_1) else (impl_GoesTo.j0 k a1 (a0_0 == 5) a0_0 a0_1))) else (impl_GoesTo.j0 k a1 true a0_0 a0_1))
theorem impl_GoesTo.calls (k:Nat) (a0_0:Int) (a0_1:Int) (a1:Int) (r1:Int) (r2:Bool) (w:World) (h:impl_GoesTo.f k a0_0 a0_1 a1 = some (r1,r2)) :
  Calls Try.prog 139 #[.agg #[.int .i64 a0_0,.int .i64 a0_1],.int .i64 a1] w fun e w'=>e = .returned (.tuple #[.int .i64 r1,.bool r2])∧Below w.heap.size w w':=by
 have HB:=Aside0.mk (Below.refl w.heap.size w);have H:((impl_IsCell.f a0_0 a0_1).bind fun t428=>(if t428 = true then (if a1 < (-1) then (impl_GoesTo.j0 k a1 true a0_0 a0_1) else (if a1 > 1 then (impl_GoesTo.j0 k a1 true a0_0 a0_1) else (impl_GoesTo.j0 k a1 (a0_0 == 5) a0_0 a0_1))) else (impl_GoesTo.j0 k a1 true a0_0 a0_1))) = some (r1,r2):=h;clear h;have HC3:=Aside0.mk H;clear H;go_enter Try.func139,Try.ntmps139;go_upto_region 1 with (first | ((with_reducible refine gate_dst (N:=2) rfl ?_);refine box_event ?hg (N:=2) ?hd (cs:=#[.int .i64 a0_0,.int .i64 a0_1]) (t:=88) ?hr ?_;(case hd=>rfl);(case hg=>rfl);(case hr=>first | (go_simp;done) | (go_simp;rfl));intro gb427 hg w4 hbox hb;refine ev4 (bs HB hb) (hbox) (gle hg HB) (gle hg HB) ?_;clear HB;intro HB BK427 GW427 GE427;clear hb hbox hg))
 (try simp only [Act.put,za_,zb_,zc_])
 go_cut [21] (fun v21 wc=>∃ (kq:Nat) (x21_2:Bool),v21 = .bool x21_2∧Aside0 (impl_GoesTo.j0 kq a1 x21_2 a0_0 a0_1 = some (r1,r2))∧Aside0 (kq ≤ k)∧Aside0 (wc.heap[gb427]? = some (.cells #[.int .i64 a0_0,.int .i64 a0_1] 88 (0,0)))∧Aside0 (Below w.heap.size w wc))
 case first =>
  have H:=HC3.out;clear HC3;replace H:=Option.bind_eq_some_iff.mp H;obtain ⟨t428,A50,H⟩:=H;(try dsimp only at H)
  have A5:=Aside0.mk A50;clear A50;by_cases c6:t428 = true
  ·subst c6;have H1:(if a1 < (-1) then (impl_GoesTo.j0 k a1 true a0_0 a0_1) else (if a1 > 1 then (impl_GoesTo.j0 k a1 true a0_0 a0_1) else (impl_GoesTo.j0 k a1 (a0_0 == 5) a0_0 a0_1))) = some (r1,r2):=by rw [if_pos rfl] at H;exact H
   clear H;have H:=H1;clear H1;by_cases c7:a1 < (-1)
   ·rw [if_pos c7] at H;have c7b0:decide (a1 < (-1)) = true:=decide_eq_true c7;clear c7;(first | rw [c7b0] | (simp only [i64_w,i32_w];rw [c7b0]) | skip)
    have H':=Aside0.mk H;clear H;obtain ⟨hcz8_0,hcz8_1,hfz8_0,hfz8_1⟩:=bt2 BK427;go_wp2_with (first | ((with_reducible refine gate_callee (f:=98) rfl ?_);refine gL_ (some 7) Try.func98 #[.agg #[.int .i64 a0_0,.int .i64 a0_1]] (h:=?_);(with_reducible refine (impl_IsCell.calls a0_0 a0_1 true _ A5.out).mono ?_);rintro e w9 ⟨rfl,hb⟩;refine ⟨_,rfl,?_⟩;refine ev2 (kb BK427 hb) (bs HB hb) ?_;clear BK427 HB;intro BK427 HB;(try clear hb)))
    go_meet
    case rel=>exact ⟨_,(true),(by first | rfl | (simp;done) | (simp [*];done)),H',⟨by first | omega | exact Nat.le_refl _⟩,⟨km_ BK427⟩,⟨bm HB⟩⟩
   ·rw [if_neg c7] at H;have c7b0:decide (a1 < (-1)) = false:=decide_eq_false c7;clear c7;(first | rw [c7b0] | (simp only [i64_w,i32_w];rw [c7b0]) | skip)
    by_cases c10:a1 > 1
    ·rw [if_pos c10] at H;have c10b0:decide (1 < a1) = true:=decide_eq_true c10;clear c10;have H':=Aside0.mk H;clear H;obtain ⟨hcz11_0,hcz11_1,hfz11_0,hfz11_1⟩:=bt2 BK427;go_wp2_with (first | ((with_reducible refine gate_callee (f:=98) rfl ?_);refine gL_ (some 7) Try.func98 #[.agg #[.int .i64 a0_0,.int .i64 a0_1]] (h:=?_);(with_reducible refine (impl_IsCell.calls a0_0 a0_1 true _ A5.out).mono ?_);rintro e w12 ⟨rfl,hb⟩;refine ⟨_,rfl,?_⟩;refine ev2 (kb BK427 hb) (bs HB hb) ?_;clear BK427 HB;intro BK427 HB;(try clear hb)))
     go_meet
     case rel=>exact ⟨_,(true),(by first | rfl | (simp;done) | (simp [*];done)),H',⟨by first | omega | exact Nat.le_refl _⟩,⟨km_ BK427⟩,⟨bm HB⟩⟩
    ·rw [if_neg c10] at H;have c10b0:decide (1 < a1) = false:=decide_eq_false c10;clear c10;have H':=Aside0.mk H;clear H;obtain ⟨hcz13_0,hcz13_1,hfz13_0,hfz13_1⟩:=bt2 BK427;go_wp2_with (first | ((with_reducible refine gate_callee (f:=98) rfl ?_);refine gL_ (some 7) Try.func98 #[.agg #[.int .i64 a0_0,.int .i64 a0_1]] (h:=?_);(with_reducible refine (impl_IsCell.calls a0_0 a0_1 true _ A5.out).mono ?_);rintro e w14 ⟨rfl,hb⟩;refine ⟨_,rfl,?_⟩;refine ev2 (kb BK427 hb) (bs HB hb) ?_;clear BK427 HB;intro BK427 HB;(try clear hb);obtain ⟨hcz15_0,hcz15_1,hfz15_0,hfz15_1⟩:=bt2 BK427))
     go_meet
     case rel=>exact ⟨_,((a0_0 == 5)),(by first | rfl | (simp;done) | (simp [*];done)),H',⟨by first | omega | exact Nat.le_refl _⟩,⟨km_ BK427⟩,⟨bm HB⟩⟩
  ·replace c6:=Bool.eq_false_iff.mpr c6;subst c6;have H1:(impl_GoesTo.j0 k a1 true a0_0 a0_1) = some (r1,r2):=by rw [if_neg (show ¬ (false = true) by decide)] at H;exact H
   clear H;have H:=H1;clear H1;have H':=Aside0.mk H;clear H;obtain ⟨hcz16_0,hcz16_1,hfz16_0,hfz16_1⟩:=bt2 BK427;go_wp2_with (first | ((with_reducible refine gate_callee (f:=98) rfl ?_);refine gL_ (some 7) Try.func98 #[.agg #[.int .i64 a0_0,.int .i64 a0_1]] (h:=?_);(with_reducible refine (impl_IsCell.calls a0_0 a0_1 false _ A5.out).mono ?_);rintro e w17 ⟨rfl,hb⟩;refine ⟨_,rfl,?_⟩;refine ev2 (kb BK427 hb) (bs HB hb) ?_;clear BK427 HB;intro BK427 HB;(try clear hb)))
   go_meet
   case rel=>exact ⟨_,(true),(by first | rfl | (simp;done) | (simp [*];done)),H',⟨by first | omega | exact Nat.le_refl _⟩,⟨km_ BK427⟩,⟨bm HB⟩⟩
 case rest =>
  clear HC3;(try clear c1);(try clear c13);obtain ⟨kq,x21_2,rfl,HA,HJ2,BK427,HB⟩:=hcut;cases kq with
  | zero=>exact absurd HA.out (by simp [impl_GoesTo.j0])
  | succ kj2 =>
   have H:=HA.out;clear HA;simp only [impl_GoesTo.j0] at H;by_cases c18:x21_2 = true
   ·subst c18;have H1:(some (0,false)) = some (r1,r2):=by rw [if_pos rfl] at H;exact H
    clear H;have H:=H1;clear H1;simp only [Option.some.injEq,Prod.mk.injEq] at H;obtain ⟨rfl,rfl⟩:=H;go_wp2;go_ret2
    exact ⟨by first | rfl | (simp [e0_,e1_] <;> rfl) | (simp [*,e0_,e1_] <;> rfl),bm HB⟩
   ·replace c18:=Bool.eq_false_iff.mpr c18;subst c18;have H1:(if a0_0 = 1 then (some ((-1),true)) else (if a0_0 = 2 then (some (1,true)) else (if a0_0 = 3 then (impl_GoesTo.j1 kj2 a1 a0_0 (a0_0 == 3) a0_0 a0_1) else (impl_GoesTo.j1 kj2 a1 a0_0 (a0_0 == 6) a0_0 a0_1)))) = some (r1,r2):=by rw [if_neg (show ¬ (false = true) by decide)] at H;exact H
    clear H;have H:=H1;clear H1;by_cases c19:a0_0 = 1
    ·rw [if_pos c19] at H;have c19b0:(a0_0 == 1) = true:=beq_iff_eq.mpr c19;have c19b1:(a0_0 != 1) = false:=bne_eq_false_iff_eq.mpr c19;clear c19;simp only [Option.some.injEq,Prod.mk.injEq] at H;obtain ⟨rfl,rfl⟩:=H;obtain ⟨hcz20_0,hcz20_1,hfz20_0,hfz20_1⟩:=bt2 BK427;go_wp2;go_ret2
     exact ⟨by first | rfl | (simp [e0_,e1_] <;> rfl) | (simp [*,e0_,e1_] <;> rfl),bm HB⟩
    ·rw [if_neg c19] at H;have c19b0:(a0_0 == 1) = false:=beq_eq_false_iff_ne.mpr c19;have c19b1:(a0_0 != 1) = true:=bne_iff_ne.mpr c19;by_cases c21:a0_0 = 2
     ·rw [if_pos c21] at H;have c21b0:(a0_0 == 2) = true:=beq_iff_eq.mpr c21;have c21b1:(a0_0 != 2) = false:=bne_eq_false_iff_eq.mpr c21;clear c21;simp only [Option.some.injEq,Prod.mk.injEq] at H;obtain ⟨rfl,rfl⟩:=H;obtain ⟨hcz22_0,hcz22_1,hfz22_0,hfz22_1⟩:=bt2 BK427;go_wp2;go_ret2
      exact ⟨by first | rfl | (simp [e0_,e1_] <;> rfl) | (simp [*,e0_,e1_] <;> rfl),bm HB⟩
     ·rw [if_neg c21] at H;have c21b0:(a0_0 == 2) = false:=beq_eq_false_iff_ne.mpr c21;have c21b1:(a0_0 != 2) = true:=bne_iff_ne.mpr c21;have HC23:=Aside0.mk H;clear H;obtain ⟨hcz24_0,hcz24_1,hfz24_0,hfz24_1⟩:=bt2 BK427;go_upto_if 28 with (fail)
      go_cut [28] (fun v28 wc=>∃ (kq:Nat) (x28_22:Bool),v28 = .bool x28_22∧Aside0 (impl_GoesTo.j1 kq a1 a0_0 x28_22 a0_0 a0_1 = some (r1,r2))∧Aside0 (kq ≤ kj2)∧Aside0 (wc.heap[gb427]? = some (.cells #[.int .i64 a0_0,.int .i64 a0_1] 88 (0,0)))∧Aside0 (Below w.heap.size w wc))
      case first =>
       have H:=HC23.out;clear HC23;by_cases c25:a0_0 = 3
       ·rw [if_pos c25] at H;have c25b0:(a0_0 == 3) = true:=beq_iff_eq.mpr c25;have c25b1:(a0_0 != 3) = false:=bne_eq_false_iff_eq.mpr c25;clear c25;(first | rw [c25b0] | (simp only [i64_w,i32_w];rw [c25b0]) | skip)
        have H':=Aside0.mk H;clear H;go_wp2;go_meet
        case rel=>exact ⟨_,((a0_0 == 3)),(by first | rfl | (simp;done) | (simp [*];done)),H',⟨by have:=HJ2.out;first | omega | exact Nat.le_refl _⟩,⟨km_ BK427⟩,⟨bm HB⟩⟩
       ·rw [if_neg c25] at H;have c25b0:(a0_0 == 3) = false:=beq_eq_false_iff_ne.mpr c25;have c25b1:(a0_0 != 3) = true:=bne_iff_ne.mpr c25;(first | rw [c25b0] | (simp only [i64_w,i32_w];rw [c25b0]) | skip)
        have H':=Aside0.mk H;clear H;go_wp2;go_meet
        case rel=>exact ⟨_,((a0_0 == 6)),(by first | rfl | (simp;done) | (simp [*];done)),H',⟨by have:=HJ2.out;first | omega | exact Nat.le_refl _⟩,⟨km_ BK427⟩,⟨bm HB⟩⟩
      case rest =>
       clear HC23;(try clear c1);(try clear c2);(try clear c13);(try clear c18);(try clear c19);(try clear c19b0);(try clear c19b1);(try clear c21);(try clear c21b0);(try clear c21b1);(try clear hcz24_0 hcz24_1 hfz24_0 hfz24_1);obtain ⟨kq,x28_22,rfl,HA,HJ22,BK427,HB⟩:=hcut;cases kq with
       | zero=>exact absurd HA.out (by simp [impl_GoesTo.j1])
       | succ kj22 =>
        have H:=HA.out;clear HA;simp only [impl_GoesTo.j1] at H;by_cases c26:x28_22 = true
        ·subst c26;have H1:(some (wrap64 ((wrap64 (2 * a0_1)) - 1),true)) = some (r1,r2):=by rw [if_pos rfl] at H;exact H
         clear H;have H:=H1;clear H1;simp only [Option.some.injEq,Prod.mk.injEq] at H;obtain ⟨rfl,rfl⟩:=H;obtain ⟨hcz27_0,hcz27_1,hfz27_0,hfz27_1⟩:=bt2 BK427;go_wp2;go_ret2
         exact ⟨by first | rfl | (simp [e0_,e1_] <;> rfl) | (simp [*,e0_,e1_] <;> rfl),bm HB⟩
        ·replace c26:=Bool.eq_false_iff.mpr c26;subst c26;have H1:(if a0_0 = 4 then (some (wrap64 (-a1),true)) else (some (0,true))) = some (r1,r2):=by rw [if_neg (show ¬ (false = true) by decide)] at H;exact H
         clear H;have H:=H1;clear H1;by_cases c28:a0_0 = 4
         ·rw [if_pos c28] at H;have c28b0:(a0_0 == 4) = true:=beq_iff_eq.mpr c28;have c28b1:(a0_0 != 4) = false:=bne_eq_false_iff_eq.mpr c28;clear c28;simp only [Option.some.injEq,Prod.mk.injEq] at H;obtain ⟨rfl,rfl⟩:=H;go_wp2;go_ret2
          exact ⟨by first | rfl | (simp [e0_,e1_] <;> rfl) | (simp [*,e0_,e1_] <;> rfl),bm HB⟩
         ·rw [if_neg c28] at H;have c28b0:(a0_0 == 4) = false:=beq_eq_false_iff_ne.mpr c28;have c28b1:(a0_0 != 4) = true:=bne_iff_ne.mpr c28;simp only [Option.some.injEq,Prod.mk.injEq] at H;obtain ⟨rfl,rfl⟩:=H;go_wp2;go_ret2
          exact ⟨by first | rfl | (simp [e0_,e1_] <;> rfl) | (simp [*,e0_,e1_] <;> rfl),bm HB⟩

/-! ### impl_turnGroup: function 140 -/
def impl_turnGroup.l0:Nat→List Int→Int→Int→Int→Int→Int→List (S88)→Option ((List (S88)))
  | 0,_,_,_,_,_,_,_=>none
  | k + 1,x1,x2,x9,x10,x430000,x430001,x430002=>if x10 < x9 then (if 0 ≤ x10 then (if x10 < (x430002.length:Int) then (if ((rd_T88 x430002 x10).f0) = 6 then (if x10 < (x1.length:Int) then (if 0 ≤ x2 then (if x2 < (x1.length:Int) then (if (rd x1 x10) = (rd x1 x2) then (impl_turnGroup.l0 k x1 x2 x9 (wrap64 (x10 + 1)) x430000 x430001 (x430002.set (x10:Int).toNat (⟨(rd_T88 x430002 x10).f0,wrap64 (1 - ((rd_T88 x430002 x10).f1))⟩:S88))) else (impl_turnGroup.l0 k x1 x2 x9 (wrap64 (x10 + 1)) x430000 x430001 x430002)) else (none)) else (none)) else (none)) else (impl_turnGroup.l0 k x1 x2 x9 (wrap64 (x10 + 1)) x430000 x430001 x430002)) else (none)) else (none)) else (some x430002)
def impl_turnGroup.f (k:Nat) (a0_0:Int) (a0_1:Int) (l0_2:List (S88)) (l1:List Int) (a2:Int):Option ((List (S88))):=impl_turnGroup.l0 k l1 a2 (l0_2.length:Int) 0 a0_0 a0_1 l0_2
theorem impl_turnGroup.calls (k:Nat) (a0_0:Int) (a0_1:Int) (P0_2_:Nat→Prop) (u9000_:Value) (l0_2:List (S88)) (A1:Option Addr) (c1:Nat) (l1:List Int) (a2:Int) (r:List (S88)) (w0 w:World) (hB:Below w0.heap.size w0 w) (ho0_2:Kd.R k88 88 w w0.heap.size P0_2_ u9000_ l0_2) (hr1:∀ W_,Kept w W_ (fun k_=>P0_2_ k_)→Kd.C (Kd.int .i64) W_ A1 l1.length l1) (hc1:l1.length ≤ c1) (h:impl_turnGroup.f k a0_0 a0_1 l0_2 l1 a2 = some r) :
    Calls Try.prog 140 #[.agg #[.int .i64 a0_0,.int .i64 a0_1,u9000_],.slice A1 l1.length c1,.int .i64 a2] w fun e w'=>e = .returned (.tuple #[])∧Kd.R k88 88 w' w0.heap.size (fun k_=>(P0_2_ k_∨w.heap.size ≤ k_)) u9000_ r∧Below w0.heap.size w0 w'∧Kept w w' (fun k_=>P0_2_ k_):=by
 obtain ⟨Al0_2,cl0_2,rfl⟩:=Kd.R_slice ho0_2
 have S:=St.own1 at88 hB ho0_2 (dk (atI .i64) hr1 hc1 dn)
 clear hB ho0_2 hr1 hc1
 have F:=S.fc
 have H:=h;clear h;unfold impl_turnGroup.f at H
 go_enter Try.func140,Try.ntmps140
 go_wp2_with (first | ((with_reducible refine gd 3 rfl (L ?_));refine bo 3 (.agg #[_,_,_]) S ?_;clear S F;intro gb429 W S;have F:=S.fc) | ((with_reducible refine gs (t:=3) rfl (L ?_));(first | refine sb (.int _ _) S sz3 ?_ | refine ro (.int _ _) S sz3 ?_ (ho:=rfl) (hx:=rfl) (hy:=rfl));clear S F;intro W S;(try simp only [gd88] at S);have F:=S.fc))
 go_loopg [10] k (fun kq v10 w'=>∃ (x10_1:Int) (x430002_1:List (S88)),v10 = .int .i64 x10_1∧impl_turnGroup.l0 kq l1 a2 (l0_2.length:Int) x10_1 a0_0 a0_1 x430002_1 = some r∧kq ≤ k∧St w0 w P0_2_ [bor (atI .i64) A1 c1 l1] w'  [box gb429 50 [.int .i64 a0_0,.int .i64 a0_1,.slice Al0_2 l0_2.length cl0_2],row at88 88 Al0_2 l0_2.length cl0_2 x430002_1])
 case atStart=>exact ⟨0,l0_2,(by first | rfl | (simp;done) | (simp [*];done) | (rw [w6_ (by omega) (by omega)])),(by first | exact H | (simp only [F];exact H)),Nat.le_refl _,S⟩
 case round =>
  clear H S F
  obtain ⟨x10_1,x430002_1,rfl,HA,HK1,S⟩:=hrel
  have F:=S.fc
  cases gk with
  | zero=>exact absurd HA (by simp [impl_turnGroup.l0])
  | succ k1 =>
   have H:=HA;clear HA;simp only [impl_turnGroup.l0,F] at H
   replace H:=sp_ H;rcases H with ⟨c7,H⟩ | ⟨c7,H⟩
   · skip
     replace H:=np_ H;obtain ⟨c8,H⟩:=H;(try simp only [F] at c8)
     replace H:=np_ H;obtain ⟨c9,H⟩:=H;(try simp only [F] at c9)
     replace H:=sp_ H;rcases H with ⟨c10,H⟩ | ⟨c10,H⟩
     · skip
       replace c10:=ceq c10
       replace H:=np_ H;obtain ⟨c11,H⟩:=H;(try simp only [F] at c11)
       replace H:=np_ H;obtain ⟨c12,H⟩:=H;(try simp only [F] at c12)
       replace H:=np_ H;obtain ⟨c13,H⟩:=H;(try simp only [F] at c13)
       replace H:=sp_ H;rcases H with ⟨c14,H⟩ | ⟨c14,H⟩
       · skip
         replace c14:=ceq c14
         (first | (with_reducible replace H:=ob_ H;obtain ⟨y434,hy434,H⟩:=H;(try dsimp only at H)) | (obtain ⟨y434,hy434⟩:∃ y_:List (S88),y_ = (x430002_1.set (x10_1:Int).toNat (⟨(rd_T88 x430002_1 x10_1).f0,wrap64 (1 - ((rd_T88 x430002_1 x10_1).f1))⟩:S88)):=⟨_,rfl⟩;(try rw [← hy434] at H);(try simp only [Option.bind_some] at H)));have Ny434:=Aside0.mk hy434;clear hy434
         go_wp2_with (first | ((with_reducible refine gs (t:=3) rfl (L ?_));(first | refine sb (.int _ _) S sz3 ?_ | refine ro (.int _ _) S sz3 ?_ (ho:=rfl) (hx:=rfl) (hy:=rfl));clear S F;intro W S;(try simp only [gd88] at S);(try rw [← Ny434.out] at S);have F:=S.fc))
         refine rq S [(0,0),(0,2),(1,1),(0,3),(0,4),(1,5),(0,6),(0,7),(0,8),(0,9),(0,10),(0,12),(0,13),(0,14),(1,11),(1,15),(0,16),(0,17)] [] (h:=?_);clear S F;intro W S;have S0:=S;have F:=S.fc
         repeat (first | (refine q0 (h:=?_)) | (refine q1 S0 (h:=?_)) | (refine q0n (h:=?_)) | (refine q1n S0 (h:=?_)))
         refine oz ?_
         try clear S0
         go_wp2_with (first | ((with_reducible refine gs (t:=3) rfl (L ?_));(first | refine sb (.int _ _) S sz3 ?_ | refine ro (.int _ _) S sz3 ?_ (ho:=rfl) (hx:=rfl) (hy:=rfl));clear S F;intro W S;(try simp only [gd88] at S);(try rw [← Ny434.out] at S);have F:=S.fc))
         refine rq S [(0,0),(0,2),(0,3),(0,5),(1,1),(1,4),(0,6),(0,7),(1,8),(0,9),(0,10),(0,11),(3,12)] [12] (h:=?_);clear S F;intro W S;have S0:=S;have F:=S.fc
         repeat (first | (refine q0 (h:=?_)) | (refine q1 S0 (h:=?_)) | (refine q0n (h:=?_)) | (refine q1n S0 (h:=?_)))
         refine lk3 (by rfl) (by exact (Eq.refl true)) ?_;(first | refine sb (.int _ _) S sz3 ?_ | refine ro (.int _ _) S sz3 ?_ (ho:=rfl) (hx:=rfl) (hy:=rfl));clear S F;intro W S;(try simp only [gd88] at S);(try rw [← Ny434.out] at S);have F:=S.fc
         refine oz ?_
         try clear S0
         go_wp2_with (first | ((with_reducible refine gs (t:=3) rfl (L ?_));(first | refine sb (.int _ _) S sz3 ?_ | refine ro (.int _ _) S sz3 ?_ (ho:=rfl) (hx:=rfl) (hy:=rfl));clear S F;intro W S;(try simp only [gd88] at S);(try rw [← Ny434.out] at S);have F:=S.fc))
         go_roundg k1
         case measure=>omega
         case rel=>exact ⟨(wrap64 (x10_1 + 1)),y434,(by first | rfl | (simp;done) | (simp [*];done) | (rw [w6_ (by omega) (by omega)])),(by first | exact H | (simp only [F];exact H)),(by first | omega | exact Nat.le_refl _),S⟩
       · skip
         replace c14:=cne c14
         go_wp2_with (first | ((with_reducible refine gs (t:=3) rfl (L ?_));(first | refine sb (.int _ _) S sz3 ?_ | refine ro (.int _ _) S sz3 ?_ (ho:=rfl) (hx:=rfl) (hy:=rfl));clear S F;intro W S;(try simp only [gd88] at S);have F:=S.fc))
         refine rq S [(0,0),(0,2),(1,1),(0,3),(0,4),(1,5),(0,6),(0,7),(0,8),(0,9),(0,10),(0,12),(0,13),(0,14),(1,11),(1,15),(0,16),(0,17)] [] (h:=?_);clear S F;intro W S;have S0:=S;have F:=S.fc
         repeat (first | (refine q0 (h:=?_)) | (refine q1 S0 (h:=?_)) | (refine q0n (h:=?_)) | (refine q1n S0 (h:=?_)))
         refine oz ?_
         try clear S0
         go_wp2_with (first | ((with_reducible refine gs (t:=3) rfl (L ?_));(first | refine sb (.int _ _) S sz3 ?_ | refine ro (.int _ _) S sz3 ?_ (ho:=rfl) (hx:=rfl) (hy:=rfl));clear S F;intro W S;(try simp only [gd88] at S);have F:=S.fc))
         go_roundg k1
         case measure=>omega
         case rel=>exact ⟨(wrap64 (x10_1 + 1)),x430002_1,(by first | rfl | (simp;done) | (simp [*];done) | (rw [w6_ (by omega) (by omega)])),(by first | exact H | (simp only [F];exact H)),(by first | omega | exact Nat.le_refl _),S⟩
     · skip
       replace c10:=cne c10
       go_wp2_with (first | ((with_reducible refine gs (t:=3) rfl (L ?_));(first | refine sb (.int _ _) S sz3 ?_ | refine ro (.int _ _) S sz3 ?_ (ho:=rfl) (hx:=rfl) (hy:=rfl));clear S F;intro W S;(try simp only [gd88] at S);have F:=S.fc))
       refine rq S [(0,0),(0,2),(1,1),(0,3),(0,4),(1,5),(0,6),(0,7),(0,8),(0,9),(0,10),(0,11),(0,12),(0,13),(0,14),(0,15),(0,16),(0,17)] [] (h:=?_);clear S F;intro W S;have S0:=S;have F:=S.fc
       repeat (first | (refine q0 (h:=?_)) | (refine q1 S0 (h:=?_)) | (refine q0n (h:=?_)) | (refine q1n S0 (h:=?_)))
       refine oz ?_
       try clear S0
       go_wp2_with (first | ((with_reducible refine gs (t:=3) rfl (L ?_));(first | refine sb (.int _ _) S sz3 ?_ | refine ro (.int _ _) S sz3 ?_ (ho:=rfl) (hx:=rfl) (hy:=rfl));clear S F;intro W S;(try simp only [gd88] at S);have F:=S.fc))
       go_roundg k1
       case measure=>omega
       case rel=>exact ⟨(wrap64 (x10_1 + 1)),x430002_1,(by first | rfl | (simp;done) | (simp [*];done) | (rw [w6_ (by omega) (by omega)])),(by first | exact H | (simp only [F];exact H)),(by first | omega | exact Nat.le_refl _),S⟩
   · skip
     obtain rfl:=Option.some.inj H
     go_wp2_with (first | ((with_reducible refine gs (t:=3) rfl (L ?_));(first | refine sb (.int _ _) S sz3 ?_ | refine ro (.int _ _) S sz3 ?_ (ho:=rfl) (hx:=rfl) (hy:=rfl));clear S F;intro W S;(try simp only [gd88] at S);have F:=S.fc))
     first | go_end0 | ((try simp only [Exit.inBlock,Exit.then]);refine bodyPost_ret (results_none rfl _ _ _) rfl ?_)
     exact ⟨(by first | rfl | (simp [e0_,e1_] <;> rfl) | (simp [*,e0_,e1_] <;> rfl)),(by first | exact S.rp | exact Kd.R_nil _ _ _ _ _),S.below,S.kept⟩
end Go.Proofs.Ytipaimgpmgbkiaa.F
