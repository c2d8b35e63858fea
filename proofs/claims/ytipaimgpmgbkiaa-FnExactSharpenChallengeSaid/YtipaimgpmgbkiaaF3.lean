-- Printed by a program; checked here.
import Derived.Test.YtipaimgpmgbkiaaF0
import Derived.Test.YtipaimgpmgbkiaaF1
import Derived.Test.YtipaimgpmgbkiaaF2
namespace Go.Proofs.Ytipaimgpmgbkiaa.F
open Go.RowKit Go.Proofs.YtipaimgpmgbkiaaV.PrintWords Go.Proofs.YtipaimgpmgbkiaaV.PrintLast Go.Proofs.YtipaimgpmgbkiaaV.PrintMore Go.Proofs.YtipaimgpmgbkiaaV.Sl Go.Proofs.YtipaimgpmgbkiaaV.Rf
attribute [local go_sem] max2_int min2_int max_two min_two max_three min_three max_four min_four ia_opt it_opt
attribute [local go_sem] Try.underlying23 Try.underlying25 Try.underlying29 Try.underlying31 Try.underlying42 Try.underlying50 Try.underlying85 Try.underlying88 Try.underlying89 Try.underlying106 Try.underlying122 Try.underlying127
set_option maxHeartbeats 8000000
set_option maxRecDepth 100000
set_option linter.unusedVariables false
set_option linter.unusedSimpArgs false

attribute [local go_sem high] eqA88
/-! ### spec_flGo: function 135 -/
def spec_flGo.l0:Nat→List Int→Int→List (List Int)→Int→Int→Int→Int→List (S88)→Int→Int→List (S88)→Option (Int × Int × Int × Int × Int × (List (S88)) × (List (List Int)))
  | 0,_,_,_,_,_,_,_,_,_,_,_=>none
  | k + 1,x1,x2,x10,x11,x12,x219000,x219001,x219002,x227000,x227001,x227002=>if x12 < x219000 then (if x10.length < 5864062014805 then ((some (x10 ++ [(([x12,x2]:List Int))]:List (List Int))).bind fun y230=>((spec_boAt.f x227000 x227001 x227002 x12 x2).bind fun bt233=>(if bt233.1 = 5 then (some (2,x12,x2,x227000,x227001,x227002,y230)) else ((spec_paGoes.f k bt233.1 bt233.2 x11).bind fun t236=>((spec_flPass.f k x227000 x227001 x227002 x1 (wrap64 ((wrap64 (x12 * x219001)) + x2))).bind fun t237=>((spec_l1In.f (wrap64 (x2 + t236)) 0 (wrap64 (x219001 - 1))).bind fun t238=>(if t238 = true then (spec_flGo.l0 k x1 (wrap64 (x2 + t236)) y230 (wrap64 (-t236)) (wrap64 (x12 + 1)) x219000 x219001 x219002 x227000 x227001 t237) else (some (3,x12,wrap64 (x2 + t236),x227000,x227001,t237,y230))))))))) else (none)) else (some (1,x219000,x2,x227000,x227001,x227002,x10))
def spec_flGo.f (k:Nat) (a0_0:Int) (a0_1:Int) (l0_2:List (S88)) (l1:List Int) (a2:Int):Option (Int × Int × Int × Int × Int × (List (S88)) × (List (List Int))):=(spec_boOwn.f a0_0 a0_1 l0_2).bind fun bt221=>(spec_flGo.l0 k l1 a2 ([]:List (List Int)) 0 0 a0_0 a0_1 l0_2 bt221.1 bt221.2.1 bt221.2.2)
theorem spec_flGo.calls (k:Nat) (a0_0:Int) (a0_1:Int) (A0_2:Option Addr) (c0_2:Nat) (l0_2:List (S88)) (A1:Option Addr) (c1:Nat) (l1:List Int) (a2:Int) (r1:Int) (r2:Int) (r3:Int) (r4:Int) (r5:Int) (r6:List (S88)) (r7:List (List Int)) (w:World) (hr0_2:Kd.C k88 w A0_2 l0_2.length l0_2) (hc0_2:l0_2.length ≤ c0_2) (hr1:Kd.C (Kd.int .i64) w A1 l1.length l1) (hc1:l1.length ≤ c1) (h:spec_flGo.f k a0_0 a0_1 l0_2 l1 a2 = some (r1,r2,r3,r4,r5,r6,r7)) :
    Calls Try.prog 135 #[.agg #[.int .i64 a0_0,.int .i64 a0_1,.slice A0_2 l0_2.length c0_2],.slice A1 l1.length c1,.int .i64 a2] w fun e w'=>∃ v5_ v6_:Value,e = .returned (.tuple #[.agg #[.int .i64 r1,.int .i64 r2,.int .i64 r3],.agg #[.int .i64 r4,.int .i64 r5,v5_],v6_])∧Kd.R k88 88 w' w.heap.size (fun _=>True) v5_ r6∧Kd.R (Kd.slice 3 (Kd.int .i64)) 23 w' w.heap.size (fun _=>True) v6_ r7∧Below w.heap.size w w':=by
 have S:=St.init (w:=w) (dc k88_heap at88 hr0_2 hc0_2 (dc (Kd.heap_int .i64) (atI .i64) hr1 hc1 dn))
 clear hr0_2 hc0_2 hr1 hc1
 have F:=S.fc
 have H:=h;clear h;unfold spec_flGo.f at H
 replace H:=Option.bind_eq_some_iff.mp H;obtain ⟨⟨t221,t222,t223⟩,A4,H⟩:=H;(try dsimp only at H)
 go_enter Try.func135,Try.ntmps135
 go_wp2_with (first | ((with_reducible refine gd 3 rfl (L ?_));refine bo 3 (.agg #[_,_,_]) S ?_;clear S F;intro gb218 W S;have F:=S.fc) | ((with_reducible refine gd 6 rfl (L ?_));refine al 6 S zi127 ?_;clear S F;intro gb219 W S;have F:=S.fc) | ((with_reducible refine gd 7 rfl (L ?_));refine al 7 S zi50 ?_;clear S F;intro gb220 W S;have F:=S.fc) | ((with_reducible refine gate_callee (f:=111) rfl (L ?_));refine cl (some 16) Try.func111 (spec_boOwn.calls _ _ _ _ _ _ _ _ _ S.c S.n A4) (hargs:=by (simp only [ma_,mb_,mc_,F] <;> rfl)) (h:=?_);rintro e W ⟨v224,rfl,ho0,hb⟩;refine ⟨_,rfl,?_⟩;replace S:=S.got at88 hb ho0;obtain ⟨At223,ct223,rfl,S⟩:=S;clear F hb ho0;have F:=S.fc) | ((with_reducible refine gd 9 rfl (L ?_));refine al 9 S zi50 ?_;clear S F;intro gb226 W S;have F:=S.fc) | ((with_reducible refine gs (t:=50) rfl (L ?_));(first | refine sb (.agg #[_,_,_]) S sz50 ?_ | refine ro (.agg #[_,_,_]) S sz50 ?_ (ho:=rfl) (hx:=rfl) (hy:=rfl));(clear S F;intro W S;have F:=S.fc)) | ((with_reducible refine gs (t:=88) rfl (L ?_));(first | refine sb (.agg #[_,_]) S sz88 ?_ | refine ro (.agg #[_,_]) S sz88 ?_ (ho:=rfl) (hx:=rfl) (hy:=rfl));(clear S F;intro W S;have F:=S.fc)) | ((with_reducible refine gs (t:=127) rfl (L ?_));(first | refine sb (.agg #[_,_,_]) S sz127 ?_ | refine ro (.agg #[_,_,_]) S sz127 ?_ (ho:=rfl) (hx:=rfl) (hy:=rfl));(clear S F;intro W S;have F:=S.fc)))
 go_loopg [2,10,11,12] k (fun kq v2 v10 v11 v12 w'=>∃ (x2_1:Int) (x10_1:List (List Int)) (x11_1:Int) (x12_1:Int) (x220000_1:Int) (x220001_1:Int) (x220002_1:Int) (x221000_1:Int) (x221001_1:Int) (x227002_1:List (S88)) (Ax10_1:Option Addr) (cx10_1:Nat) (Ax227002_1:Option Addr) (cx227002_1:Nat),v2 = .int .i64 x2_1∧v11 = .int .i64 x11_1∧v12 = .int .i64 x12_1∧v10 = .slice Ax10_1 x10_1.length cx10_1∧spec_flGo.l0 kq l1 x2_1 x10_1 x11_1 x12_1 a0_0 a0_1 l0_2 t221 t222 x227002_1 = some (r1,r2,r3,r4,r5,r6,r7)∧kq ≤ k∧St w w (fun _=>False) [bor at88 A0_2 c0_2 l0_2,bor (atI .i64) A1 c1 l1] w'  [row (atU (d:=Kd.slice 3 (Kd.int .i64))) 23 Ax10_1 x10_1.length cx10_1 x10_1,box gb226 50 [.int .i64 t221,.int .i64 t222,.slice Ax227002_1 x227002_1.length cx227002_1],row at88 88 Ax227002_1 x227002_1.length cx227002_1 x227002_1,box gb220 50 [.int .i64 x221000_1,.int .i64 x221001_1,.slice none 0 0],box gb219 127 [.int .i64 x220000_1,.int .i64 x220001_1,.int .i64 x220002_1],box gb218 50 [.int .i64 a0_0,.int .i64 a0_1,.slice A0_2 l0_2.length c0_2]])
 case atStart=>exact ⟨a2,_,0,0,0,0,0,0,0,t223,_,_,_,_,(by first | rfl | (simp;done) | (simp [*];done) | (rw [w6_ (by omega) (by omega)])),(by first | rfl | (simp;done) | (simp [*];done) | (rw [w6_ (by omega) (by omega)])),(by first | rfl | (simp;done) | (simp [*];done) | (rw [w6_ (by omega) (by omega)])),rfl,H,Nat.le_refl _,(S.nl (e:=23) (atU (d:=Kd.slice 3 (Kd.int .i64))))⟩
 case round =>
  clear H S F
  obtain ⟨x2_1,x10_1,x11_1,x12_1,x220000_1,x220001_1,x220002_1,x221000_1,x221001_1,x227002_1,Ax10_1,cx10_1,Ax227002_1,cx227002_1,rfl,rfl,rfl,rfl,HA,HK1,S⟩:=hrel
  have F:=S.fc
  cases gk with
  | zero=>exact absurd HA (by simp [spec_flGo.l0])
  | succ k1 =>
   have H:=HA;clear HA;simp only [spec_flGo.l0,F] at H
   replace H:=sp_ H;rcases H with ⟨c18,H⟩ | ⟨c18,H⟩
   · skip
     (first | (with_reducible replace H:=ob_ H;obtain ⟨y227,hy227,H⟩:=H;(try dsimp only at H)) | (obtain ⟨y227,hy227⟩:∃ y_:List Int,y_ = (([x12_1,x2_1]:List Int)):=⟨_,rfl⟩;(try rw [← hy227] at H);(try simp only [Option.bind_some] at H)));have Ny227:=Aside0.mk hy227;clear hy227
     replace H:=np_ H;obtain ⟨c19,H⟩:=H
     (first | (with_reducible replace H:=ob_ H;obtain ⟨y230,hy230,H⟩:=H;(try dsimp only at H)) | (obtain ⟨y230,hy230⟩:∃ y_:List (List Int),y_ = (x10_1 ++ [y227]):=⟨_,rfl⟩;(try rw [← hy230] at H);(try simp only [Option.bind_some] at H)));have Ny230:=Aside0.mk hy230;clear hy230
     replace H:=Option.bind_eq_some_iff.mp H;obtain ⟨⟨t233,t234⟩,A20,H⟩:=H;(try dsimp only at H)
     replace H:=sp_ H;rcases H with ⟨c21,H⟩ | ⟨c21,H⟩
     · skip
       replace c21:=ceq c21
       simp only [Option.some.injEq,Prod.mk.injEq] at H
       obtain ⟨rfl,rfl,rfl,rfl,rfl,rfl,rfl⟩:=H
       go_wp2_with (first | ((with_reducible refine gd 26 rfl (L ?_));refine lia 26 (atI .i64) 3 S ([x12_1,x2_1]:List Int) (fun _ _=>(Reps.one (show Kd.M (Kd.int .i64) _ _ _ x12_1 [.int .i64 x12_1] from rfl) (Reps.one (show Kd.M (Kd.int .i64) _ _ _ x2_1 [.int .i64 x2_1] from rfl) (Reps.none _ _)))) (by first | (go_simp;done) | (go_simp;rfl)) ?_;clear S F;intro Ay227 cy227 W S;(try rw [← Ny227.out] at S ⊢);(try rw [← Ny230.out] at S ⊢);have F:=S.fc) | ((with_reducible refine gd 28 rfl (L ?_));refine apm (A:=Ax10_1) (A2:=Ay227) 28 S Try.underlying42 info23 ?_ (ho:=rfl) (hs:=rfl) (hx:=rfl);clear S F;intro Ay230 cy230 W S;(try rw [← Ny227.out] at S ⊢);(try rw [← Ny230.out] at S ⊢);have F:=S.fc) | ((with_reducible refine gate_callee (f:=142) rfl (L ?_));refine cl (some 32) Try.func142 (spec_boAt.calls _ _ _ _ _ _ _ _ _ _ S.c S.n A20) (hargs:=by (simp only [ma_,mb_,mc_,F] <;> rfl)) (h:=?_);rintro e W ⟨rfl,hb⟩;refine ⟨_,rfl,?_⟩;replace S:=S.go hb;clear F hb;have F:=S.fc) | ((with_reducible refine gd 13 rfl (L ?_));refine al 13 S zi88 ?_;clear S F;intro gb235 W S;have F:=S.fc) | ((with_reducible refine gs (t:=50) rfl (L ?_));(first | refine sb (.agg #[_,_,_]) S sz50 ?_ | refine ro (.agg #[_,_,_]) S sz50 ?_ (ho:=rfl) (hx:=rfl) (hy:=rfl));clear S F;intro W S;(try rw [← Ny227.out] at S);(try rw [← Ny230.out] at S);have F:=S.fc) | ((with_reducible refine gs (t:=88) rfl (L ?_));(first | refine sb (.agg #[_,_]) S sz88 ?_ | refine ro (.agg #[_,_]) S sz88 ?_ (ho:=rfl) (hx:=rfl) (hy:=rfl));clear S F;intro W S;(try rw [← Ny227.out] at S);(try rw [← Ny230.out] at S);have F:=S.fc) | ((with_reducible refine gs (t:=127) rfl (L ?_));(first | refine sb (.agg #[_,_,_]) S sz127 ?_ | refine ro (.agg #[_,_,_]) S sz127 ?_ (ho:=rfl) (hx:=rfl) (hy:=rfl));clear S F;intro W S;(try rw [← Ny227.out] at S);(try rw [← Ny230.out] at S);have F:=S.fc))
       refine rgP S (fun _ S=>(S.ms [1,1,1,1,1,0,0])) [(0,0),(0,1),(0,2),(0,4),(1,3),(2,5),(2,6),(0,7)] [] (by kernel_rfl) (by kernel_rfl) (fun _ d _ _ _ h=>by cases d <;> exact h) ?_;clear S F;intro W S;have S0:=(S.ms [1,1,1,1,1,0,0]);have F:=S.fc
       repeat (first | (refine q0 (h:=?_)) | (refine q1 S0 (h:=?_)) | (refine q0n (h:=?_)) | (refine q1n S0 (h:=?_)))
       refine lk2 (by rfl) (by exact (Eq.refl true)) ?_;(first | refine sb (.agg #[_,_,_]) S sz50 ?_ | refine ro (.agg #[_,_,_]) S sz50 ?_ (ho:=rfl) (hx:=rfl) (hy:=rfl) | refine sb (.agg #[_,_]) S sz88 ?_ | refine ro (.agg #[_,_]) S sz88 ?_ (ho:=rfl) (hx:=rfl) (hy:=rfl) | refine sb (.agg #[_,_,_]) S sz127 ?_ | refine ro (.agg #[_,_,_]) S sz127 ?_ (ho:=rfl) (hx:=rfl) (hy:=rfl));clear S F;intro W S;(try rw [← Ny227.out] at S);(try rw [← Ny230.out] at S);have F:=S.fc
       clear S0;have S0:=(S.ms [1,1,1,1,1,0,0]);refine ⟨S0,?_⟩
       refine lk2 (by rfl) (by exact (Eq.refl true)) ?_;(first | refine sb (.agg #[_,_,_]) S sz50 ?_ | refine ro (.agg #[_,_,_]) S sz50 ?_ (ho:=rfl) (hx:=rfl) (hy:=rfl) | refine sb (.agg #[_,_]) S sz88 ?_ | refine ro (.agg #[_,_]) S sz88 ?_ (ho:=rfl) (hx:=rfl) (hy:=rfl) | refine sb (.agg #[_,_,_]) S sz127 ?_ | refine ro (.agg #[_,_,_]) S sz127 ?_ (ho:=rfl) (hx:=rfl) (hy:=rfl));clear S F;intro W S;(try rw [← Ny227.out] at S);(try rw [← Ny230.out] at S);have F:=S.fc
       clear S0;have S0:=(S.ms [1,1,1,1,1,0,0]);refine ⟨S0,?_⟩
       repeat (first | (refine q0 (h:=?_)) | (refine q1 S0 (h:=?_)) | (refine q0n (h:=?_)) | (refine q1n S0 (h:=?_)))
       refine oz ?_
       try clear S0
       go_wp2_with (first | ((with_reducible refine gs (t:=50) rfl (L ?_));(first | refine sb (.agg #[_,_,_]) S sz50 ?_ | refine ro (.agg #[_,_,_]) S sz50 ?_ (ho:=rfl) (hx:=rfl) (hy:=rfl));clear S F;intro W S;(try rw [← Ny227.out] at S);(try rw [← Ny230.out] at S);have F:=S.fc) | ((with_reducible refine gs (t:=88) rfl (L ?_));(first | refine sb (.agg #[_,_]) S sz88 ?_ | refine ro (.agg #[_,_]) S sz88 ?_ (ho:=rfl) (hx:=rfl) (hy:=rfl));clear S F;intro W S;(try rw [← Ny227.out] at S);(try rw [← Ny230.out] at S);have F:=S.fc) | ((with_reducible refine gs (t:=127) rfl (L ?_));(first | refine sb (.agg #[_,_,_]) S sz127 ?_ | refine ro (.agg #[_,_,_]) S sz127 ?_ (ho:=rfl) (hx:=rfl) (hy:=rfl));clear S F;intro W S;(try rw [← Ny227.out] at S);(try rw [← Ny230.out] at S);have F:=S.fc))
       refine bodyPost_ret (results_list (rs:=[.cell 6 127,.cell 7 50,.tmp 8]) rfl (by simp) (.cell gb219 127 #[.int .i64 2,.int .i64 x12_1,.int .i64 x2_1] (0,0) _ rfl S.hb Try.underlying127 rfl (by kernel_rfl) (.cell gb220 50 #[.int .i64 t221,.int .i64 t222,.slice Ax227002_1 x227002_1.length cx227002_1] (0,0) _ rfl S.hb Try.underlying50 rfl (by kernel_rfl) (.tmp .nil)))) rfl ?_
       exact ⟨_,_,(by first | rfl | (simp [e0_,e1_] <;> rfl) | (simp [*,e0_,e1_] <;> rfl)),(by first | exact S.r | exact Kd.R_nil _ _ _ _ _),(by first | exact S.r | exact Kd.R_nil _ _ _ _ _),S.below⟩
     · skip
       replace c21:=cne c21
       replace H:=Option.bind_eq_some_iff.mp H;obtain ⟨t236,A49,H⟩:=H;(try dsimp only at H)
       replace H:=Option.bind_eq_some_iff.mp H;obtain ⟨t237,A50,H⟩:=H;(try dsimp only at H)
       replace H:=Option.bind_eq_some_iff.mp H;obtain ⟨t238,A51,H⟩:=H;(try dsimp only at H)
       replace H:=sp_ H;rcases H with ⟨c52,H⟩ | ⟨c52,H⟩
       · skip
         subst c52
         go_wp2_with (first | ((with_reducible refine gd 26 rfl (L ?_));refine lia 26 (atI .i64) 3 S ([x12_1,x2_1]:List Int) (fun _ _=>(Reps.one (show Kd.M (Kd.int .i64) _ _ _ x12_1 [.int .i64 x12_1] from rfl) (Reps.one (show Kd.M (Kd.int .i64) _ _ _ x2_1 [.int .i64 x2_1] from rfl) (Reps.none _ _)))) (by first | (go_simp;done) | (go_simp;rfl)) ?_;clear S F;intro Ay227 cy227 W S;(try rw [← Ny227.out] at S ⊢);(try rw [← Ny230.out] at S ⊢);have F:=S.fc) | ((with_reducible refine gd 28 rfl (L ?_));refine apm (A:=Ax10_1) (A2:=Ay227) 28 S Try.underlying42 info23 ?_ (ho:=rfl) (hs:=rfl) (hx:=rfl);clear S F;intro Ay230 cy230 W S;(try rw [← Ny227.out] at S ⊢);(try rw [← Ny230.out] at S ⊢);have F:=S.fc) | ((with_reducible refine gate_callee (f:=142) rfl (L ?_));refine cl (some 32) Try.func142 (spec_boAt.calls _ _ _ _ _ _ _ _ _ _ S.c S.n A20) (hargs:=by (simp only [ma_,mb_,mc_,F] <;> rfl)) (h:=?_);rintro e W ⟨rfl,hb⟩;refine ⟨_,rfl,?_⟩;replace S:=S.go hb;clear F hb;have F:=S.fc) | ((with_reducible refine gd 13 rfl (L ?_));refine al 13 S zi88 ?_;clear S F;intro gb235 W S;have F:=S.fc) | ((with_reducible refine gate_callee (f:=143) rfl (L ?_));refine cl (some 43) Try.func143 (spec_paGoes.calls _ _ _ _ _ _ A49) (hargs:=by (simp only [ma_,mb_,mc_,F] <;> rfl)) (h:=?_);rintro e W ⟨rfl,hb⟩;refine ⟨_,rfl,?_⟩;replace S:=S.go hb;clear F hb;have F:=S.fc) | ((with_reducible refine gate_callee (f:=144) rfl (L ?_));obtain ⟨ok_,k_⟩:=S.lend (A:=Ax227002_1);refine cl (some 52) Try.func144 (spec_flPass.calls _ _ _ ok_ _ _ _ _ _ _ _ _ _ k_.below k_.own k_.c k_.n A50) (hargs:=by (simp only [ma_,mb_,mc_,F] <;> rfl)) (h:=?_);rintro e W ⟨rfl,hy,hb,hk⟩;refine ⟨_,rfl,?_⟩;clear S F;have S:=k_.back _ _ hy hb hk;clear k_ hy hb hk ok_;have F:=S.fc) | ((with_reducible refine gate_callee (f:=89) rfl (L ?_));refine cl (some 62) Try.func89 (spec_l1In.calls _ _ _ _ _ A51) (hargs:=by (simp only [ma_,mb_,mc_,F] <;> rfl)) (h:=?_);rintro e W ⟨rfl,hb⟩;refine ⟨_,rfl,?_⟩;replace S:=S.gw hb;clear F hb;have F:=S.fc) | ((with_reducible refine gs (t:=50) rfl (L ?_));(first | refine sb (.agg #[_,_,_]) S sz50 ?_ | refine ro (.agg #[_,_,_]) S sz50 ?_ (ho:=rfl) (hx:=rfl) (hy:=rfl));clear S F;intro W S;(try rw [← Ny227.out] at S);(try rw [← Ny230.out] at S);have F:=S.fc) | ((with_reducible refine gs (t:=88) rfl (L ?_));(first | refine sb (.agg #[_,_]) S sz88 ?_ | refine ro (.agg #[_,_]) S sz88 ?_ (ho:=rfl) (hx:=rfl) (hy:=rfl));clear S F;intro W S;(try rw [← Ny227.out] at S);(try rw [← Ny230.out] at S);have F:=S.fc) | ((with_reducible refine gs (t:=127) rfl (L ?_));(first | refine sb (.agg #[_,_,_]) S sz127 ?_ | refine ro (.agg #[_,_,_]) S sz127 ?_ (ho:=rfl) (hx:=rfl) (hy:=rfl));clear S F;intro W S;(try rw [← Ny227.out] at S);(try rw [← Ny230.out] at S);have F:=S.fc))
         go_roundg k1
         case measure=>omega
         case rel=>(try rw [← (show t237.length = x227002_1.length by simp only [F])] at S);exact ⟨(wrap64 (x2_1 + t236)),y230,(wrap64 (-t236)),(wrap64 (x12_1 + 1)),x220000_1,x220001_1,x220002_1,x221000_1,x221001_1,t237,_,_,_,_,(by first | rfl | (simp;done) | (simp [*];done) | (rw [w6_ (by omega) (by omega)])),(by first | rfl | (simp;done) | (simp [*];done) | (rw [w6_ (by omega) (by omega)])),(by first | rfl | (simp;done) | (simp [*];done) | (rw [w6_ (by omega) (by omega)])),(by first | rfl | simp only [F]),H,(by first | omega | exact Nat.le_refl _),S.tl.tl⟩
       · skip
         replace c52:=cbf c52;subst c52
         simp only [Option.some.injEq,Prod.mk.injEq] at H
         obtain ⟨rfl,rfl,rfl,rfl,rfl,rfl,rfl⟩:=H
         go_wp2_with (first | ((with_reducible refine gd 26 rfl (L ?_));refine lia 26 (atI .i64) 3 S ([x12_1,x2_1]:List Int) (fun _ _=>(Reps.one (show Kd.M (Kd.int .i64) _ _ _ x12_1 [.int .i64 x12_1] from rfl) (Reps.one (show Kd.M (Kd.int .i64) _ _ _ x2_1 [.int .i64 x2_1] from rfl) (Reps.none _ _)))) (by first | (go_simp;done) | (go_simp;rfl)) ?_;clear S F;intro Ay227 cy227 W S;(try rw [← Ny227.out] at S ⊢);(try rw [← Ny230.out] at S ⊢);have F:=S.fc) | ((with_reducible refine gd 28 rfl (L ?_));refine apm (A:=Ax10_1) (A2:=Ay227) 28 S Try.underlying42 info23 ?_ (ho:=rfl) (hs:=rfl) (hx:=rfl);clear S F;intro Ay230 cy230 W S;(try rw [← Ny227.out] at S ⊢);(try rw [← Ny230.out] at S ⊢);have F:=S.fc) | ((with_reducible refine gate_callee (f:=142) rfl (L ?_));refine cl (some 32) Try.func142 (spec_boAt.calls _ _ _ _ _ _ _ _ _ _ S.c S.n A20) (hargs:=by (simp only [ma_,mb_,mc_,F] <;> rfl)) (h:=?_);rintro e W ⟨rfl,hb⟩;refine ⟨_,rfl,?_⟩;replace S:=S.go hb;clear F hb;have F:=S.fc) | ((with_reducible refine gd 13 rfl (L ?_));refine al 13 S zi88 ?_;clear S F;intro gb235 W S;have F:=S.fc) | ((with_reducible refine gate_callee (f:=143) rfl (L ?_));refine cl (some 43) Try.func143 (spec_paGoes.calls _ _ _ _ _ _ A49) (hargs:=by (simp only [ma_,mb_,mc_,F] <;> rfl)) (h:=?_);rintro e W ⟨rfl,hb⟩;refine ⟨_,rfl,?_⟩;replace S:=S.go hb;clear F hb;have F:=S.fc) | ((with_reducible refine gate_callee (f:=144) rfl (L ?_));obtain ⟨ok_,k_⟩:=S.lend (A:=Ax227002_1);refine cl (some 52) Try.func144 (spec_flPass.calls _ _ _ ok_ _ _ _ _ _ _ _ _ _ k_.below k_.own k_.c k_.n A50) (hargs:=by (simp only [ma_,mb_,mc_,F] <;> rfl)) (h:=?_);rintro e W ⟨rfl,hy,hb,hk⟩;refine ⟨_,rfl,?_⟩;clear S F;have S:=k_.back _ _ hy hb hk;clear k_ hy hb hk ok_;have F:=S.fc) | ((with_reducible refine gate_callee (f:=89) rfl (L ?_));refine cl (some 62) Try.func89 (spec_l1In.calls _ _ _ _ _ A51) (hargs:=by (simp only [ma_,mb_,mc_,F] <;> rfl)) (h:=?_);rintro e W ⟨rfl,hb⟩;refine ⟨_,rfl,?_⟩;replace S:=S.gw hb;clear F hb;have F:=S.fc) | ((with_reducible refine gs (t:=50) rfl (L ?_));(first | refine sb (.agg #[_,_,_]) S sz50 ?_ | refine ro (.agg #[_,_,_]) S sz50 ?_ (ho:=rfl) (hx:=rfl) (hy:=rfl));clear S F;intro W S;(try rw [← Ny227.out] at S);(try rw [← Ny230.out] at S);have F:=S.fc) | ((with_reducible refine gs (t:=88) rfl (L ?_));(first | refine sb (.agg #[_,_]) S sz88 ?_ | refine ro (.agg #[_,_]) S sz88 ?_ (ho:=rfl) (hx:=rfl) (hy:=rfl));clear S F;intro W S;(try rw [← Ny227.out] at S);(try rw [← Ny230.out] at S);have F:=S.fc) | ((with_reducible refine gs (t:=127) rfl (L ?_));(first | refine sb (.agg #[_,_,_]) S sz127 ?_ | refine ro (.agg #[_,_,_]) S sz127 ?_ (ho:=rfl) (hx:=rfl) (hy:=rfl));clear S F;intro W S;(try rw [← Ny227.out] at S);(try rw [← Ny230.out] at S);have F:=S.fc))
         refine rgP S (fun _ S=>(S.ms [1,1,1,1,1,0,0])) [(0,0),(0,1),(0,2),(0,4),(1,3),(2,5),(2,6),(0,7)] [] (by kernel_rfl) (by kernel_rfl) (fun _ d _ _ _ h=>by cases d <;> exact h) ?_;clear S F;intro W S;have S0:=(S.ms [1,1,1,1,1,0,0]);have F:=S.fc
         repeat (first | (refine q0 (h:=?_)) | (refine q1 S0 (h:=?_)) | (refine q0n (h:=?_)) | (refine q1n S0 (h:=?_)))
         refine lk2 (by rfl) (by exact (Eq.refl true)) ?_;(first | refine sb (.agg #[_,_,_]) S sz50 ?_ | refine ro (.agg #[_,_,_]) S sz50 ?_ (ho:=rfl) (hx:=rfl) (hy:=rfl) | refine sb (.agg #[_,_]) S sz88 ?_ | refine ro (.agg #[_,_]) S sz88 ?_ (ho:=rfl) (hx:=rfl) (hy:=rfl) | refine sb (.agg #[_,_,_]) S sz127 ?_ | refine ro (.agg #[_,_,_]) S sz127 ?_ (ho:=rfl) (hx:=rfl) (hy:=rfl));clear S F;intro W S;(try rw [← Ny227.out] at S);(try rw [← Ny230.out] at S);have F:=S.fc
         clear S0;have S0:=(S.ms [1,1,1,1,1,0,0]);refine ⟨S0,?_⟩
         refine lk2 (by rfl) (by exact (Eq.refl true)) ?_;(first | refine sb (.agg #[_,_,_]) S sz50 ?_ | refine ro (.agg #[_,_,_]) S sz50 ?_ (ho:=rfl) (hx:=rfl) (hy:=rfl) | refine sb (.agg #[_,_]) S sz88 ?_ | refine ro (.agg #[_,_]) S sz88 ?_ (ho:=rfl) (hx:=rfl) (hy:=rfl) | refine sb (.agg #[_,_,_]) S sz127 ?_ | refine ro (.agg #[_,_,_]) S sz127 ?_ (ho:=rfl) (hx:=rfl) (hy:=rfl));clear S F;intro W S;(try rw [← Ny227.out] at S);(try rw [← Ny230.out] at S);have F:=S.fc
         clear S0;have S0:=(S.ms [1,1,1,1,1,0,0]);refine ⟨S0,?_⟩
         repeat (first | (refine q0 (h:=?_)) | (refine q1 S0 (h:=?_)) | (refine q0n (h:=?_)) | (refine q1n S0 (h:=?_)))
         refine oz ?_
         try clear S0
         go_wp2_with (first | ((with_reducible refine gs (t:=50) rfl (L ?_));(first | refine sb (.agg #[_,_,_]) S sz50 ?_ | refine ro (.agg #[_,_,_]) S sz50 ?_ (ho:=rfl) (hx:=rfl) (hy:=rfl));clear S F;intro W S;(try rw [← Ny227.out] at S);(try rw [← Ny230.out] at S);have F:=S.fc) | ((with_reducible refine gs (t:=88) rfl (L ?_));(first | refine sb (.agg #[_,_]) S sz88 ?_ | refine ro (.agg #[_,_]) S sz88 ?_ (ho:=rfl) (hx:=rfl) (hy:=rfl));clear S F;intro W S;(try rw [← Ny227.out] at S);(try rw [← Ny230.out] at S);have F:=S.fc) | ((with_reducible refine gs (t:=127) rfl (L ?_));(first | refine sb (.agg #[_,_,_]) S sz127 ?_ | refine ro (.agg #[_,_,_]) S sz127 ?_ (ho:=rfl) (hx:=rfl) (hy:=rfl));clear S F;intro W S;(try rw [← Ny227.out] at S);(try rw [← Ny230.out] at S);have F:=S.fc))
         refine bodyPost_ret (results_list (rs:=[.cell 6 127,.cell 7 50,.tmp 8]) rfl (by simp) (.cell gb219 127 #[.int .i64 3,.int .i64 x12_1,.int .i64 (wrap64 (x2_1 + t236))] (0,0) _ rfl S.hb Try.underlying127 rfl (by kernel_rfl) (.cell gb220 50 #[.int .i64 t221,.int .i64 t222,.slice Ax227002_1 x227002_1.length cx227002_1] (0,0) _ rfl S.hb Try.underlying50 rfl (by kernel_rfl) (.tmp .nil)))) rfl ?_
         exact ⟨_,_,(by first | rfl | (simp [e0_,e1_] <;> rfl) | (simp [*,e0_,e1_] <;> rfl)),(by first | exact S.r | exact Kd.R_nil _ _ _ _ _),(by first | exact S.r | exact Kd.R_nil _ _ _ _ _),S.below⟩
   · skip
     simp only [Option.some.injEq,Prod.mk.injEq] at H
     obtain ⟨rfl,rfl,rfl,rfl,rfl,rfl,rfl⟩:=H
     go_wp2_with (first | ((with_reducible refine gs (t:=50) rfl (L ?_));(first | refine sb (.agg #[_,_,_]) S sz50 ?_ | refine ro (.agg #[_,_,_]) S sz50 ?_ (ho:=rfl) (hx:=rfl) (hy:=rfl));(clear S F;intro W S;have F:=S.fc)) | ((with_reducible refine gs (t:=88) rfl (L ?_));(first | refine sb (.agg #[_,_]) S sz88 ?_ | refine ro (.agg #[_,_]) S sz88 ?_ (ho:=rfl) (hx:=rfl) (hy:=rfl));(clear S F;intro W S;have F:=S.fc)) | ((with_reducible refine gs (t:=127) rfl (L ?_));(first | refine sb (.agg #[_,_,_]) S sz127 ?_ | refine ro (.agg #[_,_,_]) S sz127 ?_ (ho:=rfl) (hx:=rfl) (hy:=rfl));(clear S F;intro W S;have F:=S.fc)))
     refine rgP S (fun _ S=>(S.pm [0,1,2,5])) [(0,0),(0,2),(0,5),(1,1),(0,3),(1,4),(2,6),(2,7),(0,8)] [] (by kernel_rfl) (by kernel_rfl) (fun _ d _ _ _ h=>by cases d <;> exact h) ?_;clear S F;intro W S;have S0:=(S.pm [0,1,2,5]);have F:=S.fc
     repeat (first | (refine q0 (h:=?_)) | (refine q1 S0 (h:=?_)) | (refine q0n (h:=?_)) | (refine q1n S0 (h:=?_)))
     refine lk2 (by rfl) (by exact (Eq.refl true)) ?_;(first | refine sb (.agg #[_,_,_]) S sz50 ?_ | refine ro (.agg #[_,_,_]) S sz50 ?_ (ho:=rfl) (hx:=rfl) (hy:=rfl) | refine sb (.agg #[_,_]) S sz88 ?_ | refine ro (.agg #[_,_]) S sz88 ?_ (ho:=rfl) (hx:=rfl) (hy:=rfl) | refine sb (.agg #[_,_,_]) S sz127 ?_ | refine ro (.agg #[_,_,_]) S sz127 ?_ (ho:=rfl) (hx:=rfl) (hy:=rfl));(clear S F;intro W S;have F:=S.fc)
     clear S0;have S0:=(S.pm [0,1,2,5]);refine ⟨S0,?_⟩
     refine lk2 (by rfl) (by exact (Eq.refl true)) ?_;(first | refine sb (.agg #[_,_,_]) S sz50 ?_ | refine ro (.agg #[_,_,_]) S sz50 ?_ (ho:=rfl) (hx:=rfl) (hy:=rfl) | refine sb (.agg #[_,_]) S sz88 ?_ | refine ro (.agg #[_,_]) S sz88 ?_ (ho:=rfl) (hx:=rfl) (hy:=rfl) | refine sb (.agg #[_,_,_]) S sz127 ?_ | refine ro (.agg #[_,_,_]) S sz127 ?_ (ho:=rfl) (hx:=rfl) (hy:=rfl));(clear S F;intro W S;have F:=S.fc)
     clear S0;have S0:=(S.pm [0,1,2,5]);refine ⟨S0,?_⟩
     repeat (first | (refine q0 (h:=?_)) | (refine q1 S0 (h:=?_)) | (refine q0n (h:=?_)) | (refine q1n S0 (h:=?_)))
     refine oz ?_
     try clear S0
     go_wp2_with (first | ((with_reducible refine gs (t:=50) rfl (L ?_));(first | refine sb (.agg #[_,_,_]) S sz50 ?_ | refine ro (.agg #[_,_,_]) S sz50 ?_ (ho:=rfl) (hx:=rfl) (hy:=rfl));(clear S F;intro W S;have F:=S.fc)) | ((with_reducible refine gs (t:=88) rfl (L ?_));(first | refine sb (.agg #[_,_]) S sz88 ?_ | refine ro (.agg #[_,_]) S sz88 ?_ (ho:=rfl) (hx:=rfl) (hy:=rfl));(clear S F;intro W S;have F:=S.fc)) | ((with_reducible refine gs (t:=127) rfl (L ?_));(first | refine sb (.agg #[_,_,_]) S sz127 ?_ | refine ro (.agg #[_,_,_]) S sz127 ?_ (ho:=rfl) (hx:=rfl) (hy:=rfl));(clear S F;intro W S;have F:=S.fc)))
     refine bodyPost_ret (results_list (rs:=[.cell 6 127,.cell 7 50,.tmp 8]) rfl (by simp) (.cell gb219 127 #[.int .i64 1,.int .i64 a0_0,.int .i64 x2_1] (0,0) _ rfl S.hb Try.underlying127 rfl (by kernel_rfl) (.cell gb220 50 #[.int .i64 t221,.int .i64 t222,.slice Ax227002_1 x227002_1.length cx227002_1] (0,0) _ rfl S.hb Try.underlying50 rfl (by kernel_rfl) (.tmp .nil)))) rfl ?_
     exact ⟨_,_,(by first | rfl | (simp [e0_,e1_] <;> rfl) | (simp [*,e0_,e1_] <;> rfl)),(by first | exact S.r | exact Kd.R_nil _ _ _ _ _),(by first | exact S.r | exact Kd.R_nil _ _ _ _ _),S.below⟩

/-! ### spec_ggGear: function 145 -/
def spec_ggGear.f (a0_0:Int) (a0_1:Int):Option (Bool):=if a0_0 = 6 then (some true) else (some (a0_0 == 7))
theorem spec_ggGear.calls (a0_0:Int) (a0_1:Int) (r:Bool) (w:World) (h:spec_ggGear.f a0_0 a0_1 = some r) :
    Calls Try.prog 145 #[.agg #[.int .i64 a0_0,.int .i64 a0_1]] w fun e w'=>e = .returned (.bool r)∧Below w.heap.size w w':=by
 have S:=St.init (w:=w) dn
 have F:=S.fc
 have H:=h;clear h;unfold spec_ggGear.f at H
 replace H:=sp_ H;rcases H with ⟨c2,H⟩ | ⟨c2,H⟩
 · skip
   replace c2:=ceq c2
   obtain rfl:=Option.some.inj H
   go_enter Try.func145,Try.ntmps145
   go_wp2_with (first | ((with_reducible refine gd 1 rfl (L ?_));refine bo 1 (.agg #[_,_]) S ?_;clear S F;intro gb239 W S;have F:=S.fc))
   go_ret
   exact ⟨(by first | rfl | (simp [e0_,e1_] <;> rfl) | (simp [*,e0_,e1_] <;> rfl)),S.below⟩
 · skip
   replace c2:=cne c2
   obtain rfl:=Option.some.inj H
   go_enter Try.func145,Try.ntmps145
   go_wp2_with (first | ((with_reducible refine gd 1 rfl (L ?_));refine bo 1 (.agg #[_,_]) S ?_;clear S F;intro gb239 W S;have F:=S.fc))
   go_ret
   exact ⟨(by first | rfl | (simp [e0_,e1_] <;> rfl) | (simp [*,e0_,e1_] <;> rfl)),S.below⟩

/-! ### spec_ggNear: function 146 -/
mutual
def spec_ggNear.j0:Nat→Int→Int→Int→List Int→Int→Int→List (S88)→Option (List Int)
  | 0,_,_,_,_,_,_,_=>none
  | k + 1,x1,x5,x6,x7,x241000,x241001,x241002=>if x6 > 0 then (if x7.length < 17592186044416 then (spec_ggNear.j1 k x1 x5 x6 (x7 ++ [wrap64 (x1 - 1)]) x241000 x241001 x241002) else (none)) else (spec_ggNear.j1 k x1 x5 x6 x7 x241000 x241001 x241002)
def spec_ggNear.j1:Nat→Int→Int→Int→List Int→Int→Int→List (S88)→Option (List Int)
  | 0,_,_,_,_,_,_,_=>none
  | k + 1,x1,x5,x6,x7,x241000,x241001,x241002=>if (wrap64 (x6 + 1)) < x241001 then (if x7.length < 17592186044416 then ((some (x7 ++ [wrap64 (x1 + 1)]:List Int)).bind fun y247=>(if (wrap64 (x5 + 1)) < x241000 then (if y247.length < 17592186044416 then (some (y247 ++ [wrap64 (x1 + x241001)])) else (none)) else (some y247))) else (none)) else (if (wrap64 (x5 + 1)) < x241000 then (if x7.length < 17592186044416 then (some (x7 ++ [wrap64 (x1 + x241001)])) else (none)) else (some x7))
end
def spec_ggNear.f (k:Nat) (a0_0:Int) (a0_1:Int) (l0_2:List (S88)) (a1:Int):Option (List Int):=if a0_1 = 0 then (none) else (if (wrap64 (Int.tdiv a1 a0_1)) > 0 then (if ([]:List Int).length < 17592186044416 then (spec_ggNear.j0 k a1 (wrap64 (Int.tdiv a1 a0_1)) (Int.tmod a1 a0_1) (([]:List Int) ++ [wrap64 (a1 - a0_1)]) a0_0 a0_1 l0_2) else (none)) else (spec_ggNear.j0 k a1 (wrap64 (Int.tdiv a1 a0_1)) (Int.tmod a1 a0_1) ([]:List Int) a0_0 a0_1 l0_2))
theorem spec_ggNear.calls (k:Nat) (a0_0:Int) (a0_1:Int) (A0_2:Option Addr) (c0_2:Nat) (l0_2:List (S88)) (a1:Int) (r:List Int) (w:World) (hr0_2:Kd.C k88 w A0_2 l0_2.length l0_2) (hc0_2:l0_2.length ≤ c0_2) (h:spec_ggNear.f k a0_0 a0_1 l0_2 a1 = some r) :
    Calls Try.prog 146 #[.agg #[.int .i64 a0_0,.int .i64 a0_1,.slice A0_2 l0_2.length c0_2],.int .i64 a1] w fun e w'=>∃ v0_:Value,e = .returned (v0_)∧Kd.R (Kd.int .i64) 3 w' w.heap.size (fun _=>True) v0_ r∧Below w.heap.size w w':=by
 have S:=St.init (w:=w) (dc k88_heap at88 hr0_2 hc0_2 dn)
 clear hr0_2 hc0_2
 have F:=S.fc
 have H:=h;clear h;unfold spec_ggNear.f at H
 replace H:=nn_ H;obtain ⟨c3,H⟩:=H
 replace c3:=cne c3
 go_enter Try.func146,Try.ntmps146
 go_upto_if 17 with (first | ((with_reducible refine gd 2 rfl (L ?_));refine bo 2 (.agg #[_,_,_]) S ?_;clear S F;intro gb240 W S;have F:=S.fc))
 go_upto_if 17 with (first | ((with_reducible refine gd 2 rfl (L ?_));refine bo 2 (.agg #[_,_,_]) S ?_;clear S F;intro gb240 W S;have F:=S.fc) | ((with_reducible refine gd 2 rfl (L ?_));refine bo 2 (.agg #[_,_,_]) S ?_;clear S F;intro gb240 W S;have F:=S.fc) | ((refine rq (id:=1) S [(0,0),(0,1),(0,4),(0,5),(1,2),(0,3),(0,8),(1,6),(0,7),(0,9)] [] (h:=?_);clear S F;intro W S;have S0:=S;have F:=S.fc)) | (refine q0 (h:=?_)) | (refine q1 S0 (h:=?_)) | (refine q0n (h:=?_)) | (refine q1n S0 (h:=?_)) | refine oz ?_)
 (try simp only [Act.put,List.setIfInBounds_toArray,List.set_cons_zero,List.set_cons_succ])
 go_cut [7] (fun v7 wc=>∃ (kq:Nat) (x7_3:List Int) (Ax7_3:Option Addr) (cx7_3:Nat),v7 = .slice Ax7_3 x7_3.length cx7_3∧spec_ggNear.j0 kq a1 (wrap64 (Int.tdiv a1 a0_1)) (Int.tmod a1 a0_1) x7_3 a0_0 a0_1 l0_2 = some r∧kq ≤ k∧St w w (fun _=>False) [bor at88 A0_2 c0_2 l0_2] wc  [row (atI .i64) 3 Ax7_3 x7_3.length cx7_3 x7_3,box gb240 50 [.int .i64 a0_0,.int .i64 a0_1,.slice A0_2 l0_2.length c0_2]])
 case first =>
  replace H:=sp_ H;rcases H with ⟨c7,H⟩ | ⟨c7,H⟩
  · skip
    replace H:=np_ H;obtain ⟨c8,H⟩:=H
    (first | (with_reducible replace H:=ob_ H;obtain ⟨y241,hy241,H⟩:=H;(try dsimp only at H)) | (obtain ⟨y241,hy241⟩:∃ y_:List Int,y_ = (([]:List Int) ++ [wrap64 (a1 - a0_1)]):=⟨_,rfl⟩;(try rw [← hy241] at H);(try simp only [Option.bind_some] at H)));have Ny241:=Aside0.mk hy241;clear hy241
    go_wp2_with (first | ((with_reducible refine gd 24 rfl (L ?_));replace S:=S.nl (e:=3) (atI .i64);refine apa (A:=none) 24 S Try.underlying23 info3 ?_ (ho:=rfl) (hs:=rfl) (hx:=rfl);clear S F;intro Ay241 cy241 W S;(try rw [← Ny241.out] at S ⊢);have F:=S.fc))
    go_wp2_with (first | ((with_reducible refine gd 24 rfl (L ?_));replace S:=S.nl (e:=3) (atI .i64);refine apa (A:=none) 24 S Try.underlying23 info3 ?_ (ho:=rfl) (hs:=rfl) (hx:=rfl);clear S F;intro Ay241 cy241 W S;(try rw [← Ny241.out] at S ⊢);have F:=S.fc) | ((with_reducible refine gd 24 rfl (L ?_));replace S:=S.nl (e:=3) (atI .i64);refine apa (A:=none) 24 S Try.underlying23 info3 ?_ (ho:=rfl) (hs:=rfl) (hx:=rfl);clear S F;intro Ay241 cy241 W S;(try rw [← Ny241.out] at S ⊢);have F:=S.fc) | ((refine rq (id:=1) S [(0,0),(0,1),(0,4),(0,5),(1,2),(0,3),(0,8),(1,6),(0,7),(0,9)] [] (h:=?_);clear S F;intro W S;have S0:=S;have F:=S.fc)) | (refine q0 (h:=?_)) | (refine q1 S0 (h:=?_)) | (refine q0n (h:=?_)) | (refine q1n S0 (h:=?_)) | refine oz ?_)
    go_meet
    case rel=>exact ⟨_,y241,_,_,rfl,H,(by first | omega | exact Nat.le_refl _),S⟩
  · skip
    go_wp2
    go_wp2_with (first | ((refine rq (id:=1) S [(0,0),(0,1),(0,4),(0,5),(1,2),(0,3),(0,8),(1,6),(0,7),(0,9)] [] (h:=?_);clear S F;intro W S;have S0:=S;have F:=S.fc)) | (refine q0 (h:=?_)) | (refine q1 S0 (h:=?_)) | (refine q0n (h:=?_)) | (refine q1n S0 (h:=?_)) | refine oz ?_)
    go_meet
    case rel=>exact ⟨_,_,_,_,rfl,H,(by first | omega | exact Nat.le_refl _),(S.nl (e:=3) (atI .i64))⟩
 case rest =>
  clear H S F
  obtain ⟨kq,x7_3,Ax7_3,cx7_3,rfl,HA,HJ3,S⟩:=hcut
  have F:=S.fc
  cases kq with
  | zero=>exact absurd HA (by simp [spec_ggNear.j0])
  | succ kj3 =>
   have H:=HA;clear HA;simp only [spec_ggNear.j0,F] at H
   go_upto_if 26 with (fail)
   go_upto_if 26 with (first | ((refine rq (id:=1) S [(0,0),(0,1),(0,4),(0,5),(1,2),(0,3),(0,8),(1,6),(0,7),(0,9)] [] (h:=?_);clear S F;intro W S;have S0:=S;have F:=S.fc)) | (refine q0 (h:=?_)) | (refine q1 S0 (h:=?_)) | (refine q0n (h:=?_)) | (refine q1n S0 (h:=?_)) | refine oz ?_)
   go_cut [7] (fun v7 wc=>∃ (kq:Nat) (x7_10:List Int) (Ax7_10:Option Addr) (cx7_10:Nat),v7 = .slice Ax7_10 x7_10.length cx7_10∧spec_ggNear.j1 kq a1 (wrap64 (Int.tdiv a1 a0_1)) (Int.tmod a1 a0_1) x7_10 a0_0 a0_1 l0_2 = some r∧kq ≤ kj3∧St w w (fun _=>False) [bor at88 A0_2 c0_2 l0_2] wc  [row (atI .i64) 3 Ax7_10 x7_10.length cx7_10 x7_10,box gb240 50 [.int .i64 a0_0,.int .i64 a0_1,.slice A0_2 l0_2.length c0_2]])
   case first =>
    replace H:=sp_ H;rcases H with ⟨c12,H⟩ | ⟨c12,H⟩
    · skip
      replace H:=np_ H;obtain ⟨c13,H⟩:=H
      (first | (with_reducible replace H:=ob_ H;obtain ⟨y244,hy244,H⟩:=H;(try dsimp only at H)) | (obtain ⟨y244,hy244⟩:∃ y_:List Int,y_ = (x7_3 ++ [wrap64 (a1 - 1)]):=⟨_,rfl⟩;(try rw [← hy244] at H);(try simp only [Option.bind_some] at H)));have Ny244:=Aside0.mk hy244;clear hy244
      go_wp2_with (first | ((with_reducible refine gd 31 rfl (L ?_));refine apa (A:=Ax7_3) 31 S Try.underlying23 info3 ?_ (ho:=rfl) (hs:=rfl) (hx:=rfl);clear S F;intro Ay244 cy244 W S;(try rw [← Ny244.out] at S ⊢);have F:=S.fc))
      go_wp2_with (first | ((with_reducible refine gd 31 rfl (L ?_));refine apa (A:=Ax7_3) 31 S Try.underlying23 info3 ?_ (ho:=rfl) (hs:=rfl) (hx:=rfl);clear S F;intro Ay244 cy244 W S;(try rw [← Ny244.out] at S ⊢);have F:=S.fc) | ((with_reducible refine gd 31 rfl (L ?_));refine apa (A:=Ax7_3) 31 S Try.underlying23 info3 ?_ (ho:=rfl) (hs:=rfl) (hx:=rfl);clear S F;intro Ay244 cy244 W S;(try rw [← Ny244.out] at S ⊢);have F:=S.fc) | ((refine rq (id:=1) S [(0,0),(0,1),(0,4),(0,5),(1,2),(0,3),(0,8),(1,6),(0,7),(0,9)] [] (h:=?_);clear S F;intro W S;have S0:=S;have F:=S.fc)) | (refine q0 (h:=?_)) | (refine q1 S0 (h:=?_)) | (refine q0n (h:=?_)) | (refine q1n S0 (h:=?_)) | refine oz ?_)
      go_meet
      case rel=>exact ⟨_,y244,_,_,rfl,H,(by first | omega | exact Nat.le_refl _),S⟩
    · skip
      go_wp2
      go_wp2_with (first | ((refine rq (id:=1) S [(0,0),(0,1),(0,4),(0,5),(1,2),(0,3),(0,8),(1,6),(0,7),(0,9)] [] (h:=?_);clear S F;intro W S;have S0:=S;have F:=S.fc)) | (refine q0 (h:=?_)) | (refine q1 S0 (h:=?_)) | (refine q0n (h:=?_)) | (refine q1n S0 (h:=?_)) | refine oz ?_)
      go_meet
      case rel=>exact ⟨_,x7_3,_,_,rfl,H,(by first | omega | exact Nat.le_refl _),S⟩
   case rest =>
    clear H S F
    obtain ⟨kq,x7_10,Ax7_10,cx7_10,rfl,HA,HJ10,S⟩:=hcut
    have F:=S.fc
    cases kq with
    | zero=>exact absurd HA (by simp [spec_ggNear.j1])
    | succ kj10 =>
     have H:=HA;clear HA;simp only [spec_ggNear.j1,F] at H
     replace H:=sp_ H;rcases H with ⟨c15,H⟩ | ⟨c15,H⟩
     · skip
       replace H:=np_ H;obtain ⟨c16,H⟩:=H
       (first | (with_reducible replace H:=ob_ H;obtain ⟨y247,hy247,H⟩:=H;(try dsimp only at H)) | (obtain ⟨y247,hy247⟩:∃ y_:List Int,y_ = (x7_10 ++ [wrap64 (a1 + 1)]):=⟨_,rfl⟩;(try rw [← hy247] at H);(try simp only [Option.bind_some] at H)));have Ny247:=Aside0.mk hy247;clear hy247
       replace H:=sp_ H;rcases H with ⟨c17,H⟩ | ⟨c17,H⟩
       · skip
         replace H:=np_ H;obtain ⟨c18,H⟩:=H
         (first | (with_reducible replace H:=ob_ H;obtain ⟨y250,hy250,H⟩:=H;(try dsimp only at H)) | (obtain ⟨y250,hy250⟩:∃ y_:List Int,y_ = (y247 ++ [wrap64 (a1 + a0_1)]):=⟨_,rfl⟩;(try rw [← hy250] at H);(try simp only [Option.bind_some] at H)));have Ny250:=Aside0.mk hy250;clear hy250
         obtain rfl:=Option.some.inj H
         go_wp2_with (first | ((with_reducible refine gd 41 rfl (L ?_));refine apa (A:=Ax7_10) 41 S Try.underlying23 info3 ?_ (ho:=rfl) (hs:=rfl) (hx:=rfl);clear S F;intro Ay247 cy247 W S;(try rw [← Ny247.out] at S ⊢);(try rw [← Ny250.out] at S ⊢);have F:=S.fc) | ((with_reducible refine gd 53 rfl (L ?_));refine apa (A:=Ay247) 53 S Try.underlying23 info3 ?_ (ho:=rfl) (hs:=rfl) (hx:=rfl);clear S F;intro Ay250 cy250 W S;(try rw [← Ny247.out] at S ⊢);(try rw [← Ny250.out] at S ⊢);have F:=S.fc))
         go_wp2_with (first | ((with_reducible refine gd 41 rfl (L ?_));refine apa (A:=Ax7_10) 41 S Try.underlying23 info3 ?_ (ho:=rfl) (hs:=rfl) (hx:=rfl);clear S F;intro Ay247 cy247 W S;(try rw [← Ny247.out] at S ⊢);(try rw [← Ny250.out] at S ⊢);have F:=S.fc) | ((with_reducible refine gd 53 rfl (L ?_));refine apa (A:=Ay247) 53 S Try.underlying23 info3 ?_ (ho:=rfl) (hs:=rfl) (hx:=rfl);clear S F;intro Ay250 cy250 W S;(try rw [← Ny247.out] at S ⊢);(try rw [← Ny250.out] at S ⊢);have F:=S.fc) | ((with_reducible refine gd 41 rfl (L ?_));refine apa (A:=Ax7_10) 41 S Try.underlying23 info3 ?_ (ho:=rfl) (hs:=rfl) (hx:=rfl);clear S F;intro Ay247 cy247 W S;(try rw [← Ny247.out] at S ⊢);(try rw [← Ny250.out] at S ⊢);have F:=S.fc) | ((with_reducible refine gd 53 rfl (L ?_));refine apa (A:=Ay247) 53 S Try.underlying23 info3 ?_ (ho:=rfl) (hs:=rfl) (hx:=rfl);clear S F;intro Ay250 cy250 W S;(try rw [← Ny247.out] at S ⊢);(try rw [← Ny250.out] at S ⊢);have F:=S.fc) | ((refine rq (id:=1) S [(0,0),(0,1),(0,4),(0,5),(1,2),(0,3),(0,8),(1,6),(0,7),(0,9)] [] (h:=?_);clear S F;intro W S;have S0:=S;have F:=S.fc)) | (refine q0 (h:=?_)) | (refine q1 S0 (h:=?_)) | (refine q0n (h:=?_)) | (refine q1n S0 (h:=?_)) | refine oz ?_)
         go_ret
         exact ⟨_,(by first | rfl | (simp [e0_,e1_] <;> rfl) | (simp [*,e0_,e1_] <;> rfl)),(by first | exact S.r | exact Kd.R_nil _ _ _ _ _),S.below⟩
       · skip
         obtain rfl:=Option.some.inj H
         go_wp2_with (first | ((with_reducible refine gd 41 rfl (L ?_));refine apa (A:=Ax7_10) 41 S Try.underlying23 info3 ?_ (ho:=rfl) (hs:=rfl) (hx:=rfl);clear S F;intro Ay247 cy247 W S;(try rw [← Ny247.out] at S ⊢);have F:=S.fc))
         go_wp2_with (first | ((with_reducible refine gd 41 rfl (L ?_));refine apa (A:=Ax7_10) 41 S Try.underlying23 info3 ?_ (ho:=rfl) (hs:=rfl) (hx:=rfl);clear S F;intro Ay247 cy247 W S;(try rw [← Ny247.out] at S ⊢);have F:=S.fc) | ((with_reducible refine gd 41 rfl (L ?_));refine apa (A:=Ax7_10) 41 S Try.underlying23 info3 ?_ (ho:=rfl) (hs:=rfl) (hx:=rfl);clear S F;intro Ay247 cy247 W S;(try rw [← Ny247.out] at S ⊢);have F:=S.fc) | ((refine rq (id:=1) S [(0,0),(0,1),(0,4),(0,5),(1,2),(0,3),(0,8),(1,6),(0,7),(0,9)] [] (h:=?_);clear S F;intro W S;have S0:=S;have F:=S.fc)) | (refine q0 (h:=?_)) | (refine q1 S0 (h:=?_)) | (refine q0n (h:=?_)) | (refine q1n S0 (h:=?_)) | refine oz ?_)
         go_ret
         exact ⟨_,(by first | rfl | (simp [e0_,e1_] <;> rfl) | (simp [*,e0_,e1_] <;> rfl)),(by first | exact S.r | exact Kd.R_nil _ _ _ _ _),S.below⟩
     · skip
       replace H:=sp_ H;rcases H with ⟨c26,H⟩ | ⟨c26,H⟩
       · skip
         replace H:=np_ H;obtain ⟨c27,H⟩:=H
         (first | (with_reducible replace H:=ob_ H;obtain ⟨y253,hy253,H⟩:=H;(try dsimp only at H)) | (obtain ⟨y253,hy253⟩:∃ y_:List Int,y_ = (x7_10 ++ [wrap64 (a1 + a0_1)]):=⟨_,rfl⟩;(try rw [← hy253] at H);(try simp only [Option.bind_some] at H)));have Ny253:=Aside0.mk hy253;clear hy253
         obtain rfl:=Option.some.inj H
         go_wp2_with (first | ((with_reducible refine gd 53 rfl (L ?_));refine apa (A:=Ax7_10) 53 S Try.underlying23 info3 ?_ (ho:=rfl) (hs:=rfl) (hx:=rfl);clear S F;intro Ay253 cy253 W S;(try rw [← Ny253.out] at S ⊢);have F:=S.fc))
         go_wp2_with (first | ((with_reducible refine gd 53 rfl (L ?_));refine apa (A:=Ax7_10) 53 S Try.underlying23 info3 ?_ (ho:=rfl) (hs:=rfl) (hx:=rfl);clear S F;intro Ay253 cy253 W S;(try rw [← Ny253.out] at S ⊢);have F:=S.fc) | ((with_reducible refine gd 53 rfl (L ?_));refine apa (A:=Ax7_10) 53 S Try.underlying23 info3 ?_ (ho:=rfl) (hs:=rfl) (hx:=rfl);clear S F;intro Ay253 cy253 W S;(try rw [← Ny253.out] at S ⊢);have F:=S.fc) | ((refine rq (id:=1) S [(0,0),(0,1),(0,4),(0,5),(1,2),(0,3),(0,8),(1,6),(0,7),(0,9)] [] (h:=?_);clear S F;intro W S;have S0:=S;have F:=S.fc)) | (refine q0 (h:=?_)) | (refine q1 S0 (h:=?_)) | (refine q0n (h:=?_)) | (refine q1n S0 (h:=?_)) | refine oz ?_)
         go_ret
         exact ⟨_,(by first | rfl | (simp [e0_,e1_] <;> rfl) | (simp [*,e0_,e1_] <;> rfl)),(by first | exact S.r | exact Kd.R_nil _ _ _ _ _),S.below⟩
       · skip
         obtain rfl:=Option.some.inj H
         go_wp2
         go_wp2_with (first | ((refine rq (id:=1) S [(0,0),(0,1),(0,4),(0,5),(1,2),(0,3),(0,8),(1,6),(0,7),(0,9)] [] (h:=?_);clear S F;intro W S;have S0:=S;have F:=S.fc)) | (refine q0 (h:=?_)) | (refine q1 S0 (h:=?_)) | (refine q0n (h:=?_)) | (refine q1n S0 (h:=?_)) | refine oz ?_)
         go_ret
         exact ⟨_,(by first | rfl | (simp [e0_,e1_] <;> rfl) | (simp [*,e0_,e1_] <;> rfl)),(by first | exact S.r | exact Kd.R_nil _ _ _ _ _),S.below⟩

/-! ### spec_ggGroups: function 136 -/
mutual
def spec_ggGroups.l0:Nat→List Int→Int→Int→Int→Int→List (S88)→Option (List Int)
  | 0,_,_,_,_,_,_=>none
  | k + 1,x3,x17,x18,x257000,x257001,x257002=>if x18 < x17 then (if 0 ≤ x18 then (if x18 < (x3.length:Int) then (spec_ggGroups.l0 k (x3.set (x18:Int).toNat (-1)) x17 (wrap64 (x18 + 1)) x257000 x257001 x257002) else (none)) else (none)) else (spec_ggGroups.l1 k x3 0 x257002 (x257002.length:Int) 0 x257000 x257001 x257002)
def spec_ggGroups.l1:Nat→List Int→Int→List (S88)→Int→Int→Int→Int→List (S88)→Option (List Int)
  | 0,_,_,_,_,_,_,_,_=>none
  | k + 1,x3,x5,x26,x27,x28,x257000,x257001,x257002=>if x28 < x27 then (if 0 ≤ x28 then (if x28 < (x26.length:Int) then ((spec_ggGear.f ((rd_T88 x26 x28).f0) ((rd_T88 x26 x28).f1)).bind fun t263=>(if t263 = true then (if x28 < (x3.length:Int) then (spec_ggGroups.j2 k x3 x5 x28 x26 x27 x28 (decide ((rd x3 x28) ≥ 0)) x257000 x257001 x257002) else (none)) else (spec_ggGroups.j2 k x3 x5 x28 x26 x27 x28 true x257000 x257001 x257002))) else (none)) else (none)) else (some x3)
def spec_ggGroups.j2:Nat→List Int→Int→Int→List (S88)→Int→Int→Bool→Int→Int→List (S88)→Option (List Int)
  | 0,_,_,_,_,_,_,_,_,_,_=>none
  | k + 1,x3,x5,x6,x26,x27,x28,x42,x257000,x257001,x257002=>if x42 = true then (spec_ggGroups.l1 k x3 x5 x26 x27 (wrap64 (x28 + 1)) x257000 x257001 x257002) else (if 0 ≤ x6 then (if x6 < (x3.length:Int) then (spec_ggGroups.l2 k (x3.set (x6:Int).toNat x5) x5 (([x6]:List Int)) 0 x26 x27 x28 x257000 x257001 x257002) else (none)) else (none))
def spec_ggGroups.l2:Nat→List Int→Int→List Int→Int→List (S88)→Int→Int→Int→Int→List (S88)→Option (List Int)
  | 0,_,_,_,_,_,_,_,_,_,_=>none
  | k + 1,x3,x5,x8,x9,x26,x27,x28,x257000,x257001,x257002=>if x9 < (x8.length:Int) then (if 0 ≤ x9 then ((spec_ggNear.f k x257000 x257001 x257002 (rd x8 x9)).bind fun t270=>(spec_ggGroups.l3 k x3 x5 x8 x9 x26 x27 x28 t270 (t270.length:Int) 0 x257000 x257001 x257002)) else (none)) else (spec_ggGroups.l1 k x3 (wrap64 (x5 + 1)) x26 x27 (wrap64 (x28 + 1)) x257000 x257001 x257002)
def spec_ggGroups.l3:Nat→List Int→Int→List Int→Int→List (S88)→Int→Int→List Int→Int→Int→Int→Int→List (S88)→Option (List Int)
  | 0,_,_,_,_,_,_,_,_,_,_,_,_,_=>none
  | k + 1,x3,x5,x8,x9,x26,x27,x28,x60,x61,x62,x257000,x257001,x257002=>if x62 < x61 then (if 0 ≤ x62 then (if x62 < (x60.length:Int) then (if 0 ≤ (rd x60 x62) then (if (rd x60 x62) < (x257002.length:Int) then ((spec_ggGear.f ((rd_T88 x257002 (rd x60 x62)).f0) ((rd_T88 x257002 (rd x60 x62)).f1)).bind fun t275=>(if t275 = true then (if (rd x60 x62) < (x3.length:Int) then (if (rd x3 (rd x60 x62)) < 0 then (if x8.length < 17592186044416 then (spec_ggGroups.l3 k (x3.set ((rd x60 x62):Int).toNat x5) x5 (x8 ++ [rd x60 x62]) x9 x26 x27 x28 x60 x61 (wrap64 (x62 + 1)) x257000 x257001 x257002) else (none)) else (spec_ggGroups.l3 k x3 x5 x8 x9 x26 x27 x28 x60 x61 (wrap64 (x62 + 1)) x257000 x257001 x257002)) else (none)) else (spec_ggGroups.l3 k x3 x5 x8 x9 x26 x27 x28 x60 x61 (wrap64 (x62 + 1)) x257000 x257001 x257002))) else (none)) else (none)) else (none)) else (none)) else (spec_ggGroups.l2 k x3 x5 x8 (wrap64 (x9 + 1)) x26 x27 x28 x257000 x257001 x257002)
end
def spec_ggGroups.f (k:Nat) (a0_0:Int) (a0_1:Int) (l0_2:List (S88)):Option (List Int):=if 0 ≤ (l0_2.length:Int) then (if ((l0_2.length:Int):Int).toNat ≤ 35184372088832 then ((some (List.replicate ((l0_2.length:Int):Int).toNat 0:List Int)).bind fun y257=>(spec_ggGroups.l0 k y257 (y257.length:Int) 0 a0_0 a0_1 l0_2)) else (none)) else (none)
theorem spec_ggGroups.calls (k:Nat) (a0_0:Int) (a0_1:Int) (A0_2:Option Addr) (c0_2:Nat) (l0_2:List (S88)) (r:List Int) (w:World) (hr0_2:Kd.C k88 w A0_2 l0_2.length l0_2) (hc0_2:l0_2.length ≤ c0_2) (h:spec_ggGroups.f k a0_0 a0_1 l0_2 = some r) :
    Calls Try.prog 136 #[.agg #[.int .i64 a0_0,.int .i64 a0_1,.slice A0_2 l0_2.length c0_2]] w fun e w'=>∃ v0_:Value,e = .returned (v0_)∧Kd.R (Kd.int .i64) 3 w' w.heap.size (fun _=>True) v0_ r∧Below w.heap.size w w':=by
 have S:=St.init (w:=w) (dc k88_heap at88 hr0_2 hc0_2 dn)
 clear hr0_2 hc0_2
 have F:=S.fc
 have H:=h;clear h;unfold spec_ggGroups.f at H
 replace H:=np_ H;obtain ⟨c2,H⟩:=H;(try simp only [F] at c2)
 replace H:=np_ H;obtain ⟨c3,H⟩:=H;(try simp only [F] at c3)
 (first | (with_reducible replace H:=ob_ H;obtain ⟨y257,hy257,H⟩:=H;(try dsimp only at H)) | (obtain ⟨y257,hy257⟩:∃ y_:List Int,y_ = (List.replicate ((l0_2.length:Int):Int).toNat 0):=⟨_,rfl⟩;(try rw [← hy257] at H);(try simp only [Option.bind_some] at H)));have Ny257:=Aside0.mk hy257;clear hy257
 go_enter Try.func136,Try.ntmps136
 go_wp2_with (first | ((with_reducible refine gd 1 rfl (L ?_));refine bo 1 (.agg #[_,_,_]) S ?_;clear S F;intro gb256 W S;have F:=S.fc) | ((with_reducible refine gd 15 rfl (L ?_));refine mka 15 (atI .i64) S Try.underlying23 info3 ?_;clear S F;intro Ay257 cy257 W S;(try simp only [Int.reduceToNat] at S ⊢);(try rw [← Ny257.out] at S ⊢);have F:=S.fc) | ((with_reducible refine gs (t:=3) rfl (L ?_));(first | refine sb (.int _ _) S sz3 ?_ | refine ro (.int _ _) S sz3 ?_ (ho:=rfl) (hx:=rfl) (hy:=rfl));clear S F;intro W S;(try simp only [gd88] at S);(try rw [← Ny257.out] at S);have F:=S.fc) | ((with_reducible refine gs (t:=88) rfl (L ?_));(first | refine sb (.agg #[_,_]) S sz88 ?_ | refine ro (.agg #[_,_]) S sz88 ?_ (ho:=rfl) (hx:=rfl) (hy:=rfl));clear S F;intro W S;(try simp only [gd88] at S);(try rw [← Ny257.out] at S);have F:=S.fc))
 go_loopg [18] k (fun kq v18 w'=>∃ (x3_1:List Int) (x18_1:Int),v18 = .int .i64 x18_1∧spec_ggGroups.l0 kq x3_1 (y257.length:Int) x18_1 a0_0 a0_1 l0_2 = some r∧kq ≤ k∧St w w (fun _=>False) [bor at88 A0_2 c0_2 l0_2] w'  [row (atI .i64) 3 Ay257 y257.length cy257 x3_1,box gb256 50 [.int .i64 a0_0,.int .i64 a0_1,.slice A0_2 l0_2.length c0_2]])
 case atStart=>exact ⟨y257,0,(by first | rfl | (simp;done) | (simp [*];done) | (rw [w6_ (by omega) (by omega)])),(by first | exact H | (simp only [F];exact H)),Nat.le_refl _,S⟩
 case round =>
  clear H S F
  obtain ⟨x3_1,x18_1,rfl,HA,HK1,S⟩:=hrel
  have F:=S.fc
  cases gk with
  | zero=>exact absurd HA (by simp [spec_ggGroups.l0])
  | succ k1 =>
   have H:=HA;clear HA;simp only [spec_ggGroups.l0,F] at H
   replace H:=sp_ H;rcases H with ⟨c9,H⟩ | ⟨c9,H⟩
   · skip
     replace H:=np_ H;obtain ⟨c10,H⟩:=H;(try simp only [F] at c10)
     replace H:=np_ H;obtain ⟨c11,H⟩:=H;(try simp only [F] at c11)
     (first | (with_reducible replace H:=ob_ H;obtain ⟨y260,hy260,H⟩:=H;(try dsimp only at H)) | (obtain ⟨y260,hy260⟩:∃ y_:List Int,y_ = (x3_1.set (x18_1:Int).toNat (-1)):=⟨_,rfl⟩;(try rw [← hy260] at H);(try simp only [Option.bind_some] at H)));have Ny260:=Aside0.mk hy260;clear hy260
     go_wp2_with (first | ((with_reducible refine gs (t:=3) rfl (L ?_));(first | refine sb (.int _ _) S sz3 ?_ | refine ro (.int _ _) S sz3 ?_ (ho:=rfl) (hx:=rfl) (hy:=rfl));clear S F;intro W S;(try simp only [gd88] at S);(try rw [← Ny257.out] at S);(try rw [← Ny260.out] at S);have F:=S.fc) | ((with_reducible refine gs (t:=88) rfl (L ?_));(first | refine sb (.agg #[_,_]) S sz88 ?_ | refine ro (.agg #[_,_]) S sz88 ?_ (ho:=rfl) (hx:=rfl) (hy:=rfl));clear S F;intro W S;(try simp only [gd88] at S);(try rw [← Ny257.out] at S);(try rw [← Ny260.out] at S);have F:=S.fc))
     go_roundg k1
     case measure=>omega
     case rel=>exact ⟨y260,(wrap64 (x18_1 + 1)),(by first | rfl | (simp;done) | (simp [*];done) | (rw [w6_ (by omega) (by omega)])),(by first | exact H | (simp only [F];exact H)),(by first | omega | exact Nat.le_refl _),S⟩
   · skip
     go_wp2_with (first | ((with_reducible refine gs (t:=3) rfl (L ?_));(first | refine sb (.int _ _) S sz3 ?_ | refine ro (.int _ _) S sz3 ?_ (ho:=rfl) (hx:=rfl) (hy:=rfl));clear S F;intro W S;(try simp only [gd88] at S);(try rw [← Ny257.out] at S);have F:=S.fc) | ((with_reducible refine gs (t:=88) rfl (L ?_));(first | refine sb (.agg #[_,_]) S sz88 ?_ | refine ro (.agg #[_,_]) S sz88 ?_ (ho:=rfl) (hx:=rfl) (hy:=rfl));clear S F;intro W S;(try simp only [gd88] at S);(try rw [← Ny257.out] at S);have F:=S.fc))
     go_loopg [5,28] k1 (fun kq v5 v28 w'=>∃ (x3_2:List Int) (x5_2:Int) (x28_2:Int),v5 = .int .i64 x5_2∧v28 = .int .i64 x28_2∧spec_ggGroups.l1 kq x3_2 x5_2 l0_2 (l0_2.length:Int) x28_2 a0_0 a0_1 l0_2 = some r∧kq ≤ k1∧St w w (fun _=>False) [bor at88 A0_2 c0_2 l0_2] w'  [row (atI .i64) 3 Ay257 y257.length cy257 x3_2,box gb256 50 [.int .i64 a0_0,.int .i64 a0_1,.slice A0_2 l0_2.length c0_2]])
     case atStart=>exact ⟨x3_1,0,0,(by first | rfl | (simp;done) | (simp [*];done) | (rw [w6_ (by omega) (by omega)])),(by first | rfl | (simp;done) | (simp [*];done) | (rw [w6_ (by omega) (by omega)])),(by first | exact H | (simp only [F];exact H)),Nat.le_refl _,S⟩
     case round =>
      clear H S F
      obtain ⟨x3_2,x5_2,x28_2,rfl,rfl,HA,HK2,S⟩:=hrel
      have F:=S.fc
      cases gk with
      | zero=>exact absurd HA (by simp [spec_ggGroups.l1])
      | succ k2 =>
       have H:=HA;clear HA;simp only [spec_ggGroups.l1,F] at H
       replace H:=sp_ H;rcases H with ⟨c16,H⟩ | ⟨c16,H⟩
       · skip
         replace H:=np_ H;obtain ⟨c17,H⟩:=H;(try simp only [F] at c17)
         replace H:=np_ H;obtain ⟨c18,H⟩:=H;(try simp only [F] at c18)
         go_upto_region 11 with (first | ((with_reducible refine gd 7 rfl (L ?_));refine al 7 S zi88 ?_;clear S F;intro gb262 W S;have F:=S.fc) | ((with_reducible refine gs (t:=3) rfl (L ?_));(first | refine sb (.int _ _) S sz3 ?_ | refine ro (.int _ _) S sz3 ?_ (ho:=rfl) (hx:=rfl) (hy:=rfl));clear S F;intro W S;(try simp only [gd88] at S);(try rw [← Ny257.out] at S);have F:=S.fc) | ((with_reducible refine gs (t:=88) rfl (L ?_));(first | refine sb (.agg #[_,_]) S sz88 ?_ | refine ro (.agg #[_,_]) S sz88 ?_ (ho:=rfl) (hx:=rfl) (hy:=rfl));clear S F;intro W S;(try simp only [gd88] at S);(try rw [← Ny257.out] at S);have F:=S.fc))
         (try simp only [Act.put,List.setIfInBounds_toArray,List.set_cons_zero,List.set_cons_succ])
         go_cut [42] (fun v42 wc=>∃ (kq:Nat) (x42_18:Bool),v42 = .bool x42_18∧spec_ggGroups.j2 kq x3_2 x5_2 x28_2 l0_2 (l0_2.length:Int) x28_2 x42_18 a0_0 a0_1 l0_2 = some r∧kq ≤ k2∧St w w (fun _=>False) [bor at88 A0_2 c0_2 l0_2] wc  [box gb262 88 [.int .i64 ((rd_T88 l0_2 x28_2).f0),.int .i64 ((rd_T88 l0_2 x28_2).f1)],row (atI .i64) 3 Ay257 y257.length cy257 x3_2,box gb256 50 [.int .i64 a0_0,.int .i64 a0_1,.slice A0_2 l0_2.length c0_2]])
         case first =>
          replace H:=Option.bind_eq_some_iff.mp H;obtain ⟨t263,A23,H⟩:=H;(try dsimp only at H)
          replace H:=sp_ H;rcases H with ⟨c24,H⟩ | ⟨c24,H⟩
          · skip
            subst c24
            replace H:=np_ H;obtain ⟨c25,H⟩:=H;(try simp only [F] at c25)
            go_wp2_with (first | ((with_reducible refine gate_callee (f:=145) rfl (L ?_));refine cl (some 34) Try.func145 (spec_ggGear.calls _ _ _ _ A23) (hargs:=by (simp only [ma_,mb_,mc_,F] <;> rfl)) (h:=?_);rintro e W ⟨rfl,hb⟩;refine ⟨_,rfl,?_⟩;replace S:=S.go hb;clear F hb;have F:=S.fc) | ((with_reducible refine gs (t:=3) rfl (L ?_));(first | refine sb (.int _ _) S sz3 ?_ | refine ro (.int _ _) S sz3 ?_ (ho:=rfl) (hx:=rfl) (hy:=rfl));clear S F;intro W S;(try simp only [gd88] at S);(try rw [← Ny257.out] at S);have F:=S.fc) | ((with_reducible refine gs (t:=88) rfl (L ?_));(first | refine sb (.agg #[_,_]) S sz88 ?_ | refine ro (.agg #[_,_]) S sz88 ?_ (ho:=rfl) (hx:=rfl) (hy:=rfl));clear S F;intro W S;(try simp only [gd88] at S);(try rw [← Ny257.out] at S);have F:=S.fc))
            go_meet
            case rel=>exact ⟨_,(decide ((rd x3_2 x28_2) ≥ 0)),(by first | rfl | (simp;done) | (simp [*];done) | (rw [w6_ (by omega) (by omega)])),(by first | exact H | (simp only [F];exact H)),(by first | omega | exact Nat.le_refl _),S⟩
          · skip
            replace c24:=cbf c24;subst c24
            go_wp2_with (first | ((with_reducible refine gate_callee (f:=145) rfl (L ?_));refine cl (some 34) Try.func145 (spec_ggGear.calls _ _ _ _ A23) (hargs:=by (simp only [ma_,mb_,mc_,F] <;> rfl)) (h:=?_);rintro e W ⟨rfl,hb⟩;refine ⟨_,rfl,?_⟩;replace S:=S.go hb;clear F hb;have F:=S.fc) | ((with_reducible refine gs (t:=3) rfl (L ?_));(first | refine sb (.int _ _) S sz3 ?_ | refine ro (.int _ _) S sz3 ?_ (ho:=rfl) (hx:=rfl) (hy:=rfl));clear S F;intro W S;(try simp only [gd88] at S);(try rw [← Ny257.out] at S);have F:=S.fc) | ((with_reducible refine gs (t:=88) rfl (L ?_));(first | refine sb (.agg #[_,_]) S sz88 ?_ | refine ro (.agg #[_,_]) S sz88 ?_ (ho:=rfl) (hx:=rfl) (hy:=rfl));clear S F;intro W S;(try simp only [gd88] at S);(try rw [← Ny257.out] at S);have F:=S.fc))
            go_meet
            case rel=>exact ⟨_,true,(by first | rfl | (simp;done) | (simp [*];done) | (rw [w6_ (by omega) (by omega)])),(by first | exact H | (simp only [F];exact H)),(by first | omega | exact Nat.le_refl _),S⟩
         case rest =>
          clear H S F
          obtain ⟨kq,x42_18,rfl,HA,HJ18,S⟩:=hcut
          have F:=S.fc
          cases kq with
          | zero=>exact absurd HA (by simp [spec_ggGroups.j2])
          | succ kj18 =>
           have H:=HA;clear HA;simp only [spec_ggGroups.j2,F] at H
           replace H:=sp_ H;rcases H with ⟨c32,H⟩ | ⟨c32,H⟩
           · skip
             subst c32
             go_wp2_with (first | ((with_reducible refine gs (t:=3) rfl (L ?_));(first | refine sb (.int _ _) S sz3 ?_ | refine ro (.int _ _) S sz3 ?_ (ho:=rfl) (hx:=rfl) (hy:=rfl));clear S F;intro W S;(try simp only [gd88] at S);(try rw [← Ny257.out] at S);have F:=S.fc) | ((with_reducible refine gs (t:=88) rfl (L ?_));(first | refine sb (.agg #[_,_]) S sz88 ?_ | refine ro (.agg #[_,_]) S sz88 ?_ (ho:=rfl) (hx:=rfl) (hy:=rfl));clear S F;intro W S;(try simp only [gd88] at S);(try rw [← Ny257.out] at S);have F:=S.fc))
             go_roundg kj18
             case measure=>omega
             case rel=>exact ⟨x3_2,x5_2,(wrap64 (x28_2 + 1)),(by first | rfl | (simp;done) | (simp [*];done) | (rw [w6_ (by omega) (by omega)])),(by first | rfl | (simp;done) | (simp [*];done) | (rw [w6_ (by omega) (by omega)])),(by first | exact H | (simp only [F];exact H)),(by first | omega | exact Nat.le_refl _),S.tl⟩
           · skip
             replace c32:=cbf c32;subst c32
             replace H:=np_ H;obtain ⟨c33,H⟩:=H;(try simp only [F] at c33)
             replace H:=np_ H;obtain ⟨c34,H⟩:=H;(try simp only [F] at c34)
             (first | (with_reducible replace H:=ob_ H;obtain ⟨y265,hy265,H⟩:=H;(try dsimp only at H)) | (obtain ⟨y265,hy265⟩:∃ y_:List Int,y_ = (x3_2.set (x28_2:Int).toNat x5_2):=⟨_,rfl⟩;(try rw [← hy265] at H);(try simp only [Option.bind_some] at H)));have Ny265:=Aside0.mk hy265;clear hy265
             (first | (with_reducible replace H:=ob_ H;obtain ⟨y266,hy266,H⟩:=H;(try dsimp only at H)) | (obtain ⟨y266,hy266⟩:∃ y_:List Int,y_ = (([x28_2]:List Int)):=⟨_,rfl⟩;(try rw [← hy266] at H);(try simp only [Option.bind_some] at H)));have Ny266:=Aside0.mk hy266;clear hy266
             go_wp2_with (first | ((with_reducible refine gd 48 rfl (L ?_));refine lia 48 (atI .i64) 3 S ([x28_2]:List Int) (fun _ _=>(Reps.one (show Kd.M (Kd.int .i64) _ _ _ x28_2 [.int .i64 x28_2] from rfl) (Reps.none _ _))) (by first | (go_simp;done) | (go_simp;rfl)) ?_;clear S F;intro Ay266 cy266 W S;(try rw [← Ny257.out] at S ⊢);(try rw [← Ny265.out] at S ⊢);(try rw [← Ny266.out] at S ⊢);have F:=S.fc) | ((with_reducible refine gs (t:=3) rfl (L ?_));(first | refine sb (.int _ _) S sz3 ?_ | refine ro (.int _ _) S sz3 ?_ (ho:=rfl) (hx:=rfl) (hy:=rfl));clear S F;intro W S;(try simp only [gd88] at S);(try rw [← Ny257.out] at S);(try rw [← Ny265.out] at S);(try rw [← Ny266.out] at S);have F:=S.fc) | ((with_reducible refine gs (t:=88) rfl (L ?_));(first | refine sb (.agg #[_,_]) S sz88 ?_ | refine ro (.agg #[_,_]) S sz88 ?_ (ho:=rfl) (hx:=rfl) (hy:=rfl));clear S F;intro W S;(try simp only [gd88] at S);(try rw [← Ny257.out] at S);(try rw [← Ny265.out] at S);(try rw [← Ny266.out] at S);have F:=S.fc))
             go_loopg [8,9] kj18 (fun kq v8 v9 w'=>∃ (x3_4:List Int) (x8_4:List Int) (x9_4:Int) (Ax8_4:Option Addr) (cx8_4:Nat),v9 = .int .i64 x9_4∧v8 = .slice Ax8_4 x8_4.length cx8_4∧spec_ggGroups.l2 kq x3_4 x5_2 x8_4 x9_4 l0_2 (l0_2.length:Int) x28_2 a0_0 a0_1 l0_2 = some r∧kq ≤ kj18∧St w w (fun _=>False) [bor at88 A0_2 c0_2 l0_2] w'  [row (atI .i64) 3 Ax8_4 x8_4.length cx8_4 x8_4,box gb262 88 [.int .i64 ((rd_T88 l0_2 x28_2).f0),.int .i64 ((rd_T88 l0_2 x28_2).f1)],row (atI .i64) 3 Ay257 y257.length cy257 x3_4,box gb256 50 [.int .i64 a0_0,.int .i64 a0_1,.slice A0_2 l0_2.length c0_2]])
             case atStart=>exact ⟨y265,y266,0,_,_,(by first | rfl | (simp;done) | (simp [*];done) | (rw [w6_ (by omega) (by omega)])),rfl,(by first | exact H | (simp only [F];exact H)),Nat.le_refl _,S⟩
             case round =>
              clear H S F
              obtain ⟨x3_4,x8_4,x9_4,Ax8_4,cx8_4,rfl,rfl,HA,HK4,S⟩:=hrel
              have F:=S.fc
              cases gk with
              | zero=>exact absurd HA (by simp [spec_ggGroups.l2])
              | succ k4 =>
               have H:=HA;clear HA;simp only [spec_ggGroups.l2,F] at H
               replace H:=sp_ H;rcases H with ⟨c40,H⟩ | ⟨c40,H⟩
               · skip
                 replace H:=np_ H;obtain ⟨c41,H⟩:=H;(try simp only [F] at c41)
                 replace H:=Option.bind_eq_some_iff.mp H;obtain ⟨t270,A42,H⟩:=H;(try dsimp only at H)
                 go_wp2_with (first | ((with_reducible refine gs (t:=3) rfl (L ?_));(first | refine sb (.int _ _) S sz3 ?_ | refine ro (.int _ _) S sz3 ?_ (ho:=rfl) (hx:=rfl) (hy:=rfl));clear S F;intro W S;(try simp only [gd88] at S);(try rw [← Ny257.out] at S);(try rw [← Ny265.out] at S);(try rw [← Ny266.out] at S);have F:=S.fc) | ((with_reducible refine gs (t:=88) rfl (L ?_));(first | refine sb (.agg #[_,_]) S sz88 ?_ | refine ro (.agg #[_,_]) S sz88 ?_ (ho:=rfl) (hx:=rfl) (hy:=rfl));clear S F;intro W S;(try simp only [gd88] at S);(try rw [← Ny257.out] at S);(try rw [← Ny265.out] at S);(try rw [← Ny266.out] at S);have F:=S.fc))
                 refine rq S [(0,1),(0,2),(0,3),(0,7),(1,0),(1,4),(2,5),(0,6)] [] (h:=?_);clear S F;intro W S;have S0:=S;have F:=S.fc
                 repeat (first | (refine q0 (h:=?_)) | (refine q1 S0 (h:=?_)) | (refine q0n (h:=?_)) | (refine q1n S0 (h:=?_)))
                 refine lk2 (by rfl) (by exact (Eq.refl true)) ?_;refine cl (some 60) Try.func146 (spec_ggNear.calls _ _ _ _ _ _ _ _ _ S.c S.n A42) (hargs:=by (simp only [ma_,mb_,mc_,F] <;> rfl)) (h:=?_);rintro e W ⟨v271,rfl,ho0,hb⟩;refine ⟨_,rfl,?_⟩;replace S:=S.got (atI .i64) hb ho0;obtain ⟨At270,ct270,rfl,S⟩:=S;clear F hb ho0;(try rw [← Ny257.out] at S);(try rw [← Ny265.out] at S);(try rw [← Ny266.out] at S);have F:=S.fc
                 clear S0;have S0:=S.tl;refine ⟨S0,?_⟩
                 repeat (first | (refine q0 (h:=?_)) | (refine q1 S0 (h:=?_)) | (refine q0n (h:=?_)) | (refine q1n S0 (h:=?_)))
                 refine oz ?_
                 try clear S0
                 go_wp2_with (first | ((with_reducible refine gs (t:=3) rfl (L ?_));(first | refine sb (.int _ _) S sz3 ?_ | refine ro (.int _ _) S sz3 ?_ (ho:=rfl) (hx:=rfl) (hy:=rfl));clear S F;intro W S;(try simp only [gd88] at S);(try rw [← Ny257.out] at S);(try rw [← Ny265.out] at S);(try rw [← Ny266.out] at S);have F:=S.fc) | ((with_reducible refine gs (t:=88) rfl (L ?_));(first | refine sb (.agg #[_,_]) S sz88 ?_ | refine ro (.agg #[_,_]) S sz88 ?_ (ho:=rfl) (hx:=rfl) (hy:=rfl));clear S F;intro W S;(try simp only [gd88] at S);(try rw [← Ny257.out] at S);(try rw [← Ny265.out] at S);(try rw [← Ny266.out] at S);have F:=S.fc))
                 go_loopg [8,62] k4 (fun kq v8 v62 w'=>∃ (x3_5:List Int) (x8_5:List Int) (x62_5:Int) (Ax8_5:Option Addr) (cx8_5:Nat),v62 = .int .i64 x62_5∧v8 = .slice Ax8_5 x8_5.length cx8_5∧spec_ggGroups.l3 kq x3_5 x5_2 x8_5 x9_4 l0_2 (l0_2.length:Int) x28_2 t270 (t270.length:Int) x62_5 a0_0 a0_1 l0_2 = some r∧kq ≤ k4∧St w w (fun _=>False) [bor at88 A0_2 c0_2 l0_2] w'  [row (atI .i64) 3 At270 t270.length ct270 t270,row (atI .i64) 3 Ax8_5 x8_5.length cx8_5 x8_5,box gb262 88 [.int .i64 ((rd_T88 l0_2 x28_2).f0),.int .i64 ((rd_T88 l0_2 x28_2).f1)],row (atI .i64) 3 Ay257 y257.length cy257 x3_5,box gb256 50 [.int .i64 a0_0,.int .i64 a0_1,.slice A0_2 l0_2.length c0_2]])
                 case atStart=>exact ⟨x3_4,x8_4,0,_,_,(by first | rfl | (simp;done) | (simp [*];done) | (rw [w6_ (by omega) (by omega)])),rfl,(by first | exact H | (simp only [F];exact H)),Nat.le_refl _,S⟩
                 case round =>
                  clear H S F
                  obtain ⟨x3_5,x8_5,x62_5,Ax8_5,cx8_5,rfl,rfl,HA,HK5,S⟩:=hrel
                  have F:=S.fc
                  cases gk with
                  | zero=>exact absurd HA (by simp [spec_ggGroups.l3])
                  | succ k5 =>
                   have H:=HA;clear HA;simp only [spec_ggGroups.l3,F] at H
                   replace H:=sp_ H;rcases H with ⟨c47,H⟩ | ⟨c47,H⟩
                   · skip
                     replace H:=np_ H;obtain ⟨c48,H⟩:=H;(try simp only [F] at c48)
                     replace H:=np_ H;obtain ⟨c49,H⟩:=H;(try simp only [F] at c49)
                     replace H:=np_ H;obtain ⟨c50,H⟩:=H;(try simp only [F] at c50)
                     replace H:=np_ H;obtain ⟨c51,H⟩:=H;(try simp only [F] at c51)
                     replace H:=Option.bind_eq_some_iff.mp H;obtain ⟨t275,A52,H⟩:=H;(try dsimp only at H)
                     replace H:=sp_ H;rcases H with ⟨c53,H⟩ | ⟨c53,H⟩
                     · skip
                       subst c53
                       replace H:=np_ H;obtain ⟨c54,H⟩:=H;(try simp only [F] at c54)
                       replace H:=sp_ H;rcases H with ⟨c55,H⟩ | ⟨c55,H⟩
                       · skip
                         (first | (with_reducible replace H:=ob_ H;obtain ⟨y277,hy277,H⟩:=H;(try dsimp only at H)) | (obtain ⟨y277,hy277⟩:∃ y_:List Int,y_ = (x3_5.set ((rd t270 x62_5):Int).toNat x5_2):=⟨_,rfl⟩;(try rw [← hy277] at H);(try simp only [Option.bind_some] at H)));have Ny277:=Aside0.mk hy277;clear hy277
                         replace H:=np_ H;obtain ⟨c57,H⟩:=H;(try simp only [F] at c57)
                         (first | (with_reducible replace H:=ob_ H;obtain ⟨y278,hy278,H⟩:=H;(try dsimp only at H)) | (obtain ⟨y278,hy278⟩:∃ y_:List Int,y_ = (x8_5 ++ [rd t270 x62_5]):=⟨_,rfl⟩;(try rw [← hy278] at H);(try simp only [Option.bind_some] at H)));have Ny278:=Aside0.mk hy278;clear hy278
                         go_wp2_with (first | ((with_reducible refine gate_callee (f:=145) rfl (L ?_));refine cl (some 71) Try.func145 (spec_ggGear.calls _ _ _ _ A52) (hargs:=by (simp only [ma_,mb_,mc_,F] <;> rfl)) (h:=?_);rintro e W ⟨rfl,hb⟩;refine ⟨_,rfl,?_⟩;replace S:=S.go hb;clear F hb;have F:=S.fc) | ((with_reducible refine gd 86 rfl (L ?_));refine apa (A:=Ax8_5) 86 S Try.underlying23 info3 ?_ (ho:=rfl) (hs:=rfl) (hx:=rfl);clear S F;intro Ay278 cy278 W S;(try rw [← Ny257.out] at S ⊢);(try rw [← Ny265.out] at S ⊢);(try rw [← Ny266.out] at S ⊢);(try rw [← Ny277.out] at S ⊢);(try rw [← Ny278.out] at S ⊢);have F:=S.fc) | ((with_reducible refine gs (t:=3) rfl (L ?_));(first | refine sb (.int _ _) S sz3 ?_ | refine ro (.int _ _) S sz3 ?_ (ho:=rfl) (hx:=rfl) (hy:=rfl));clear S F;intro W S;(try simp only [gd88] at S);(try rw [← Ny257.out] at S);(try rw [← Ny265.out] at S);(try rw [← Ny266.out] at S);(try rw [← Ny277.out] at S);(try rw [← Ny278.out] at S);have F:=S.fc) | ((with_reducible refine gs (t:=88) rfl (L ?_));(first | refine sb (.agg #[_,_]) S sz88 ?_ | refine ro (.agg #[_,_]) S sz88 ?_ (ho:=rfl) (hx:=rfl) (hy:=rfl));clear S F;intro W S;(try simp only [gd88] at S);(try rw [← Ny257.out] at S);(try rw [← Ny265.out] at S);(try rw [← Ny266.out] at S);(try rw [← Ny277.out] at S);(try rw [← Ny278.out] at S);have F:=S.fc))
                         go_roundg k5
                         case measure=>omega
                         case rel=>first | (exact ⟨y277,y278,(wrap64 (x62_5 + 1)),_,_,(by first | rfl | (simp;done) | (simp [*];done) | (rw [w6_ (by omega) (by omega)])),rfl,(by first | exact H | (simp only [F];exact H)),(by first | omega | exact Nat.le_refl _),S⟩) | (exact ⟨y277,y278,(wrap64 (x62_5 + 1)),_,_,(by first | rfl | (simp;done) | (simp [*];done) | (rw [w6_ (by omega) (by omega)])),rfl,(by first | exact H | (simp only [F];exact H)),(by first | omega | exact Nat.le_refl _),S.tl⟩)
                       · skip
                         go_wp2_with (first | ((with_reducible refine gate_callee (f:=145) rfl (L ?_));refine cl (some 71) Try.func145 (spec_ggGear.calls _ _ _ _ A52) (hargs:=by (simp only [ma_,mb_,mc_,F] <;> rfl)) (h:=?_);rintro e W ⟨rfl,hb⟩;refine ⟨_,rfl,?_⟩;replace S:=S.go hb;clear F hb;have F:=S.fc) | ((with_reducible refine gs (t:=3) rfl (L ?_));(first | refine sb (.int _ _) S sz3 ?_ | refine ro (.int _ _) S sz3 ?_ (ho:=rfl) (hx:=rfl) (hy:=rfl));clear S F;intro W S;(try simp only [gd88] at S);(try rw [← Ny257.out] at S);(try rw [← Ny265.out] at S);(try rw [← Ny266.out] at S);have F:=S.fc) | ((with_reducible refine gs (t:=88) rfl (L ?_));(first | refine sb (.agg #[_,_]) S sz88 ?_ | refine ro (.agg #[_,_]) S sz88 ?_ (ho:=rfl) (hx:=rfl) (hy:=rfl));clear S F;intro W S;(try simp only [gd88] at S);(try rw [← Ny257.out] at S);(try rw [← Ny265.out] at S);(try rw [← Ny266.out] at S);have F:=S.fc))
                         go_roundg k5
                         case measure=>omega
                         case rel=>first | (exact ⟨x3_5,x8_5,(wrap64 (x62_5 + 1)),_,_,(by first | rfl | (simp;done) | (simp [*];done) | (rw [w6_ (by omega) (by omega)])),rfl,(by first | exact H | (simp only [F];exact H)),(by first | omega | exact Nat.le_refl _),S⟩) | (exact ⟨x3_5,x8_5,(wrap64 (x62_5 + 1)),_,_,(by first | rfl | (simp;done) | (simp [*];done) | (rw [w6_ (by omega) (by omega)])),rfl,(by first | exact H | (simp only [F];exact H)),(by first | omega | exact Nat.le_refl _),S.tl⟩)
                     · skip
                       replace c53:=cbf c53;subst c53
                       go_wp2_with (first | ((with_reducible refine gate_callee (f:=145) rfl (L ?_));refine cl (some 71) Try.func145 (spec_ggGear.calls _ _ _ _ A52) (hargs:=by (simp only [ma_,mb_,mc_,F] <;> rfl)) (h:=?_);rintro e W ⟨rfl,hb⟩;refine ⟨_,rfl,?_⟩;replace S:=S.go hb;clear F hb;have F:=S.fc) | ((with_reducible refine gs (t:=3) rfl (L ?_));(first | refine sb (.int _ _) S sz3 ?_ | refine ro (.int _ _) S sz3 ?_ (ho:=rfl) (hx:=rfl) (hy:=rfl));clear S F;intro W S;(try simp only [gd88] at S);(try rw [← Ny257.out] at S);(try rw [← Ny265.out] at S);(try rw [← Ny266.out] at S);have F:=S.fc) | ((with_reducible refine gs (t:=88) rfl (L ?_));(first | refine sb (.agg #[_,_]) S sz88 ?_ | refine ro (.agg #[_,_]) S sz88 ?_ (ho:=rfl) (hx:=rfl) (hy:=rfl));clear S F;intro W S;(try simp only [gd88] at S);(try rw [← Ny257.out] at S);(try rw [← Ny265.out] at S);(try rw [← Ny266.out] at S);have F:=S.fc))
                       go_roundg k5
                       case measure=>omega
                       case rel=>first | (exact ⟨x3_5,x8_5,(wrap64 (x62_5 + 1)),_,_,(by first | rfl | (simp;done) | (simp [*];done) | (rw [w6_ (by omega) (by omega)])),rfl,(by first | exact H | (simp only [F];exact H)),(by first | omega | exact Nat.le_refl _),S⟩) | (exact ⟨x3_5,x8_5,(wrap64 (x62_5 + 1)),_,_,(by first | rfl | (simp;done) | (simp [*];done) | (rw [w6_ (by omega) (by omega)])),rfl,(by first | exact H | (simp only [F];exact H)),(by first | omega | exact Nat.le_refl _),S.tl⟩)
                   · skip
                     go_wp2_with (first | ((with_reducible refine gs (t:=3) rfl (L ?_));(first | refine sb (.int _ _) S sz3 ?_ | refine ro (.int _ _) S sz3 ?_ (ho:=rfl) (hx:=rfl) (hy:=rfl));clear S F;intro W S;(try simp only [gd88] at S);(try rw [← Ny257.out] at S);(try rw [← Ny265.out] at S);(try rw [← Ny266.out] at S);have F:=S.fc) | ((with_reducible refine gs (t:=88) rfl (L ?_));(first | refine sb (.agg #[_,_]) S sz88 ?_ | refine ro (.agg #[_,_]) S sz88 ?_ (ho:=rfl) (hx:=rfl) (hy:=rfl));clear S F;intro W S;(try simp only [gd88] at S);(try rw [← Ny257.out] at S);(try rw [← Ny265.out] at S);(try rw [← Ny266.out] at S);have F:=S.fc))
                     go_roundg k5
                     case measure=>omega
                     case rel=>first | (exact ⟨x3_5,x8_5,(wrap64 (x9_4 + 1)),_,_,(by first | rfl | (simp;done) | (simp [*];done) | (rw [w6_ (by omega) (by omega)])),rfl,(by first | exact H | (simp only [F];exact H)),(by first | omega | exact Nat.le_refl _),S⟩) | (exact ⟨x3_5,x8_5,(wrap64 (x9_4 + 1)),_,_,(by first | rfl | (simp;done) | (simp [*];done) | (rw [w6_ (by omega) (by omega)])),rfl,(by first | exact H | (simp only [F];exact H)),(by first | omega | exact Nat.le_refl _),S.tl⟩)
               · skip
                 go_wp2_with (first | ((with_reducible refine gs (t:=3) rfl (L ?_));(first | refine sb (.int _ _) S sz3 ?_ | refine ro (.int _ _) S sz3 ?_ (ho:=rfl) (hx:=rfl) (hy:=rfl));clear S F;intro W S;(try simp only [gd88] at S);(try rw [← Ny257.out] at S);(try rw [← Ny265.out] at S);(try rw [← Ny266.out] at S);have F:=S.fc) | ((with_reducible refine gs (t:=88) rfl (L ?_));(first | refine sb (.agg #[_,_]) S sz88 ?_ | refine ro (.agg #[_,_]) S sz88 ?_ (ho:=rfl) (hx:=rfl) (hy:=rfl));clear S F;intro W S;(try simp only [gd88] at S);(try rw [← Ny257.out] at S);(try rw [← Ny265.out] at S);(try rw [← Ny266.out] at S);have F:=S.fc))
                 go_roundg k4
                 case measure=>omega
                 case rel=>exact ⟨x3_4,(wrap64 (x5_2 + 1)),(wrap64 (x28_2 + 1)),(by first | rfl | (simp;done) | (simp [*];done) | (rw [w6_ (by omega) (by omega)])),(by first | rfl | (simp;done) | (simp [*];done) | (rw [w6_ (by omega) (by omega)])),(by first | exact H | (simp only [F];exact H)),(by first | omega | exact Nat.le_refl _),S.tl.tl⟩
       · skip
         obtain rfl:=Option.some.inj H
         go_wp2_with (first | ((with_reducible refine gs (t:=3) rfl (L ?_));(first | refine sb (.int _ _) S sz3 ?_ | refine ro (.int _ _) S sz3 ?_ (ho:=rfl) (hx:=rfl) (hy:=rfl));clear S F;intro W S;(try simp only [gd88] at S);(try rw [← Ny257.out] at S);have F:=S.fc) | ((with_reducible refine gs (t:=88) rfl (L ?_));(first | refine sb (.agg #[_,_]) S sz88 ?_ | refine ro (.agg #[_,_]) S sz88 ?_ (ho:=rfl) (hx:=rfl) (hy:=rfl));clear S F;intro W S;(try simp only [gd88] at S);(try rw [← Ny257.out] at S);have F:=S.fc))
         go_ret
         exact ⟨_,(by first | rfl | (simp [e0_,e1_] <;> rfl) | (simp [*,e0_,e1_] <;> rfl)),(by first | exact S.r | exact Kd.R_nil _ _ _ _ _),S.below⟩

/-! ### spec_flRun: function 123 -/
def spec_flRun.f (k:Nat) (a0_0:Int) (a0_1:Int) (l0_2:List (S88)) (a1:Int):Option (Int × Int × Int × Int × Int × (List (S88))):=(spec_ggGroups.f k a0_0 a0_1 l0_2).bind fun t284=>((spec_flGo.f k a0_0 a0_1 l0_2 t284 a1).bind fun bt287=>(some (bt287.1,bt287.2.1,bt287.2.2.1,bt287.2.2.2.1,bt287.2.2.2.2.1,bt287.2.2.2.2.2.1)))
theorem spec_flRun.calls (k:Nat) (a0_0:Int) (a0_1:Int) (A0_2:Option Addr) (c0_2:Nat) (l0_2:List (S88)) (a1:Int) (r1:Int) (r2:Int) (r3:Int) (r4:Int) (r5:Int) (r6:List (S88)) (w:World) (hr0_2:Kd.C k88 w A0_2 l0_2.length l0_2) (hc0_2:l0_2.length ≤ c0_2) (h:spec_flRun.f k a0_0 a0_1 l0_2 a1 = some (r1,r2,r3,r4,r5,r6)) :
    Calls Try.prog 123 #[.agg #[.int .i64 a0_0,.int .i64 a0_1,.slice A0_2 l0_2.length c0_2],.int .i64 a1] w fun e w'=>∃ v5_:Value,e = .returned (.tuple #[.agg #[.int .i64 r1,.int .i64 r2,.int .i64 r3],.agg #[.int .i64 r4,.int .i64 r5,v5_]])∧Kd.R k88 88 w' w.heap.size (fun _=>True) v5_ r6∧Below w.heap.size w w':=by
 have S:=St.init (w:=w) (dc k88_heap at88 hr0_2 hc0_2 dn)
 clear hr0_2 hc0_2
 have F:=S.fc
 have H:=h;clear h;unfold spec_flRun.f at H
 replace H:=Option.bind_eq_some_iff.mp H;obtain ⟨t284,A3,H⟩:=H;(try dsimp only at H)
 replace H:=Option.bind_eq_some_iff.mp H;obtain ⟨⟨t287,t288,t289,t290,t291,t292,t295⟩,A4,H⟩:=H;(try dsimp only at H)
 simp only [Option.some.injEq,Prod.mk.injEq] at H
 obtain ⟨rfl,rfl,rfl,rfl,rfl,rfl⟩:=H
 go_enter Try.func123,Try.ntmps123
 go_wp2_with (first | ((with_reducible refine gd 2 rfl (L ?_));refine bo 2 (.agg #[_,_,_]) S ?_;clear S F;intro gb281 W S;have F:=S.fc) | ((with_reducible refine gd 4 rfl (L ?_));refine al 4 S zi127 ?_;clear S F;intro gb282 W S;have F:=S.fc) | ((with_reducible refine gd 5 rfl (L ?_));refine al 5 S zi50 ?_;clear S F;intro gb283 W S;have F:=S.fc) | ((with_reducible refine gs (t:=50) rfl (L ?_));(first | refine sb (.agg #[_,_,_]) S sz50 ?_ | refine ro (.agg #[_,_,_]) S sz50 ?_ (ho:=rfl) (hx:=rfl) (hy:=rfl));(clear S F;intro W S;have F:=S.fc)) | ((with_reducible refine gs (t:=127) rfl (L ?_));(first | refine sb (.agg #[_,_,_]) S sz127 ?_ | refine ro (.agg #[_,_,_]) S sz127 ?_ (ho:=rfl) (hx:=rfl) (hy:=rfl));(clear S F;intro W S;have F:=S.fc)))
 refine rgF S (fun _ S=>S) (fkc 9 6 zi127 (fkc 10 7 zi50 fk0)) [(0,3),(1,0),(1,1),(2,2),(2,4),(0,5),(0,6),(0,7),(0,8)] [(3,11),(3,12),(0,13)] [11,12] (id:=1) (h:=?_);clear S F;intro W S;have S0:=S;have F:=S.fc
 repeat (first | (refine f0 (h:=?_)) | (refine f1 S0 (h:=?_)) | (refine f0n (h:=?_)) | (refine f1n S0 (h:=?_)))
 refine fe2 S (by rfl) ?_;intro x6_ x7_ X W S;simp only [List.cons_append,List.nil_append,putF,Act.put,za_,zb_,zc_] at S ⊢;clear F;have F:=S.fc;refine ⟨rfl,?_⟩;refine cl (some 12) Try.func136 (spec_ggGroups.calls _ _ _ _ _ _ _ _ S.c S.n A3) (hargs:=by (simp only [ma_,mb_,mc_,F] <;> rfl)) (h:=?_);rintro e W ⟨v285,rfl,ho0,hb⟩;refine ⟨_,rfl,?_⟩;replace S:=S.got (atI .i64) hb ho0;obtain ⟨At284,ct284,rfl,S⟩:=S;clear F hb ho0;have F:=S.fc
 clear S0;have S0:=(S.nx X).tl;refine ⟨S0,?_⟩
 refine fe2 S (by rfl) ?_;intro x6_ x7_ X W S;simp only [List.cons_append,List.nil_append,putF,Act.put,za_,zb_,zc_] at S ⊢;clear F;have F:=S.fc;refine ⟨rfl,?_⟩;refine cl (some 14) Try.func135 (spec_flGo.calls _ _ _ _ _ _ _ _ _ _ _ _ _ _ _ _ _ _ S.c S.n S.c S.n A4) (hargs:=by (simp only [ma_,mb_,mc_,F] <;> rfl)) (h:=?_);rintro e W ⟨v293,v296,rfl,ho0,ho1,hb⟩;refine ⟨_,rfl,?_⟩;replace S:=S.got2 at88 (atU (d:=Kd.slice 3 (Kd.int .i64))) hb ho0 ho1 (by decide);obtain ⟨At292,ct292,At295,ct295,rfl,rfl,S⟩:=S;clear F hb ho0 ho1;have F:=S.fc
 clear S0;have S0:=(S.nx X).tl.tl.tl;refine ⟨S0,?_⟩
 repeat (first | (refine f0 (h:=?_)) | (refine f1 S0 (h:=?_)) | (refine f0n (h:=?_)) | (refine f1n S0 (h:=?_)))
 refine fz S ?_;intro gb298 gb299 W S;simp only [bxs,fbox,ptr,List.map_cons,List.map_nil,List.cons_append,List.nil_append,putF,Act.put,za_,zb_,zc_] at S ⊢;clear F S0;have S0:=S.tl.tl.tl.tl.tl;have F:=S.fc
 refine lk3 (by rfl) (by exact (Eq.refl true)) ?_;(first | refine sb (.agg #[_,_,_]) S sz50 ?_ | refine ro (.agg #[_,_,_]) S sz50 ?_ (ho:=rfl) (hx:=rfl) (hy:=rfl) | refine sb (.agg #[_,_,_]) S sz127 ?_ | refine ro (.agg #[_,_,_]) S sz127 ?_ (ho:=rfl) (hx:=rfl) (hy:=rfl));(clear S F;intro W S;have F:=S.fc)
 refine lk3 (by rfl) (by exact (Eq.refl true)) ?_;(first | refine sb (.agg #[_,_,_]) S sz50 ?_ | refine ro (.agg #[_,_,_]) S sz50 ?_ (ho:=rfl) (hx:=rfl) (hy:=rfl) | refine sb (.agg #[_,_,_]) S sz127 ?_ | refine ro (.agg #[_,_,_]) S sz127 ?_ (ho:=rfl) (hx:=rfl) (hy:=rfl));(clear S F;intro W S;have F:=S.fc)
 repeat (first | (refine q0 (h:=?_)) | (refine q1 S0 (h:=?_)) | (refine q0n (h:=?_)) | (refine q1n S0 (h:=?_)))
 refine oz ?_
 try clear S0
 go_wp2_with (first | ((with_reducible refine gs (t:=50) rfl (L ?_));(first | refine sb (.agg #[_,_,_]) S sz50 ?_ | refine ro (.agg #[_,_,_]) S sz50 ?_ (ho:=rfl) (hx:=rfl) (hy:=rfl));(clear S F;intro W S;have F:=S.fc)) | ((with_reducible refine gs (t:=127) rfl (L ?_));(first | refine sb (.agg #[_,_,_]) S sz127 ?_ | refine ro (.agg #[_,_,_]) S sz127 ?_ (ho:=rfl) (hx:=rfl) (hy:=rfl));(clear S F;intro W S;have F:=S.fc)))
 refine rgP S (fun _ S=>(S.ms [1,1,1,1,1,0,0])) [(1,0),(1,1),(2,2),(2,3)] [] (by kernel_rfl) (by kernel_rfl) (fun _ d _ _ _ h=>by cases d <;> exact h) ?_;clear S F;intro W S;have S0:=(S.ms [1,1,1,1,1,0,0]);have F:=S.fc
 repeat (first | (refine q0 (h:=?_)) | (refine q1 S0 (h:=?_)) | (refine q0n (h:=?_)) | (refine q1n S0 (h:=?_)))
 refine lk2 (by rfl) (by exact (Eq.refl true)) ?_;(first | refine sb (.agg #[_,_,_]) S sz50 ?_ | refine ro (.agg #[_,_,_]) S sz50 ?_ (ho:=rfl) (hx:=rfl) (hy:=rfl) | refine sb (.agg #[_,_,_]) S sz127 ?_ | refine ro (.agg #[_,_,_]) S sz127 ?_ (ho:=rfl) (hx:=rfl) (hy:=rfl));(clear S F;intro W S;have F:=S.fc)
 clear S0;have S0:=(S.ms [1,1,1,1,1,0,0]);refine ⟨S0,?_⟩
 refine lk2 (by rfl) (by exact (Eq.refl true)) ?_;(first | refine sb (.agg #[_,_,_]) S sz50 ?_ | refine ro (.agg #[_,_,_]) S sz50 ?_ (ho:=rfl) (hx:=rfl) (hy:=rfl) | refine sb (.agg #[_,_,_]) S sz127 ?_ | refine ro (.agg #[_,_,_]) S sz127 ?_ (ho:=rfl) (hx:=rfl) (hy:=rfl));(clear S F;intro W S;have F:=S.fc)
 clear S0;have S0:=(S.ms [1,1,1,1,1,0,0]);refine ⟨S0,?_⟩
 refine oz ?_
 try clear S0
 go_wp2_with (first | ((with_reducible refine gs (t:=50) rfl (L ?_));(first | refine sb (.agg #[_,_,_]) S sz50 ?_ | refine ro (.agg #[_,_,_]) S sz50 ?_ (ho:=rfl) (hx:=rfl) (hy:=rfl));(clear S F;intro W S;have F:=S.fc)) | ((with_reducible refine gs (t:=127) rfl (L ?_));(first | refine sb (.agg #[_,_,_]) S sz127 ?_ | refine ro (.agg #[_,_,_]) S sz127 ?_ (ho:=rfl) (hx:=rfl) (hy:=rfl));(clear S F;intro W S;have F:=S.fc)))
 refine bodyPost_ret (results_cc rfl _ _ gb282 gb283 127 50 #[.int .i64 t287,.int .i64 t288,.int .i64 t289] #[.int .i64 t290,.int .i64 t291,.slice At292 t292.length ct292] (0,0) (0,0) _ _ rfl S.hb Try.underlying127 rfl (by kernel_rfl) rfl S.hb Try.underlying50 rfl (by kernel_rfl)) rfl ?_
 exact ⟨_,(by first | rfl | (simp [e0_,e1_] <;> rfl) | (simp [*,e0_,e1_] <;> rfl)),(by first | exact S.r | exact Kd.R_nil _ _ _ _ _),S.below⟩

/-! ### spec_syEnd: function 124 -/
def spec_syEnd.f (a0_0:Int) (a0_1:Int) (l0_2:List (S88)) (a1_0:Int) (a1_1:Int) (a1_2:Int):Option (Int):=if a1_0 = 1 then (some a1_2) else (if a1_0 = 2 then (some a0_1) else (some (wrap64 (a0_1 + 1))))
theorem spec_syEnd.calls (a0_0:Int) (a0_1:Int) (A0_2:Option Addr) (c0_2:Nat) (l0_2:List (S88)) (a1_0:Int) (a1_1:Int) (a1_2:Int) (r:Int) (w:World) (hr0_2:Kd.C k88 w A0_2 l0_2.length l0_2) (hc0_2:l0_2.length ≤ c0_2) (h:spec_syEnd.f a0_0 a0_1 l0_2 a1_0 a1_1 a1_2 = some r) :
    Calls Try.prog 124 #[.agg #[.int .i64 a0_0,.int .i64 a0_1,.slice A0_2 l0_2.length c0_2],.agg #[.int .i64 a1_0,.int .i64 a1_1,.int .i64 a1_2]] w fun e w'=>e = .returned (.int .i64 r)∧Below w.heap.size w w':=by
 have S:=St.init (w:=w) (dc k88_heap at88 hr0_2 hc0_2 dn)
 clear hr0_2 hc0_2
 have F:=S.fc
 have H:=h;clear h;unfold spec_syEnd.f at H
 replace H:=sp_ H;rcases H with ⟨c3,H⟩ | ⟨c3,H⟩
 · skip
   replace c3:=ceq c3
   obtain rfl:=Option.some.inj H
   go_enter Try.func124,Try.ntmps124
   go_wp2_with (first | ((with_reducible refine gd 2 rfl (L ?_));refine bo 2 (.agg #[_,_,_]) S ?_;clear S F;intro gb300 W S;have F:=S.fc) | ((with_reducible refine gd 3 rfl (L ?_));refine bo 3 (.agg #[_,_,_]) S ?_;clear S F;intro gb301 W S;have F:=S.fc))
   go_ret
   exact ⟨(by first | rfl | (simp [e0_,e1_] <;> rfl) | (simp [*,e0_,e1_] <;> rfl)),S.below⟩
 · skip
   replace c3:=cne c3
   replace H:=sp_ H;rcases H with ⟨c8,H⟩ | ⟨c8,H⟩
   · skip
     replace c8:=ceq c8
     obtain rfl:=Option.some.inj H
     go_enter Try.func124,Try.ntmps124
     go_wp2_with (first | ((with_reducible refine gd 2 rfl (L ?_));refine bo 2 (.agg #[_,_,_]) S ?_;clear S F;intro gb300 W S;have F:=S.fc) | ((with_reducible refine gd 3 rfl (L ?_));refine bo 3 (.agg #[_,_,_]) S ?_;clear S F;intro gb301 W S;have F:=S.fc))
     go_ret
     exact ⟨(by first | rfl | (simp [e0_,e1_] <;> rfl) | (simp [*,e0_,e1_] <;> rfl)),S.below⟩
   · skip
     replace c8:=cne c8
     obtain rfl:=Option.some.inj H
     go_enter Try.func124,Try.ntmps124
     go_wp2_with (first | ((with_reducible refine gd 2 rfl (L ?_));refine bo 2 (.agg #[_,_,_]) S ?_;clear S F;intro gb300 W S;have F:=S.fc) | ((with_reducible refine gd 3 rfl (L ?_));refine bo 3 (.agg #[_,_,_]) S ?_;clear S F;intro gb301 W S;have F:=S.fc))
     go_ret
     exact ⟨(by first | rfl | (simp [e0_,e1_] <;> rfl) | (simp [*,e0_,e1_] <;> rfl)),S.below⟩

/-! ### spec_syMeets: function 104 -/
def spec_syMeets.l0:Nat→List Int→Int→Int→Int→Int→List (S88)→List Int→List Int→Int→Int→List (S88)→Int→Int→List (S88)→Option (Bool)
  | 0,_,_,_,_,_,_,_,_,_,_,_,_,_,_=>none
  | k + 1,x12,x13,x14,x303000,x303001,x303002,x303003,x303004,x304000,x304001,x304002,x305000,x305001,x305002=>if x14 < x13 then (if 0 ≤ x14 then (if x14 < (x12.length:Int) then ((spec_flRun.f k x305000 x305001 x305002 (rd x12 x14)).bind fun bt306=>((spec_syEnd.f x304000 x304001 x304002 bt306.1 bt306.2.1 bt306.2.2.1).bind fun t316=>(if x14 < (x303004.length:Int) then (if t316 = (rd x303004 x14) then (spec_syMeets.l0 k x12 x13 (wrap64 (x14 + 1)) x303000 x303001 x303002 x303003 x303004 x304000 x304001 x304002 bt306.2.2.2.1 bt306.2.2.2.2.1 bt306.2.2.2.2.2) else (some false)) else (none)))) else (none)) else (none)) else (some true)
def spec_syMeets.f (k:Nat) (a0_0:Int) (a0_1:Int) (l0_2:List (S88)) (l0_3:List Int) (l0_4:List Int) (a1_0:Int) (a1_1:Int) (l1_2:List (S88)):Option (Bool):=spec_syMeets.l0 k l0_3 (l0_3.length:Int) 0 a0_0 a0_1 l0_2 l0_3 l0_4 a1_0 a1_1 l1_2 a1_0 a1_1 l1_2
theorem spec_syMeets.calls (k:Nat) (a0_0:Int) (a0_1:Int) (A0_2:Option Addr) (c0_2:Nat) (l0_2:List (S88)) (A0_3:Option Addr) (c0_3:Nat) (l0_3:List Int) (A0_4:Option Addr) (c0_4:Nat) (l0_4:List Int) (a1_0:Int) (a1_1:Int) (A1_2:Option Addr) (c1_2:Nat) (l1_2:List (S88)) (r:Bool) (w:World) (hr0_2:Kd.C k88 w A0_2 l0_2.length l0_2) (hc0_2:l0_2.length ≤ c0_2) (hr0_3:Kd.C (Kd.int .i64) w A0_3 l0_3.length l0_3) (hc0_3:l0_3.length ≤ c0_3) (hr0_4:Kd.C (Kd.int .i64) w A0_4 l0_4.length l0_4) (hc0_4:l0_4.length ≤ c0_4) (hr1_2:Kd.C k88 w A1_2 l1_2.length l1_2) (hc1_2:l1_2.length ≤ c1_2) (h:spec_syMeets.f k a0_0 a0_1 l0_2 l0_3 l0_4 a1_0 a1_1 l1_2 = some r) :
    Calls Try.prog 104 #[.agg #[.int .i64 a0_0,.int .i64 a0_1,.slice A0_2 l0_2.length c0_2,.slice A0_3 l0_3.length c0_3,.slice A0_4 l0_4.length c0_4],.agg #[.int .i64 a1_0,.int .i64 a1_1,.slice A1_2 l1_2.length c1_2]] w fun e w'=>e = .returned (.bool r)∧Below w.heap.size w w':=by
 have S:=St.init (w:=w) (dc k88_heap at88 hr0_2 hc0_2 (dc (Kd.heap_int .i64) (atI .i64) hr0_3 hc0_3 (dc (Kd.heap_int .i64) (atI .i64) hr0_4 hc0_4 (dc k88_heap at88 hr1_2 hc1_2 dn))))
 clear hr0_2 hc0_2 hr0_3 hc0_3 hr0_4 hc0_4 hr1_2 hc1_2
 have F:=S.fc
 have H:=h;clear h;unfold spec_syMeets.f at H
 go_enter Try.func104,Try.ntmps104
 go_wp2_with (first | ((with_reducible refine gd 2 rfl (L ?_));refine bo 2 (.agg #[_,_,_,_,_]) S ?_;clear S F;intro gb302 W S;have F:=S.fc) | ((with_reducible refine gd 3 rfl (L ?_));refine bo 3 (.agg #[_,_,_]) S ?_;clear S F;intro gb303 W S;have F:=S.fc) | ((with_reducible refine gd 5 rfl (L ?_));refine al 5 S zi50 ?_;clear S F;intro gb304 W S;have F:=S.fc) | ((with_reducible refine gs (t:=50) rfl (L ?_));(first | refine sb (.agg #[_,_,_]) S sz50 ?_ | refine ro (.agg #[_,_,_]) S sz50 ?_ (ho:=rfl) (hx:=rfl) (hy:=rfl));(clear S F;intro W S;have F:=S.fc)) | ((with_reducible refine gs (t:=127) rfl (L ?_));(first | refine sb (.agg #[_,_,_]) S sz127 ?_ | refine ro (.agg #[_,_,_]) S sz127 ?_ (ho:=rfl) (hx:=rfl) (hy:=rfl));(clear S F;intro W S;have F:=S.fc)))
 go_loopg [14] k (fun kq v14 w'=>∃ (x14_1:Int) (x305000_1:Int) (x305001_1:Int) (x305002_1:List (S88)) (Ax305002_1:Option Addr) (cx305002_1:Nat),v14 = .int .i64 x14_1∧spec_syMeets.l0 kq l0_3 (l0_3.length:Int) x14_1 a0_0 a0_1 l0_2 l0_3 l0_4 a1_0 a1_1 l1_2 x305000_1 x305001_1 x305002_1 = some r∧kq ≤ k∧St w w (fun _=>False) [bor at88 Ax305002_1 cx305002_1 x305002_1,bor at88 A0_2 c0_2 l0_2,bor (atI .i64) A0_3 c0_3 l0_3,bor (atI .i64) A0_4 c0_4 l0_4,bor at88 A1_2 c1_2 l1_2] w'  [box gb304 50 [.int .i64 x305000_1,.int .i64 x305001_1,.slice Ax305002_1 x305002_1.length cx305002_1],box gb303 50 [.int .i64 a1_0,.int .i64 a1_1,.slice A1_2 l1_2.length c1_2],box gb302 31 [.int .i64 a0_0,.int .i64 a0_1,.slice A0_2 l0_2.length c0_2,.slice A0_3 l0_3.length c0_3,.slice A0_4 l0_4.length c0_4]])
 case atStart=>exact ⟨0,a1_0,a1_1,l1_2,_,_,(by first | rfl | (simp;done) | (simp [*];done) | (rw [w6_ (by omega) (by omega)])),H,Nat.le_refl _,(S.dk [3,0,1,2,3])⟩
 case round =>
  clear H S F
  obtain ⟨x14_1,x305000_1,x305001_1,x305002_1,Ax305002_1,cx305002_1,rfl,HA,HK1,S⟩:=hrel
  have F:=S.fc
  cases gk with
  | zero=>exact absurd HA (by simp [spec_syMeets.l0])
  | succ k1 =>
   have H:=HA;clear HA;simp only [spec_syMeets.l0,F] at H
   replace H:=sp_ H;rcases H with ⟨c12,H⟩ | ⟨c12,H⟩
   · skip
     replace H:=np_ H;obtain ⟨c13,H⟩:=H
     replace H:=np_ H;obtain ⟨c14,H⟩:=H
     replace H:=Option.bind_eq_some_iff.mp H;obtain ⟨⟨t306,t307,t308,t309,t310,t311⟩,A15,H⟩:=H;(try dsimp only at H)
     replace H:=Option.bind_eq_some_iff.mp H;obtain ⟨t316,A16,H⟩:=H;(try dsimp only at H)
     replace H:=np_ H;obtain ⟨c17,H⟩:=H
     replace H:=sp_ H;rcases H with ⟨c18,H⟩ | ⟨c18,H⟩
     · skip
       replace c18:=ceq c18
       go_wp2_with (first | ((with_reducible refine gate_callee (f:=123) rfl (L ?_));refine cl (some 22) Try.func123 (spec_flRun.calls _ _ _ _ _ _ _ _ _ _ _ _ _ _ S.c S.n A15) (hargs:=by (simp only [ma_,mb_,mc_,F] <;> rfl)) (h:=?_);rintro e W ⟨v312,rfl,ho0,hb⟩;refine ⟨_,rfl,?_⟩;replace S:=S.got at88 hb ho0;obtain ⟨At311,ct311,rfl,S⟩:=S;clear F hb ho0;have F:=S.fc) | ((with_reducible refine gd 8 rfl (L ?_));refine al 8 S zi127 ?_;clear S F;intro gb314 W S;have F:=S.fc) | ((with_reducible refine gd 9 rfl (L ?_));refine al 9 S zi50 ?_;clear S F;intro gb315 W S;have F:=S.fc) | ((with_reducible refine gs (t:=50) rfl (L ?_));(first | refine sb (.agg #[_,_,_]) S sz50 ?_ | refine ro (.agg #[_,_,_]) S sz50 ?_ (ho:=rfl) (hx:=rfl) (hy:=rfl));(clear S F;intro W S;have F:=S.fc)) | ((with_reducible refine gs (t:=127) rfl (L ?_));(first | refine sb (.agg #[_,_,_]) S sz127 ?_ | refine ro (.agg #[_,_,_]) S sz127 ?_ (ho:=rfl) (hx:=rfl) (hy:=rfl));(clear S F;intro W S;have F:=S.fc)))
       refine rq S [(0,3),(0,5),(1,0),(1,1),(1,4),(0,6),(1,7),(2,2),(0,8)] [] (h:=?_);clear S F;intro W S;have S0:=S;have F:=S.fc
       repeat (first | (refine q0 (h:=?_)) | (refine q1 S0 (h:=?_)) | (refine q0n (h:=?_)) | (refine q1n S0 (h:=?_)))
       refine lk2 (by rfl) (by exact (Eq.refl true)) ?_;refine cl (some 27) Try.func124 (spec_syEnd.calls _ _ _ _ _ _ _ _ _ _ S.c S.n A16) (hargs:=by (simp only [ma_,mb_,mc_,F] <;> rfl)) (h:=?_);rintro e W ⟨rfl,hb⟩;refine ⟨_,rfl,?_⟩;replace S:=S.go hb;clear F hb;have F:=S.fc
       clear S0;have S0:=S;refine ⟨S0,?_⟩
       repeat (first | (refine q0 (h:=?_)) | (refine q1 S0 (h:=?_)) | (refine q0n (h:=?_)) | (refine q1n S0 (h:=?_)))
       refine oz ?_
       try clear S0
       go_wp2_with (first | ((with_reducible refine gs (t:=50) rfl (L ?_));(first | refine sb (.agg #[_,_,_]) S sz50 ?_ | refine ro (.agg #[_,_,_]) S sz50 ?_ (ho:=rfl) (hx:=rfl) (hy:=rfl));(clear S F;intro W S;have F:=S.fc)) | ((with_reducible refine gs (t:=127) rfl (L ?_));(first | refine sb (.agg #[_,_,_]) S sz127 ?_ | refine ro (.agg #[_,_,_]) S sz127 ?_ (ho:=rfl) (hx:=rfl) (hy:=rfl));(clear S F;intro W S;have F:=S.fc)))
       go_roundg k1
       case measure=>omega
       case rel=>exact ⟨(wrap64 (x14_1 + 1)),t309,t310,t311,_,_,(by first | rfl | (simp;done) | (simp [*];done) | (rw [w6_ (by omega) (by omega)])),H,(by first | omega | exact Nat.le_refl _),((S.fzr At311 rfl).dk [0,2,3,4,5]).tl.tl.tl⟩
     · skip
       replace c18:=cne c18
       obtain rfl:=Option.some.inj H
       go_wp2_with (first | ((with_reducible refine gate_callee (f:=123) rfl (L ?_));refine cl (some 22) Try.func123 (spec_flRun.calls _ _ _ _ _ _ _ _ _ _ _ _ _ _ S.c S.n A15) (hargs:=by (simp only [ma_,mb_,mc_,F] <;> rfl)) (h:=?_);rintro e W ⟨v312,rfl,ho0,hb⟩;refine ⟨_,rfl,?_⟩;replace S:=S.got at88 hb ho0;obtain ⟨At311,ct311,rfl,S⟩:=S;clear F hb ho0;have F:=S.fc) | ((with_reducible refine gd 8 rfl (L ?_));refine al 8 S zi127 ?_;clear S F;intro gb314 W S;have F:=S.fc) | ((with_reducible refine gd 9 rfl (L ?_));refine al 9 S zi50 ?_;clear S F;intro gb315 W S;have F:=S.fc) | ((with_reducible refine gs (t:=50) rfl (L ?_));(first | refine sb (.agg #[_,_,_]) S sz50 ?_ | refine ro (.agg #[_,_,_]) S sz50 ?_ (ho:=rfl) (hx:=rfl) (hy:=rfl));(clear S F;intro W S;have F:=S.fc)) | ((with_reducible refine gs (t:=127) rfl (L ?_));(first | refine sb (.agg #[_,_,_]) S sz127 ?_ | refine ro (.agg #[_,_,_]) S sz127 ?_ (ho:=rfl) (hx:=rfl) (hy:=rfl));(clear S F;intro W S;have F:=S.fc)))
       refine rq S [(0,3),(0,5),(1,0),(1,1),(1,4),(0,6),(1,7),(2,2),(0,8)] [] (h:=?_);clear S F;intro W S;have S0:=S;have F:=S.fc
       repeat (first | (refine q0 (h:=?_)) | (refine q1 S0 (h:=?_)) | (refine q0n (h:=?_)) | (refine q1n S0 (h:=?_)))
       refine lk2 (by rfl) (by exact (Eq.refl true)) ?_;refine cl (some 27) Try.func124 (spec_syEnd.calls _ _ _ _ _ _ _ _ _ _ S.c S.n A16) (hargs:=by (simp only [ma_,mb_,mc_,F] <;> rfl)) (h:=?_);rintro e W ⟨rfl,hb⟩;refine ⟨_,rfl,?_⟩;replace S:=S.go hb;clear F hb;have F:=S.fc
       clear S0;have S0:=S;refine ⟨S0,?_⟩
       repeat (first | (refine q0 (h:=?_)) | (refine q1 S0 (h:=?_)) | (refine q0n (h:=?_)) | (refine q1n S0 (h:=?_)))
       refine oz ?_
       try clear S0
       go_wp2_with (first | ((with_reducible refine gs (t:=50) rfl (L ?_));(first | refine sb (.agg #[_,_,_]) S sz50 ?_ | refine ro (.agg #[_,_,_]) S sz50 ?_ (ho:=rfl) (hx:=rfl) (hy:=rfl));(clear S F;intro W S;have F:=S.fc)) | ((with_reducible refine gs (t:=127) rfl (L ?_));(first | refine sb (.agg #[_,_,_]) S sz127 ?_ | refine ro (.agg #[_,_,_]) S sz127 ?_ (ho:=rfl) (hx:=rfl) (hy:=rfl));(clear S F;intro W S;have F:=S.fc)))
       go_ret
       exact ⟨(by first | rfl | (simp [e0_,e1_] <;> rfl) | (simp [*,e0_,e1_] <;> rfl)),S.below⟩
   · skip
     obtain rfl:=Option.some.inj H
     go_wp2_with (first | ((with_reducible refine gs (t:=50) rfl (L ?_));(first | refine sb (.agg #[_,_,_]) S sz50 ?_ | refine ro (.agg #[_,_,_]) S sz50 ?_ (ho:=rfl) (hx:=rfl) (hy:=rfl));(clear S F;intro W S;have F:=S.fc)) | ((with_reducible refine gs (t:=127) rfl (L ?_));(first | refine sb (.agg #[_,_,_]) S sz127 ?_ | refine ro (.agg #[_,_,_]) S sz127 ?_ (ho:=rfl) (hx:=rfl) (hy:=rfl));(clear S F;intro W S;have F:=S.fc)))
     go_ret
     exact ⟨(by first | rfl | (simp [e0_,e1_] <;> rfl) | (simp [*,e0_,e1_] <;> rfl)),S.below⟩

/-! ### spec_chSolutions: function 74 -/
def spec_chSolutions.l0:Nat→List (S50)→Int→Int→Int→List (S88)→List Int→List Int→Option ((List (S50)))
  | 0,_,_,_,_,_,_,_=>none
  | k + 1,x3,x4,x319000,x319001,x319002,x319003,x319004=>(spec_syTried.f k x319000 x319001 x319002 x319003 x319004).bind fun t319=>(if x4 < t319 then ((spec_syBoard.f k x319000 x319001 x319002 x319003 x319004 x4).bind fun bt320=>((spec_syMeets.f k x319000 x319001 x319002 x319003 x319004 bt320.1 bt320.2.1 bt320.2.2).bind fun t326=>(if t326 = true then (if x3.length < 3518437208883 then (spec_chSolutions.l0 k (x3 ++ [(⟨bt320.1,bt320.2.1,bt320.2.2⟩:S50)]) (wrap64 (x4 + 1)) x319000 x319001 x319002 x319003 x319004) else (none)) else (spec_chSolutions.l0 k x3 (wrap64 (x4 + 1)) x319000 x319001 x319002 x319003 x319004)))) else (some x3))
def spec_chSolutions.f (k:Nat) (a0_0:Int) (a0_1:Int) (l0_2:List (S88)) (l0_3:List Int) (l0_4:List Int):Option ((List (S50))):=spec_chSolutions.l0 k ([]:List (S50)) 0 a0_0 a0_1 l0_2 l0_3 l0_4
theorem spec_chSolutions.calls (k:Nat) (a0_0:Int) (a0_1:Int) (A0_2:Option Addr) (c0_2:Nat) (l0_2:List (S88)) (A0_3:Option Addr) (c0_3:Nat) (l0_3:List Int) (A0_4:Option Addr) (c0_4:Nat) (l0_4:List Int) (r:List (S50)) (w:World) (hr0_2:Kd.C k88 w A0_2 l0_2.length l0_2) (hc0_2:l0_2.length ≤ c0_2) (hr0_3:Kd.C (Kd.int .i64) w A0_3 l0_3.length l0_3) (hc0_3:l0_3.length ≤ c0_3) (hr0_4:Kd.C (Kd.int .i64) w A0_4 l0_4.length l0_4) (hc0_4:l0_4.length ≤ c0_4) (h:spec_chSolutions.f k a0_0 a0_1 l0_2 l0_3 l0_4 = some r) :
    Calls Try.prog 74 #[.agg #[.int .i64 a0_0,.int .i64 a0_1,.slice A0_2 l0_2.length c0_2,.slice A0_3 l0_3.length c0_3,.slice A0_4 l0_4.length c0_4]] w fun e w'=>∃ v0_:Value,e = .returned (v0_)∧Kd.R k50 50 w' w.heap.size (fun _=>True) v0_ r∧Below w.heap.size w w':=by
 have S:=St.init (w:=w) (dc k88_heap at88 hr0_2 hc0_2 (dc (Kd.heap_int .i64) (atI .i64) hr0_3 hc0_3 (dc (Kd.heap_int .i64) (atI .i64) hr0_4 hc0_4 dn)))
 clear hr0_2 hc0_2 hr0_3 hc0_3 hr0_4 hc0_4
 have F:=S.fc
 have H:=h;clear h;unfold spec_chSolutions.f at H
 go_enter Try.func74,Try.ntmps74
 go_wp2_with (first | ((with_reducible refine gd 1 rfl (L ?_));refine bo 1 (.agg #[_,_,_,_,_]) S ?_;clear S F;intro gb318 W S;have F:=S.fc) | ((with_reducible refine gs (t:=50) rfl (L ?_));(first | refine sb (.agg #[_,_,_]) S sz50 ?_ | refine ro (.agg #[_,_,_]) S sz50 ?_ (ho:=rfl) (hx:=rfl) (hy:=rfl));(clear S F;intro W S;have F:=S.fc)))
 go_loopg [3,4] k (fun kq v3 v4 w'=>∃ (x3_1:List (S50)) (x4_1:Int) (Ax3_1:Option Addr) (cx3_1:Nat),v4 = .int .i64 x4_1∧v3 = .slice Ax3_1 x3_1.length cx3_1∧spec_chSolutions.l0 kq x3_1 x4_1 a0_0 a0_1 l0_2 l0_3 l0_4 = some r∧kq ≤ k∧St w w (fun _=>False) [bor at88 A0_2 c0_2 l0_2,bor (atI .i64) A0_3 c0_3 l0_3,bor (atI .i64) A0_4 c0_4 l0_4] w'  [row (atU (d:=k50)) 50 Ax3_1 x3_1.length cx3_1 x3_1,box gb318 31 [.int .i64 a0_0,.int .i64 a0_1,.slice A0_2 l0_2.length c0_2,.slice A0_3 l0_3.length c0_3,.slice A0_4 l0_4.length c0_4]])
 case atStart=>exact ⟨_,0,_,_,(by first | rfl | (simp;done) | (simp [*];done) | (rw [w6_ (by omega) (by omega)])),rfl,H,Nat.le_refl _,(S.nl (e:=50) (atU (d:=k50)))⟩
 case round =>
  clear H S F
  obtain ⟨x3_1,x4_1,Ax3_1,cx3_1,rfl,rfl,HA,HK1,S⟩:=hrel
  have F:=S.fc
  cases gk with
  | zero=>exact absurd HA (by simp [spec_chSolutions.l0])
  | succ k1 =>
   have H:=HA;clear HA;simp only [spec_chSolutions.l0,F] at H
   replace H:=Option.bind_eq_some_iff.mp H;obtain ⟨t319,A3,H⟩:=H;(try dsimp only at H)
   replace H:=sp_ H;rcases H with ⟨c4,H⟩ | ⟨c4,H⟩
   · skip
     replace H:=Option.bind_eq_some_iff.mp H;obtain ⟨⟨t320,t321,t322⟩,A5,H⟩:=H;(try dsimp only at H)
     replace H:=Option.bind_eq_some_iff.mp H;obtain ⟨t326,A6,H⟩:=H;(try dsimp only at H)
     replace H:=sp_ H;rcases H with ⟨c7,H⟩ | ⟨c7,H⟩
     · skip
       subst c7
       replace H:=np_ H;obtain ⟨c8,H⟩:=H
       (first | (with_reducible replace H:=ob_ H;obtain ⟨y327,hy327,H⟩:=H;(try dsimp only at H)) | (obtain ⟨y327,hy327⟩:∃ y_:List (S50),y_ = (x3_1 ++ [(⟨t320,t321,t322⟩:S50)]):=⟨_,rfl⟩;(try rw [← hy327] at H);(try simp only [Option.bind_some] at H)));have Ny327:=Aside0.mk hy327;clear hy327
       go_wp2_with (first | ((with_reducible refine gate_callee (f:=103) rfl (L ?_));refine cl (some 8) Try.func103 (spec_syTried.calls _ _ _ _ _ _ _ _ _ _ _ _ _ _ S.c S.n S.c S.n S.c S.n A3) (hargs:=by (simp only [ma_,mb_,mc_,F] <;> rfl)) (h:=?_);rintro e W ⟨rfl,hb⟩;refine ⟨_,rfl,?_⟩;replace S:=S.go hb;clear F hb;have F:=S.fc) | ((with_reducible refine gate_callee (f:=84) rfl (L ?_));refine cl (some 14) Try.func84 (spec_syBoard.calls _ _ _ _ _ _ _ _ _ _ _ _ _ _ _ _ _ S.c S.n S.c S.n S.c S.n A5) (hargs:=by (simp only [ma_,mb_,mc_,F] <;> rfl)) (h:=?_);rintro e W ⟨v323,rfl,ho0,hb⟩;refine ⟨_,rfl,?_⟩;replace S:=S.got at88 hb ho0;obtain ⟨At322,ct322,rfl,S⟩:=S;clear F hb ho0;(try rw [← Ny327.out] at S);have F:=S.fc) | ((with_reducible refine gd 5 rfl (L ?_));refine al 5 S zi50 ?_;clear S F;intro gb325 W S;have F:=S.fc) | ((with_reducible refine gate_callee (f:=104) rfl (L ?_));refine cl (some 17) Try.func104 (spec_syMeets.calls _ _ _ _ _ _ _ _ _ _ _ _ _ _ _ _ _ _ _ S.c S.n S.c S.n S.c S.n S.c S.n A6) (hargs:=by (simp only [ma_,mb_,mc_,F] <;> rfl)) (h:=?_);rintro e W ⟨rfl,hb⟩;refine ⟨_,rfl,?_⟩;replace S:=S.go hb;clear F hb;have F:=S.fc) | ((with_reducible refine gd 21 rfl (L ?_));refine apx (A:=Ax3_1) (A2:=At322) 21 S Try.underlying85 info50 (⟨t320,t321,t322⟩:S50) (fun _ _ _ h=>k50_mkM _ _ _ _ h) ?_ (ho:=rfl) (hs:=rfl) (hx:=rfl);clear S F;intro Ay327 cy327 W S;(try rw [← Ny327.out] at S ⊢);have F:=S.fc) | ((with_reducible refine gs (t:=50) rfl (L ?_));(first | refine sb (.agg #[_,_,_]) S sz50 ?_ | refine ro (.agg #[_,_,_]) S sz50 ?_ (ho:=rfl) (hx:=rfl) (hy:=rfl));clear S F;intro W S;(try rw [← Ny327.out] at S);have F:=S.fc))
       go_roundg k1
       case measure=>omega
       case rel=>exact ⟨y327,(wrap64 (x4_1 + 1)),_,_,(by first | rfl | (simp;done) | (simp [*];done) | (rw [w6_ (by omega) (by omega)])),rfl,H,(by first | omega | exact Nat.le_refl _),S.tl.tl⟩
     · skip
       replace c7:=cbf c7;subst c7
       go_wp2_with (first | ((with_reducible refine gate_callee (f:=103) rfl (L ?_));refine cl (some 8) Try.func103 (spec_syTried.calls _ _ _ _ _ _ _ _ _ _ _ _ _ _ S.c S.n S.c S.n S.c S.n A3) (hargs:=by (simp only [ma_,mb_,mc_,F] <;> rfl)) (h:=?_);rintro e W ⟨rfl,hb⟩;refine ⟨_,rfl,?_⟩;replace S:=S.go hb;clear F hb;have F:=S.fc) | ((with_reducible refine gate_callee (f:=84) rfl (L ?_));refine cl (some 14) Try.func84 (spec_syBoard.calls _ _ _ _ _ _ _ _ _ _ _ _ _ _ _ _ _ S.c S.n S.c S.n S.c S.n A5) (hargs:=by (simp only [ma_,mb_,mc_,F] <;> rfl)) (h:=?_);rintro e W ⟨v323,rfl,ho0,hb⟩;refine ⟨_,rfl,?_⟩;replace S:=S.got at88 hb ho0;obtain ⟨At322,ct322,rfl,S⟩:=S;clear F hb ho0;have F:=S.fc) | ((with_reducible refine gd 5 rfl (L ?_));refine al 5 S zi50 ?_;clear S F;intro gb325 W S;have F:=S.fc) | ((with_reducible refine gate_callee (f:=104) rfl (L ?_));refine cl (some 17) Try.func104 (spec_syMeets.calls _ _ _ _ _ _ _ _ _ _ _ _ _ _ _ _ _ _ _ S.c S.n S.c S.n S.c S.n S.c S.n A6) (hargs:=by (simp only [ma_,mb_,mc_,F] <;> rfl)) (h:=?_);rintro e W ⟨rfl,hb⟩;refine ⟨_,rfl,?_⟩;replace S:=S.go hb;clear F hb;have F:=S.fc) | ((with_reducible refine gs (t:=50) rfl (L ?_));(first | refine sb (.agg #[_,_,_]) S sz50 ?_ | refine ro (.agg #[_,_,_]) S sz50 ?_ (ho:=rfl) (hx:=rfl) (hy:=rfl));(clear S F;intro W S;have F:=S.fc)))
       go_roundg k1
       case measure=>omega
       case rel=>exact ⟨x3_1,(wrap64 (x4_1 + 1)),_,_,(by first | rfl | (simp;done) | (simp [*];done) | (rw [w6_ (by omega) (by omega)])),rfl,H,(by first | omega | exact Nat.le_refl _),S.tl.tl⟩
   · skip
     obtain rfl:=Option.some.inj H
     go_wp2_with (first | ((with_reducible refine gate_callee (f:=103) rfl (L ?_));refine cl (some 8) Try.func103 (spec_syTried.calls _ _ _ _ _ _ _ _ _ _ _ _ _ _ S.c S.n S.c S.n S.c S.n A3) (hargs:=by (simp only [ma_,mb_,mc_,F] <;> rfl)) (h:=?_);rintro e W ⟨rfl,hb⟩;refine ⟨_,rfl,?_⟩;replace S:=S.go hb;clear F hb;have F:=S.fc) | ((with_reducible refine gs (t:=50) rfl (L ?_));(first | refine sb (.agg #[_,_,_]) S sz50 ?_ | refine ro (.agg #[_,_,_]) S sz50 ?_ (ho:=rfl) (hx:=rfl) (hy:=rfl));(clear S F;intro W S;have F:=S.fc)))
     go_ret
     exact ⟨_,(by first | rfl | (simp [e0_,e1_] <;> rfl) | (simp [*,e0_,e1_] <;> rfl)),(by first | exact S.r | exact Kd.R_nil _ _ _ _ _),S.below⟩

/-! ### impl_IsCell: function 98 -/
def impl_IsCell.f (a0_0:Int) (a0_1:Int):Option (Bool):=if a0_0 < 0 then (some false) else (if a0_0 > 7 then (some false) else (if a0_1 < 0 then (some false) else (if a0_1 > 1 then (some false) else (if a0_1 = 0 then (some true) else (if a0_0 = 3 then (some true) else (some (a0_0 == 6)))))))
theorem impl_IsCell.calls (a0_0:Int) (a0_1:Int) (r:Bool) (w:World) (h:impl_IsCell.f a0_0 a0_1 = some r) :
    Calls Try.prog 98 #[.agg #[.int .i64 a0_0,.int .i64 a0_1]] w fun e w'=>e = .returned (.bool r)∧Below w.heap.size w w':=by
 have S:=St.init (w:=w) dn
 have F:=S.fc
 have H:=h;clear h;unfold impl_IsCell.f at H
 replace H:=sp_ H;rcases H with ⟨c2,H⟩ | ⟨c2,H⟩
 · skip
   obtain rfl:=Option.some.inj H
   go_enter Try.func98,Try.ntmps98
   go_wp2_with (first | ((with_reducible refine gd 1 rfl (L ?_));refine bo 1 (.agg #[_,_]) S ?_;clear S F;intro gb340 W S;have F:=S.fc))
   go_ret
   exact ⟨(by first | rfl | (simp [e0_,e1_] <;> rfl) | (simp [*,e0_,e1_] <;> rfl)),S.below⟩
 · skip
   replace H:=sp_ H;rcases H with ⟨c5,H⟩ | ⟨c5,H⟩
   · skip
     obtain rfl:=Option.some.inj H
     go_enter Try.func98,Try.ntmps98
     go_wp2_with (first | ((with_reducible refine gd 1 rfl (L ?_));refine bo 1 (.agg #[_,_]) S ?_;clear S F;intro gb340 W S;have F:=S.fc))
     go_ret
     exact ⟨(by first | rfl | (simp [e0_,e1_] <;> rfl) | (simp [*,e0_,e1_] <;> rfl)),S.below⟩
   · skip
     replace H:=sp_ H;rcases H with ⟨c8,H⟩ | ⟨c8,H⟩
     · skip
       obtain rfl:=Option.some.inj H
       go_enter Try.func98,Try.ntmps98
       go_wp2_with (first | ((with_reducible refine gd 1 rfl (L ?_));refine bo 1 (.agg #[_,_]) S ?_;clear S F;intro gb340 W S;have F:=S.fc))
       go_ret
       exact ⟨(by first | rfl | (simp [e0_,e1_] <;> rfl) | (simp [*,e0_,e1_] <;> rfl)),S.below⟩
     · skip
       replace H:=sp_ H;rcases H with ⟨c11,H⟩ | ⟨c11,H⟩
       · skip
         obtain rfl:=Option.some.inj H
         go_enter Try.func98,Try.ntmps98
         go_wp2_with (first | ((with_reducible refine gd 1 rfl (L ?_));refine bo 1 (.agg #[_,_]) S ?_;clear S F;intro gb340 W S;have F:=S.fc))
         go_ret
         exact ⟨(by first | rfl | (simp [e0_,e1_] <;> rfl) | (simp [*,e0_,e1_] <;> rfl)),S.below⟩
       · skip
         replace H:=sp_ H;rcases H with ⟨c14,H⟩ | ⟨c14,H⟩
         · skip
           replace c14:=ceq c14
           obtain rfl:=Option.some.inj H
           go_enter Try.func98,Try.ntmps98
           go_wp2_with (first | ((with_reducible refine gd 1 rfl (L ?_));refine bo 1 (.agg #[_,_]) S ?_;clear S F;intro gb340 W S;have F:=S.fc))
           go_ret
           exact ⟨(by first | rfl | (simp [e0_,e1_] <;> rfl) | (simp [*,e0_,e1_] <;> rfl)),S.below⟩
         · skip
           replace c14:=cne c14
           replace H:=sp_ H;rcases H with ⟨c17,H⟩ | ⟨c17,H⟩
           · skip
             replace c17:=ceq c17
             obtain rfl:=Option.some.inj H
             go_enter Try.func98,Try.ntmps98
             go_wp2_with (first | ((with_reducible refine gd 1 rfl (L ?_));refine bo 1 (.agg #[_,_]) S ?_;clear S F;intro gb340 W S;have F:=S.fc))
             go_ret
             exact ⟨(by first | rfl | (simp [e0_,e1_] <;> rfl) | (simp [*,e0_,e1_] <;> rfl)),S.below⟩
           · skip
             replace c17:=cne c17
             obtain rfl:=Option.some.inj H
             go_enter Try.func98,Try.ntmps98
             go_wp2_with (first | ((with_reducible refine gd 1 rfl (L ?_));refine bo 1 (.agg #[_,_]) S ?_;clear S F;intro gb340 W S;have F:=S.fc))
             go_ret
             exact ⟨(by first | rfl | (simp [e0_,e1_] <;> rfl) | (simp [*,e0_,e1_] <;> rfl)),S.below⟩

/-! ### impl_Cell_125: function 125 -/
def impl_Cell_125.l0:Nat→List (S88)→Int→Int→Int→Int→Option (Int)
 | 0,_,_,_,_,_=>none
 | k + 1,x0,x7,x8,x342000,x342001=>if x8 < x7 then (if 0 ≤ x8 then (if x8 < (x0.length:Int) then (if (x342000 == ((rd_T88 x0 x8).f0) && (x342001 == ((rd_T88 x0 x8).f1))) = true then (some x8) else (impl_Cell_125.l0 k x0 x7 (wrap64 (x8 + 1)) x342000 x342001)) else (none)) else (none)) else (some (-1))
def impl_Cell_125.f (k:Nat) (l0:List (S88)) (a1_0:Int) (a1_1:Int):Option (Int):=impl_Cell_125.l0 k l0 (l0.length:Int) 0 a1_0 a1_1
theorem impl_Cell_125.calls (k:Nat) (A0:Option Addr) (c0:Nat) (l0:List (S88)) (a1_0:Int) (a1_1:Int) (r:Int) (w:World) (hr0:Kd.C k88 w A0 l0.length l0) (hc0:l0.length ≤ c0) (h:impl_Cell_125.f k l0 a1_0 a1_1 = some r) :
  Calls Try.prog 125 #[.slice A0 l0.length c0,.agg #[.int .i64 a1_0,.int .i64 a1_1]] w fun e w'=>e = .returned (.int .i64 r)∧Below w.heap.size w w':=by
 have HR0:=Aside0.mk hr0;have HC0:=Aside0.mk hc0;clear hr0 hc0;have HB:=Aside0.mk (Below.refl w.heap.size w);have H:(impl_Cell_125.l0 k l0 (l0.length:Int) 0 a1_0 a1_1) = some r:=h;clear h;have H':=Aside0.mk H;clear H;go_enter Try.func125,Try.ntmps125;go_wp2_with (first | ((with_reducible refine gate_dst (N:=3) rfl ?_);refine box_event ?hg (N:=3) ?hd (cs:=#[.int .i64 a1_0,.int .i64 a1_1]) (t:=88) ?hr ?_;(case hd=>rfl);(case hg=>rfl);(case hr=>first | (go_simp;done) | (go_simp;rfl));intro gb341 hg w3 hbox hb;refine ev4 (bs HB hb) (hbox) (gle hg HB) (gle hg HB) ?_;clear HB;intro HB BK341 GW341 GE341;clear hb hbox hg))
 repeat (go_quiet (first | ((with_reducible refine gate_dst (N:=3) rfl ?_);refine box_event ?hg (N:=3) ?hd (cs:=#[.int .i64 a1_0,.int .i64 a1_1]) (t:=88) ?hr ?_;(case hd=>rfl);(case hg=>rfl);(case hr=>first | (go_simp;done) | (go_simp;rfl));intro gb341 hg w3 hbox hb;refine ev4 (bs HB hb) (hbox) (gle hg HB) (gle hg HB) ?_;clear HB;intro HB BK341 GW341 GE341;clear hb hbox hg));try go_wp2_with (first | ((with_reducible refine gate_dst (N:=3) rfl ?_);refine box_event ?hg (N:=3) ?hd (cs:=#[.int .i64 a1_0,.int .i64 a1_1]) (t:=88) ?hr ?_;(case hd=>rfl);(case hg=>rfl);(case hr=>first | (go_simp;done) | (go_simp;rfl));intro gb341 hg w3 hbox hb;refine ev4 (bs HB hb) (hbox) (gle hg HB) (gle hg HB) ?_;clear HB;intro HB BK341 GW341 GE341;clear hb hbox hg)))
 go_loopg [8] k (fun kq v8 w'=>∃ (x8_1:Int),v8 = .int .i64 x8_1∧Aside0 (impl_Cell_125.l0 kq l0 (l0.length:Int) x8_1 a1_0 a1_1 = some r)∧Aside0 (kq ≤ k)∧Aside0 (w'.heap[gb341]? = some (.cells #[.int .i64 a1_0,.int .i64 a1_1] 88 (0,0)))∧Aside0 (Below w.heap.size w w'))
 case atStart=>exact ⟨(0),(by first | rfl | (simp;done) | (simp [*];done)),H',⟨Nat.le_refl _⟩,⟨km_ BK341⟩,⟨bm HB⟩⟩
 case round =>
  clear H';(try clear c1);(try clear p2);obtain ⟨x8_1,rfl,HA,HK1,BK341,HB⟩:=hrel;cases gk with
  | zero=>exact absurd HA.out (by simp [impl_Cell_125.l0])
  | succ k1 =>
   have H:=HA.out;clear HA;simp only [impl_Cell_125.l0] at H;by_cases c4:x8_1 < (l0.length:Int)
   ·rw [if_pos c4] at H;have c4b0:decide (x8_1 < (l0.length:Int)) = true:=decide_eq_true c4;clear c4;replace H:=np_ H;obtain ⟨c5,H⟩:=H;have c5b0:decide (0 ≤ x8_1) = true:=decide_eq_true c5;clear c5;replace H:=np_ H;obtain ⟨c6,H⟩:=H;have c6b0:decide (x8_1 < (l0.length:Int)) = true:=decide_eq_true c6;clear c6;by_cases c7:(a1_0 == ((rd_T88 l0 x8_1).f0) && (a1_1 == ((rd_T88 l0 x8_1).f1))) = true
    ·rw [if_pos c7] at H;have c7b0:(a1_0 == ((rd_T88 l0 x8_1).f0) && (a1_1 == ((rd_T88 l0 x8_1).f1))) = true:=c7;(try (have c7b1:decide (a1_0 = ((rd_T88 l0 x8_1).f0) && (a1_1 == ((rd_T88 l0 x8_1).f1))) = true:=by simpa using c7))
     (try (have c7b2:(a1_0 == ((rd_T88 l0 x8_1).f0) && (a1_1 == ((rd_T88 l0 x8_1).f1))) = true:=by simpa using c7))
     clear c7;obtain rfl:=Option.some.inj H;obtain ⟨hcz8_0,hcz8_1,hfz8_0,hfz8_1⟩:=bt2 BK341;have p342:0 ≤ (x8_1:Int):=of_decide_eq_true (by first | (with_reducible assumption) | assumption);have q342:x8_1 < (l0.length:Int):=of_decide_eq_true (by first | (with_reducible assumption) | assumption);obtain ⟨ad342,e342,hx342_0,hx342_1⟩:=at_T88 HR0.out x8_1 p342 q342;cases e342;replace hx342_0:=(HB.out.cell (World.block_lt_of_cell? w _ hx342_0)).trans hx342_0;replace hx342_1:=(HB.out.cell (World.block_lt_of_cell? w _ hx342_1)).trans hx342_1;replace p342:=eq_true p342;replace q342:=eq_true q342;go_wp2;repeat (go_quiet (fail);try go_wp2)
     go_ret;exact ⟨by first | rfl | (simp [e0_,e1_] <;> rfl) | (simp [*,e0_,e1_] <;> rfl),bm HB⟩
    ·rw [if_neg c7] at H;have c7b0:(a1_0 == ((rd_T88 l0 x8_1).f0) && (a1_1 == ((rd_T88 l0 x8_1).f1))) = false:=by simpa using c7
     (try (have c7b1:decide (a1_0 = ((rd_T88 l0 x8_1).f0) && (a1_1 == ((rd_T88 l0 x8_1).f1))) = false:=by simpa using c7))
     (try (have c7b2:(a1_0 == ((rd_T88 l0 x8_1).f0) && (a1_1 == ((rd_T88 l0 x8_1).f1))) = false:=by simpa using c7))
     (try (have c7b3:¬ (a1_0 = ((rd_T88 l0 x8_1).f0) && (a1_1 == ((rd_T88 l0 x8_1).f1))):=by simpa using c7))
     clear c7;have H':=Aside0.mk H;clear H;obtain ⟨hcz9_0,hcz9_1,hfz9_0,hfz9_1⟩:=bt2 BK341;have p342:0 ≤ (x8_1:Int):=of_decide_eq_true (by first | (with_reducible assumption) | assumption);have q342:x8_1 < (l0.length:Int):=of_decide_eq_true (by first | (with_reducible assumption) | assumption);obtain ⟨ad342,e342,hx342_0,hx342_1⟩:=at_T88 HR0.out x8_1 p342 q342;cases e342;replace hx342_0:=(HB.out.cell (World.block_lt_of_cell? w _ hx342_0)).trans hx342_0;replace hx342_1:=(HB.out.cell (World.block_lt_of_cell? w _ hx342_1)).trans hx342_1;replace p342:=eq_true p342;replace q342:=eq_true q342;go_wp2;repeat (go_quiet (fail);try go_wp2)
     go_roundg k1
     case measure=>have:=HK1.out;omega
     case rel=>exact ⟨(wrap64 (x8_1 + 1)),(by first | rfl | (simp;done) | (simp [*];done)),H',⟨by have:=HK1.out;omega⟩,⟨km_ BK341⟩,⟨bm HB⟩⟩
   ·rw [if_neg c4] at H;have c4b0:decide (x8_1 < (l0.length:Int)) = false:=decide_eq_false c4;clear c4;obtain rfl:=Option.some.inj H;go_wp2;repeat (go_quiet (fail);try go_wp2)
    go_ret;exact ⟨by first | rfl | (simp [e0_,e1_] <;> rfl) | (simp [*,e0_,e1_] <;> rfl),bm HB⟩

/-! ### impl_Cell_99: function 99 -/
def impl_Cell_99.f (k:Nat) (l0:List (S88)) (a1_0:Int) (a1_1:Int):Option (Bool):=(impl_Cell_125.f k l0 a1_0 a1_1).bind fun t344=>(some (decide (t344 ≥ 0)))
theorem impl_Cell_99.calls (k:Nat) (A0:Option Addr) (c0:Nat) (l0:List (S88)) (a1_0:Int) (a1_1:Int) (r:Bool) (w:World) (hr0:Kd.C k88 w A0 l0.length l0) (hc0:l0.length ≤ c0) (h:impl_Cell_99.f k l0 a1_0 a1_1 = some r) :
    Calls Try.prog 99 #[.slice A0 l0.length c0,.agg #[.int .i64 a1_0,.int .i64 a1_1]] w fun e w'=>e = .returned (.bool r)∧Below w.heap.size w w':=by
 have S:=St.init (w:=w) (dc k88_heap at88 hr0 hc0 dn)
 clear hr0 hc0
 have F:=S.fc
 have H:=h;clear h;unfold impl_Cell_99.f at H
 replace H:=Option.bind_eq_some_iff.mp H;obtain ⟨t344,A3,H⟩:=H;(try dsimp only at H)
 obtain rfl:=Option.some.inj H
 go_enter Try.func99,Try.ntmps99
 go_wp2_with (first | ((with_reducible refine gd 3 rfl (L ?_));refine bo 3 (.agg #[_,_]) S ?_;clear S F;intro gb343 W S;have F:=S.fc) | ((with_reducible refine gate_callee (f:=125) rfl (L ?_));refine cl (some 7) Try.func125 (impl_Cell_125.calls _ _ _ _ _ _ _ _ S.c S.n A3) (hargs:=by (simp only [ma_,mb_,mc_,F] <;> rfl)) (h:=?_);rintro e W ⟨rfl,hb⟩;refine ⟨_,rfl,?_⟩;replace S:=S.go hb;clear F hb;have F:=S.fc))
 go_ret
 exact ⟨(by first | rfl | (simp [e0_,e1_] <;> rfl) | (simp [*,e0_,e1_] <;> rfl)),S.below⟩

/-! ### impl_IsChallenge: function 63 -/
mutual
def impl_IsChallenge.j0:Nat→Bool→Int→Int→List (S88)→List Int→List Int→Option (Bool)
  | 0,_,_,_,_,_,_=>none
  | k + 1,x59,x346000,x346001,x346002,x346003,x346004=>if x59 = true then (some false) else (impl_IsChallenge.l0 k x346002 (x346002.length:Int) 0 x346000 x346001 x346002 x346003 x346004)
def impl_IsChallenge.l0:Nat→List (S88)→Int→Int→Int→Int→List (S88)→List Int→List Int→Option (Bool)
  | 0,_,_,_,_,_,_,_,_=>none
  | k + 1,x61,x62,x63,x346000,x346001,x346002,x346003,x346004=>if x63 < x62 then (if 0 ≤ x63 then (if x63 < (x61.length:Int) then ((impl_IsCell.f ((rd_T88 x61 x63).f0) ((rd_T88 x61 x63).f1)).bind fun t348=>(if t348 = true then (if ((rd_T88 x61 x63).f0) = 0 then (some false) else (if x63 ≤ (x346002.length:Int) then ((impl_Cell_99.f k (x346002.take (x63:Int).toNat) ((rd_T88 x61 x63).f0) ((rd_T88 x61 x63).f1)).bind fun t353=>(if t353 = true then (some false) else (impl_IsChallenge.l0 k x61 x62 (wrap64 (x63 + 1)) x346000 x346001 x346002 x346003 x346004))) else (none))) else (some false))) else (none)) else (none)) else (impl_IsChallenge.l1 k x346003 (x346003.length:Int) 0 x346000 x346001 x346002 x346003 x346004)
def impl_IsChallenge.l1:Nat→List Int→Int→Int→Int→Int→List (S88)→List Int→List Int→Option (Bool)
  | 0,_,_,_,_,_,_,_,_=>none
  | k + 1,x86,x87,x88,x346000,x346001,x346002,x346003,x346004=>if x88 < x87 then (if 0 ≤ x88 then (if x88 < (x86.length:Int) then (if (rd x86 x88) < 0 then (some false) else (if (rd x86 x88) ≥ x346001 then (some false) else (if x88 < (x346004.length:Int) then (if (rd x346004 x88) < 0 then (some false) else (if (rd x346004 x88) > (wrap64 (x346001 + 1)) then (some false) else (impl_IsChallenge.l1 k x86 x87 (wrap64 (x88 + 1)) x346000 x346001 x346002 x346003 x346004))) else (none)))) else (none)) else (none)) else (impl_IsChallenge.l2 k 1 0 x346000 x346001 x346002 x346003 x346004)
def impl_IsChallenge.l2:Nat→Int→Int→Int→Int→List (S88)→List Int→List Int→Option (Bool)
  | 0,_,_,_,_,_,_,_=>none
  | k + 1,x7,x8,x346000,x346001,x346002,x346003,x346004=>if x8 < (wrap64 (x346000 * x346001)) then (if (wrap64 (x7 * (wrap64 ((x346002.length:Int) + 1)))) > 7000 then (some false) else (impl_IsChallenge.l2 k (wrap64 (x7 * (wrap64 ((x346002.length:Int) + 1)))) (wrap64 (x8 + 1)) x346000 x346001 x346002 x346003 x346004)) else (some true)
end
def impl_IsChallenge.f (k:Nat) (a0_0:Int) (a0_1:Int) (l0_2:List (S88)) (l0_3:List Int) (l0_4:List Int):Option (Bool):=if a0_0 < 1 then (impl_IsChallenge.j0 k true a0_0 a0_1 l0_2 l0_3 l0_4) else (if a0_0 > 4 then (impl_IsChallenge.j0 k true a0_0 a0_1 l0_2 l0_3 l0_4) else (if a0_1 < 1 then (impl_IsChallenge.j0 k true a0_0 a0_1 l0_2 l0_3 l0_4) else (if a0_1 > 4 then (impl_IsChallenge.j0 k true a0_0 a0_1 l0_2 l0_3 l0_4) else (if (l0_2.length:Int) < 1 then (impl_IsChallenge.j0 k true a0_0 a0_1 l0_2 l0_3 l0_4) else (if (l0_2.length:Int) > 6 then (impl_IsChallenge.j0 k true a0_0 a0_1 l0_2 l0_3 l0_4) else (if (l0_3.length:Int) < 1 then (impl_IsChallenge.j0 k true a0_0 a0_1 l0_2 l0_3 l0_4) else (if (l0_3.length:Int) > 8 then (impl_IsChallenge.j0 k true a0_0 a0_1 l0_2 l0_3 l0_4) else (impl_IsChallenge.j0 k ((l0_4.length:Int) != (l0_3.length:Int)) a0_0 a0_1 l0_2 l0_3 l0_4))))))))
theorem impl_IsChallenge.calls (k:Nat) (a0_0:Int) (a0_1:Int) (A0_2:Option Addr) (c0_2:Nat) (l0_2:List (S88)) (A0_3:Option Addr) (c0_3:Nat) (l0_3:List Int) (A0_4:Option Addr) (c0_4:Nat) (l0_4:List Int) (r:Bool) (w:World) (hr0_2:Kd.C k88 w A0_2 l0_2.length l0_2) (hc0_2:l0_2.length ≤ c0_2) (hr0_3:Kd.C (Kd.int .i64) w A0_3 l0_3.length l0_3) (hc0_3:l0_3.length ≤ c0_3) (hr0_4:Kd.C (Kd.int .i64) w A0_4 l0_4.length l0_4) (hc0_4:l0_4.length ≤ c0_4) (h:impl_IsChallenge.f k a0_0 a0_1 l0_2 l0_3 l0_4 = some r) :
    Calls Try.prog 63 #[.agg #[.int .i64 a0_0,.int .i64 a0_1,.slice A0_2 l0_2.length c0_2,.slice A0_3 l0_3.length c0_3,.slice A0_4 l0_4.length c0_4]] w fun e w'=>e = .returned (.bool r)∧Below w.heap.size w w':=by
 have S:=St.init (w:=w) (dc k88_heap at88 hr0_2 hc0_2 (dc (Kd.heap_int .i64) (atI .i64) hr0_3 hc0_3 (dc (Kd.heap_int .i64) (atI .i64) hr0_4 hc0_4 dn)))
 clear hr0_2 hc0_2 hr0_3 hc0_3 hr0_4 hc0_4
 have F:=S.fc
 have H:=h;clear h;unfold impl_IsChallenge.f at H
 go_enter Try.func63,Try.ntmps63
 go_upto_region 1 with (first | ((with_reducible refine gd 1 rfl (L ?_));refine bo 1 (.agg #[_,_,_,_,_]) S ?_;clear S F;intro gb345 W S;have F:=S.fc) | ((with_reducible refine gs (t:=88) rfl (L ?_));(first | refine sb (.agg #[_,_]) S sz88 ?_ | refine ro (.agg #[_,_]) S sz88 ?_ (ho:=rfl) (hx:=rfl) (hy:=rfl));(clear S F;intro W S;have F:=S.fc)))
 (try simp only [Act.put,List.setIfInBounds_toArray,List.set_cons_zero,List.set_cons_succ])
 go_cut [59] (fun v59 wc=>∃ (kq:Nat) (x59_1:Bool),v59 = .bool x59_1∧impl_IsChallenge.j0 kq x59_1 a0_0 a0_1 l0_2 l0_3 l0_4 = some r∧kq ≤ k∧St w w (fun _=>False) [bor at88 A0_2 c0_2 l0_2,bor (atI .i64) A0_3 c0_3 l0_3,bor (atI .i64) A0_4 c0_4 l0_4] wc  [box gb345 31 [.int .i64 a0_0,.int .i64 a0_1,.slice A0_2 l0_2.length c0_2,.slice A0_3 l0_3.length c0_3,.slice A0_4 l0_4.length c0_4]])
 case first =>
  replace H:=sp_ H;rcases H with ⟨c4,H⟩ | ⟨c4,H⟩
  · skip
    go_wp2_with (first | ((with_reducible refine gs (t:=88) rfl (L ?_));(first | refine sb (.agg #[_,_]) S sz88 ?_ | refine ro (.agg #[_,_]) S sz88 ?_ (ho:=rfl) (hx:=rfl) (hy:=rfl));(clear S F;intro W S;have F:=S.fc)))
    go_meet
    case rel=>exact ⟨_,true,(by first | rfl | (simp;done) | (simp [*];done) | (rw [w6_ (by omega) (by omega)])),H,(by first | omega | exact Nat.le_refl _),S⟩
  · skip
    replace H:=sp_ H;rcases H with ⟨c6,H⟩ | ⟨c6,H⟩
    · skip
      go_wp2_with (first | ((with_reducible refine gs (t:=88) rfl (L ?_));(first | refine sb (.agg #[_,_]) S sz88 ?_ | refine ro (.agg #[_,_]) S sz88 ?_ (ho:=rfl) (hx:=rfl) (hy:=rfl));(clear S F;intro W S;have F:=S.fc)))
      go_meet
      case rel=>exact ⟨_,true,(by first | rfl | (simp;done) | (simp [*];done) | (rw [w6_ (by omega) (by omega)])),H,(by first | omega | exact Nat.le_refl _),S⟩
    · skip
      replace H:=sp_ H;rcases H with ⟨c8,H⟩ | ⟨c8,H⟩
      · skip
        go_wp2_with (first | ((with_reducible refine gs (t:=88) rfl (L ?_));(first | refine sb (.agg #[_,_]) S sz88 ?_ | refine ro (.agg #[_,_]) S sz88 ?_ (ho:=rfl) (hx:=rfl) (hy:=rfl));(clear S F;intro W S;have F:=S.fc)))
        go_meet
        case rel=>exact ⟨_,true,(by first | rfl | (simp;done) | (simp [*];done) | (rw [w6_ (by omega) (by omega)])),H,(by first | omega | exact Nat.le_refl _),S⟩
      · skip
        replace H:=sp_ H;rcases H with ⟨c10,H⟩ | ⟨c10,H⟩
        · skip
          go_wp2_with (first | ((with_reducible refine gs (t:=88) rfl (L ?_));(first | refine sb (.agg #[_,_]) S sz88 ?_ | refine ro (.agg #[_,_]) S sz88 ?_ (ho:=rfl) (hx:=rfl) (hy:=rfl));(clear S F;intro W S;have F:=S.fc)))
          go_meet
          case rel=>exact ⟨_,true,(by first | rfl | (simp;done) | (simp [*];done) | (rw [w6_ (by omega) (by omega)])),H,(by first | omega | exact Nat.le_refl _),S⟩
        · skip
          replace H:=sp_ H;rcases H with ⟨c12,H⟩ | ⟨c12,H⟩
          · skip
            go_wp2_with (first | ((with_reducible refine gs (t:=88) rfl (L ?_));(first | refine sb (.agg #[_,_]) S sz88 ?_ | refine ro (.agg #[_,_]) S sz88 ?_ (ho:=rfl) (hx:=rfl) (hy:=rfl));(clear S F;intro W S;have F:=S.fc)))
            go_meet
            case rel=>exact ⟨_,true,(by first | rfl | (simp;done) | (simp [*];done) | (rw [w6_ (by omega) (by omega)])),H,(by first | omega | exact Nat.le_refl _),S⟩
          · skip
            replace H:=sp_ H;rcases H with ⟨c14,H⟩ | ⟨c14,H⟩
            · skip
              go_wp2_with (first | ((with_reducible refine gs (t:=88) rfl (L ?_));(first | refine sb (.agg #[_,_]) S sz88 ?_ | refine ro (.agg #[_,_]) S sz88 ?_ (ho:=rfl) (hx:=rfl) (hy:=rfl));(clear S F;intro W S;have F:=S.fc)))
              go_meet
              case rel=>exact ⟨_,true,(by first | rfl | (simp;done) | (simp [*];done) | (rw [w6_ (by omega) (by omega)])),H,(by first | omega | exact Nat.le_refl _),S⟩
            · skip
              replace H:=sp_ H;rcases H with ⟨c16,H⟩ | ⟨c16,H⟩
              · skip
                go_wp2_with (first | ((with_reducible refine gs (t:=88) rfl (L ?_));(first | refine sb (.agg #[_,_]) S sz88 ?_ | refine ro (.agg #[_,_]) S sz88 ?_ (ho:=rfl) (hx:=rfl) (hy:=rfl));(clear S F;intro W S;have F:=S.fc)))
                go_meet
                case rel=>exact ⟨_,true,(by first | rfl | (simp;done) | (simp [*];done) | (rw [w6_ (by omega) (by omega)])),H,(by first | omega | exact Nat.le_refl _),S⟩
              · skip
                replace H:=sp_ H;rcases H with ⟨c18,H⟩ | ⟨c18,H⟩
                · skip
                  go_wp2_with (first | ((with_reducible refine gs (t:=88) rfl (L ?_));(first | refine sb (.agg #[_,_]) S sz88 ?_ | refine ro (.agg #[_,_]) S sz88 ?_ (ho:=rfl) (hx:=rfl) (hy:=rfl));(clear S F;intro W S;have F:=S.fc)))
                  go_meet
                  case rel=>exact ⟨_,true,(by first | rfl | (simp;done) | (simp [*];done) | (rw [w6_ (by omega) (by omega)])),H,(by first | omega | exact Nat.le_refl _),S⟩
                · skip
                  go_wp2_with (first | ((with_reducible refine gs (t:=88) rfl (L ?_));(first | refine sb (.agg #[_,_]) S sz88 ?_ | refine ro (.agg #[_,_]) S sz88 ?_ (ho:=rfl) (hx:=rfl) (hy:=rfl));(clear S F;intro W S;have F:=S.fc)))
                  go_meet
                  case rel=>exact ⟨_,((l0_4.length:Int) != (l0_3.length:Int)),(by first | rfl | (simp;done) | (simp [*];done) | (rw [w6_ (by omega) (by omega)])),H,(by first | omega | exact Nat.le_refl _),S⟩
 case rest =>
  clear H S F
  obtain ⟨kq,x59_1,rfl,HA,HJ1,S⟩:=hcut
  have F:=S.fc
  cases kq with
  | zero=>exact absurd HA (by simp [impl_IsChallenge.j0])
  | succ kj1 =>
   have H:=HA;clear HA;simp only [impl_IsChallenge.j0,F] at H
   replace H:=sp_ H;rcases H with ⟨c21,H⟩ | ⟨c21,H⟩
   · skip
     subst c21
     obtain rfl:=Option.some.inj H
     go_wp2_with (first | ((with_reducible refine gs (t:=88) rfl (L ?_));(first | refine sb (.agg #[_,_]) S sz88 ?_ | refine ro (.agg #[_,_]) S sz88 ?_ (ho:=rfl) (hx:=rfl) (hy:=rfl));(clear S F;intro W S;have F:=S.fc)))
     go_ret
     exact ⟨(by first | rfl | (simp [e0_,e1_] <;> rfl) | (simp [*,e0_,e1_] <;> rfl)),S.below⟩
   · skip
     replace c21:=cbf c21;subst c21
     go_wp2_with (first | ((with_reducible refine gs (t:=88) rfl (L ?_));(first | refine sb (.agg #[_,_]) S sz88 ?_ | refine ro (.agg #[_,_]) S sz88 ?_ (ho:=rfl) (hx:=rfl) (hy:=rfl));(clear S F;intro W S;have F:=S.fc)))
     go_loopg [63] kj1 (fun kq v63 w'=>∃ (x63_2:Int),v63 = .int .i64 x63_2∧impl_IsChallenge.l0 kq l0_2 (l0_2.length:Int) x63_2 a0_0 a0_1 l0_2 l0_3 l0_4 = some r∧kq ≤ kj1∧St w w (fun _=>False) [bor at88 A0_2 c0_2 l0_2,bor (atI .i64) A0_3 c0_3 l0_3,bor (atI .i64) A0_4 c0_4 l0_4] w'  [box gb345 31 [.int .i64 a0_0,.int .i64 a0_1,.slice A0_2 l0_2.length c0_2,.slice A0_3 l0_3.length c0_3,.slice A0_4 l0_4.length c0_4]])
     case atStart=>exact ⟨0,(by first | rfl | (simp;done) | (simp [*];done) | (rw [w6_ (by omega) (by omega)])),H,Nat.le_refl _,S⟩
     case round =>
      clear H S F
      obtain ⟨x63_2,rfl,HA,HK2,S⟩:=hrel
      have F:=S.fc
      cases gk with
      | zero=>exact absurd HA (by simp [impl_IsChallenge.l0])
      | succ k2 =>
       have H:=HA;clear HA;simp only [impl_IsChallenge.l0,F] at H
       replace H:=sp_ H;rcases H with ⟨c23,H⟩ | ⟨c23,H⟩
       · skip
         replace H:=np_ H;obtain ⟨c24,H⟩:=H
         replace H:=np_ H;obtain ⟨c25,H⟩:=H
         replace H:=Option.bind_eq_some_iff.mp H;obtain ⟨t348,A26,H⟩:=H;(try dsimp only at H)
         replace H:=sp_ H;rcases H with ⟨c27,H⟩ | ⟨c27,H⟩
         · skip
           subst c27
           replace H:=sp_ H;rcases H with ⟨c28,H⟩ | ⟨c28,H⟩
           · skip
             replace c28:=ceq c28
             obtain rfl:=Option.some.inj H
             go_wp2_with (first | ((with_reducible refine gd 4 rfl (L ?_));refine al 4 S zi88 ?_;clear S F;intro gb347 W S;have F:=S.fc) | ((with_reducible refine gs (t:=88) rfl (L ?_));(first | refine sb (.agg #[_,_]) S sz88 ?_ | refine ro (.agg #[_,_]) S sz88 ?_ (ho:=rfl) (hx:=rfl) (hy:=rfl));(clear S F;intro W S;have F:=S.fc)))
             refine rq S [(1,0),(2,1),(0,2),(0,3),(0,4),(2,5),(0,6),(0,7),(0,8),(0,9),(0,10),(0,11),(0,12),(0,13),(0,14),(0,15)] [] (h:=?_);clear S F;intro W S;have S0:=S;have F:=S.fc
             repeat (first | (refine q0 (h:=?_)) | (refine q1 S0 (h:=?_)) | (refine q0n (h:=?_)) | (refine q1n S0 (h:=?_)) | (refine q2 S0 (h:=?_)))
             (try rw [Ny349.out] at A26);refine lk2 (by rfl) (by exact (Eq.refl true)) ?_;refine cl (some 69) Try.func98 (impl_IsCell.calls _ _ _ _ A26) (hargs:=by first | (simp only [ma_,mb_,mc_,F] <;> rfl) | (simp only [ma_,mb_,mc_,F,List.length_take,List.length_drop];rw [Nat.min_eq_left] <;> first | rfl | omega)) (h:=?_);rintro e W ⟨rfl,hb⟩;refine ⟨_,rfl,?_⟩;replace S:=S.go hb;clear F hb;have F:=S.fc
             clear S0;have S0:=S;refine ⟨S0,?_⟩
             repeat (first | (refine q0 (h:=?_)) | (refine q1 S0 (h:=?_)) | (refine q0n (h:=?_)) | (refine q1n S0 (h:=?_)) | (refine q2 S0 (h:=?_)))
             refine oz ?_
             try clear S0
             go_wp2_with (first | ((with_reducible refine gs (t:=88) rfl (L ?_));(first | refine sb (.agg #[_,_]) S sz88 ?_ | refine ro (.agg #[_,_]) S sz88 ?_ (ho:=rfl) (hx:=rfl) (hy:=rfl));(clear S F;intro W S;have F:=S.fc)))
             go_ret
             exact ⟨(by first | rfl | (simp [e0_,e1_] <;> rfl) | (simp [*,e0_,e1_] <;> rfl)),S.below⟩
           · skip
             replace c28:=cne c28
             replace H:=np_ H;obtain ⟨c36,H⟩:=H
             (first | (with_reducible replace H:=ob_ H;obtain ⟨y349,hy349,H⟩:=H;(try dsimp only at H)) | (obtain ⟨y349,hy349⟩:∃ y_:List (S88),y_ = (l0_2.take (x63_2:Int).toNat):=⟨_,rfl⟩;(try rw [← hy349] at H);(try simp only [Option.bind_some] at H)));have Ny349:=Aside0.mk hy349;clear hy349
             replace H:=Option.bind_eq_some_iff.mp H;obtain ⟨t353,A37,H⟩:=H;(try dsimp only at H)
             replace H:=sp_ H;rcases H with ⟨c38,H⟩ | ⟨c38,H⟩
             · skip
               subst c38
               obtain rfl:=Option.some.inj H
               go_wp2_with (first | ((with_reducible refine gd 4 rfl (L ?_));refine al 4 S zi88 ?_;clear S F;intro gb347 W S;have F:=S.fc) | ((with_reducible refine gs (t:=88) rfl (L ?_));(first | refine sb (.agg #[_,_]) S sz88 ?_ | refine ro (.agg #[_,_]) S sz88 ?_ (ho:=rfl) (hx:=rfl) (hy:=rfl));clear S F;intro W S;(try rw [← Ny349.out] at S);have F:=S.fc))
               refine rq S [(1,0),(2,1),(0,2),(0,3),(0,4),(2,5),(0,6),(0,7),(0,8),(0,9),(0,11),(1,10),(0,12),(2,13),(2,14),(0,15)] [] (h:=?_);clear S F;intro W S;have S0:=S;have F:=S.fc
               repeat (first | (refine q0 (h:=?_)) | (refine q1 S0 (h:=?_)) | (refine q0n (h:=?_)) | (refine q1n S0 (h:=?_)) | (refine q2 S0 (h:=?_)))
               (try rw [Ny349.out] at A26);refine lk2 (by rfl) (by exact (Eq.refl true)) ?_;refine cl (some 69) Try.func98 (impl_IsCell.calls _ _ _ _ A26) (hargs:=by first | (simp only [ma_,mb_,mc_,F] <;> rfl) | (simp only [ma_,mb_,mc_,F,List.length_take,List.length_drop];rw [Nat.min_eq_left] <;> first | rfl | omega)) (h:=?_);rintro e W ⟨rfl,hb⟩;refine ⟨_,rfl,?_⟩;replace S:=S.go hb;clear F hb;have F:=S.fc
               clear S0;have S0:=S;refine ⟨S0,?_⟩
               repeat (first | (refine q0 (h:=?_)) | (refine q1 S0 (h:=?_)) | (refine q0n (h:=?_)) | (refine q1n S0 (h:=?_)) | (refine q2 S0 (h:=?_)))
               (try rw [Ny349.out] at A37);refine lk2 (by rfl) (by exact (Eq.refl true)) ?_;refine cl (some 82) Try.func99 (impl_Cell_99.calls _ _ _ _ _ _ _ _ S.c S.n A37) (hargs:=by first | (simp only [ma_,mb_,mc_,F] <;> rfl) | (simp only [ma_,mb_,mc_,F,List.length_take,List.length_drop];rw [Nat.min_eq_left] <;> first | rfl | omega)) (h:=?_);rintro e W ⟨rfl,hb⟩;refine ⟨_,rfl,?_⟩;replace S:=S.go hb;clear F hb;have F:=S.fc
               clear S0;have S0:=S;refine ⟨S0,?_⟩
               repeat (first | (refine q0 (h:=?_)) | (refine q1 S0 (h:=?_)) | (refine q0n (h:=?_)) | (refine q1n S0 (h:=?_)) | (refine q2 S0 (h:=?_)))
               refine oz ?_
               try clear S0
               go_wp2_with (first | ((with_reducible refine gs (t:=88) rfl (L ?_));(first | refine sb (.agg #[_,_]) S sz88 ?_ | refine ro (.agg #[_,_]) S sz88 ?_ (ho:=rfl) (hx:=rfl) (hy:=rfl));clear S F;intro W S;(try rw [← Ny349.out] at S);have F:=S.fc))
               go_ret
               exact ⟨(by first | rfl | (simp [e0_,e1_] <;> rfl) | (simp [*,e0_,e1_] <;> rfl)),S.below⟩
             · skip
               replace c38:=cbf c38;subst c38
               go_wp2_with (first | ((with_reducible refine gd 4 rfl (L ?_));refine al 4 S zi88 ?_;clear S F;intro gb347 W S;have F:=S.fc) | ((with_reducible refine gs (t:=88) rfl (L ?_));(first | refine sb (.agg #[_,_]) S sz88 ?_ | refine ro (.agg #[_,_]) S sz88 ?_ (ho:=rfl) (hx:=rfl) (hy:=rfl));clear S F;intro W S;(try rw [← Ny349.out] at S);have F:=S.fc))
               refine rq S [(1,0),(2,1),(0,2),(0,3),(0,4),(2,5),(0,6),(0,7),(0,8),(0,9),(0,11),(1,10),(0,12),(2,13),(2,14),(0,15)] [] (h:=?_);clear S F;intro W S;have S0:=S;have F:=S.fc
               repeat (first | (refine q0 (h:=?_)) | (refine q1 S0 (h:=?_)) | (refine q0n (h:=?_)) | (refine q1n S0 (h:=?_)) | (refine q2 S0 (h:=?_)))
               (try rw [Ny349.out] at A26);refine lk2 (by rfl) (by exact (Eq.refl true)) ?_;refine cl (some 69) Try.func98 (impl_IsCell.calls _ _ _ _ A26) (hargs:=by first | (simp only [ma_,mb_,mc_,F] <;> rfl) | (simp only [ma_,mb_,mc_,F,List.length_take,List.length_drop];rw [Nat.min_eq_left] <;> first | rfl | omega)) (h:=?_);rintro e W ⟨rfl,hb⟩;refine ⟨_,rfl,?_⟩;replace S:=S.go hb;clear F hb;have F:=S.fc
               clear S0;have S0:=S;refine ⟨S0,?_⟩
               repeat (first | (refine q0 (h:=?_)) | (refine q1 S0 (h:=?_)) | (refine q0n (h:=?_)) | (refine q1n S0 (h:=?_)) | (refine q2 S0 (h:=?_)))
               (try rw [Ny349.out] at A37);refine lk2 (by rfl) (by exact (Eq.refl true)) ?_;refine cl (some 82) Try.func99 (impl_Cell_99.calls _ _ _ _ _ _ _ _ S.c S.n A37) (hargs:=by first | (simp only [ma_,mb_,mc_,F] <;> rfl) | (simp only [ma_,mb_,mc_,F,List.length_take,List.length_drop];rw [Nat.min_eq_left] <;> first | rfl | omega)) (h:=?_);rintro e W ⟨rfl,hb⟩;refine ⟨_,rfl,?_⟩;replace S:=S.go hb;clear F hb;have F:=S.fc
               clear S0;have S0:=S;refine ⟨S0,?_⟩
               repeat (first | (refine q0 (h:=?_)) | (refine q1 S0 (h:=?_)) | (refine q0n (h:=?_)) | (refine q1n S0 (h:=?_)) | (refine q2 S0 (h:=?_)))
               refine oz ?_
               try clear S0
               go_wp2_with (first | ((with_reducible refine gs (t:=88) rfl (L ?_));(first | refine sb (.agg #[_,_]) S sz88 ?_ | refine ro (.agg #[_,_]) S sz88 ?_ (ho:=rfl) (hx:=rfl) (hy:=rfl));clear S F;intro W S;(try rw [← Ny349.out] at S);have F:=S.fc))
               go_roundg k2
               case measure=>omega
               case rel=>exact ⟨(wrap64 (x63_2 + 1)),(by first | rfl | (simp;done) | (simp [*];done) | (rw [w6_ (by omega) (by omega)])),H,(by first | omega | exact Nat.le_refl _),S.tl⟩
         · skip
           replace c27:=cbf c27;subst c27
           obtain rfl:=Option.some.inj H
           go_wp2_with (first | ((with_reducible refine gd 4 rfl (L ?_));refine al 4 S zi88 ?_;clear S F;intro gb347 W S;have F:=S.fc) | ((with_reducible refine gs (t:=88) rfl (L ?_));(first | refine sb (.agg #[_,_]) S sz88 ?_ | refine ro (.agg #[_,_]) S sz88 ?_ (ho:=rfl) (hx:=rfl) (hy:=rfl));(clear S F;intro W S;have F:=S.fc)))
           refine rq S [(1,0),(2,1),(0,2),(0,3),(0,4),(0,5),(0,6),(0,7),(0,8),(0,9),(0,10),(0,11),(0,12),(0,13),(0,14),(0,15)] [] (h:=?_);clear S F;intro W S;have S0:=S;have F:=S.fc
           repeat (first | (refine q0 (h:=?_)) | (refine q1 S0 (h:=?_)) | (refine q0n (h:=?_)) | (refine q1n S0 (h:=?_)))
           (try rw [Ny349.out] at A26);refine lk2 (by rfl) (by exact (Eq.refl true)) ?_;refine cl (some 69) Try.func98 (impl_IsCell.calls _ _ _ _ A26) (hargs:=by first | (simp only [ma_,mb_,mc_,F] <;> rfl) | (simp only [ma_,mb_,mc_,F,List.length_take,List.length_drop];rw [Nat.min_eq_left] <;> first | rfl | omega)) (h:=?_);rintro e W ⟨rfl,hb⟩;refine ⟨_,rfl,?_⟩;replace S:=S.go hb;clear F hb;have F:=S.fc
           clear S0;have S0:=S;refine ⟨S0,?_⟩
           repeat (first | (refine q0 (h:=?_)) | (refine q1 S0 (h:=?_)) | (refine q0n (h:=?_)) | (refine q1n S0 (h:=?_)))
           refine oz ?_
           try clear S0
           go_wp2_with (first | ((with_reducible refine gs (t:=88) rfl (L ?_));(first | refine sb (.agg #[_,_]) S sz88 ?_ | refine ro (.agg #[_,_]) S sz88 ?_ (ho:=rfl) (hx:=rfl) (hy:=rfl));(clear S F;intro W S;have F:=S.fc)))
           go_ret
           exact ⟨(by first | rfl | (simp [e0_,e1_] <;> rfl) | (simp [*,e0_,e1_] <;> rfl)),S.below⟩
       · skip
         go_wp2_with (first | ((with_reducible refine gs (t:=88) rfl (L ?_));(first | refine sb (.agg #[_,_]) S sz88 ?_ | refine ro (.agg #[_,_]) S sz88 ?_ (ho:=rfl) (hx:=rfl) (hy:=rfl));(clear S F;intro W S;have F:=S.fc)))
         go_loopg [88] k2 (fun kq v88 w'=>∃ (x88_3:Int),v88 = .int .i64 x88_3∧impl_IsChallenge.l1 kq l0_3 (l0_3.length:Int) x88_3 a0_0 a0_1 l0_2 l0_3 l0_4 = some r∧kq ≤ k2∧St w w (fun _=>False) [bor at88 A0_2 c0_2 l0_2,bor (atI .i64) A0_3 c0_3 l0_3,bor (atI .i64) A0_4 c0_4 l0_4] w'  [box gb345 31 [.int .i64 a0_0,.int .i64 a0_1,.slice A0_2 l0_2.length c0_2,.slice A0_3 l0_3.length c0_3,.slice A0_4 l0_4.length c0_4]])
         case atStart=>exact ⟨0,(by first | rfl | (simp;done) | (simp [*];done) | (rw [w6_ (by omega) (by omega)])),H,Nat.le_refl _,S⟩
         case round =>
          clear H S F
          obtain ⟨x88_3,rfl,HA,HK3,S⟩:=hrel
          have F:=S.fc
          cases gk with
          | zero=>exact absurd HA (by simp [impl_IsChallenge.l1])
          | succ k3 =>
           have H:=HA;clear HA;simp only [impl_IsChallenge.l1,F] at H
           replace H:=sp_ H;rcases H with ⟨c62,H⟩ | ⟨c62,H⟩
           · skip
             replace H:=np_ H;obtain ⟨c63,H⟩:=H
             replace H:=np_ H;obtain ⟨c64,H⟩:=H
             replace H:=sp_ H;rcases H with ⟨c65,H⟩ | ⟨c65,H⟩
             · skip
               obtain rfl:=Option.some.inj H
               go_wp2_with (first | ((with_reducible refine gs (t:=88) rfl (L ?_));(first | refine sb (.agg #[_,_]) S sz88 ?_ | refine ro (.agg #[_,_]) S sz88 ?_ (ho:=rfl) (hx:=rfl) (hy:=rfl));(clear S F;intro W S;have F:=S.fc)))
               (try have q65_:=Int.not_lt.mpr c65);(try have r65_:=Int.not_le.mpr c65);(try have q62_:=Int.not_lt.mpr c62);(try have r62_:=Int.not_le.mpr c62)
               refine rq S [(0,0),(0,1),(0,2),(0,3),(0,4),(0,5),(0,6),(0,7),(0,8),(0,9),(0,10),(0,11),(0,12),(0,13),(0,14),(0,15),(0,16),(0,17),(0,18),(0,19),(0,20),(0,21),(0,22),(0,23),(0,24),(0,25),(0,26)] [] (h:=?_);clear S F;intro W S;have S0:=S;have F:=S.fc
               repeat (first | (refine q0 (h:=?_)) | (refine q1 S0 (h:=?_)) | (refine q0n (h:=?_)) | (refine q1n S0 (h:=?_)))
               refine oz ?_
               try clear S0
               go_wp2_with (first | ((with_reducible refine gs (t:=88) rfl (L ?_));(first | refine sb (.agg #[_,_]) S sz88 ?_ | refine ro (.agg #[_,_]) S sz88 ?_ (ho:=rfl) (hx:=rfl) (hy:=rfl));(clear S F;intro W S;have F:=S.fc)))
               go_ret
               exact ⟨(by first | rfl | (simp [e0_,e1_] <;> rfl) | (simp [*,e0_,e1_] <;> rfl)),S.below⟩
             · skip
               replace H:=sp_ H;rcases H with ⟨c67,H⟩ | ⟨c67,H⟩
               · skip
                 obtain rfl:=Option.some.inj H
                 go_wp2_with (first | ((with_reducible refine gs (t:=88) rfl (L ?_));(first | refine sb (.agg #[_,_]) S sz88 ?_ | refine ro (.agg #[_,_]) S sz88 ?_ (ho:=rfl) (hx:=rfl) (hy:=rfl));(clear S F;intro W S;have F:=S.fc)))
                 (try have q67_:=Int.not_lt.mpr c67);(try have r67_:=Int.not_le.mpr c67);(try have q65_:=Int.not_lt.mpr c65);(try have r65_:=Int.not_le.mpr c65);(try have q62_:=Int.not_lt.mpr c62);(try have r62_:=Int.not_le.mpr c62)
                 refine rq S [(0,0),(0,1),(0,2),(0,3),(0,4),(1,5),(0,6),(0,7),(0,8),(0,9),(0,10),(0,11),(0,12),(0,13),(0,14),(0,15),(0,16),(0,17),(0,18),(0,19),(0,20),(0,21),(0,22),(0,23),(0,24),(0,25),(0,26)] [] (h:=?_);clear S F;intro W S;have S0:=S;have F:=S.fc
                 repeat (first | (refine q0 (h:=?_)) | (refine q1 S0 (h:=?_)) | (refine q0n (h:=?_)) | (refine q1n S0 (h:=?_)))
                 refine oz ?_
                 try clear S0
                 go_wp2_with (first | ((with_reducible refine gs (t:=88) rfl (L ?_));(first | refine sb (.agg #[_,_]) S sz88 ?_ | refine ro (.agg #[_,_]) S sz88 ?_ (ho:=rfl) (hx:=rfl) (hy:=rfl));(clear S F;intro W S;have F:=S.fc)))
                 go_ret
                 exact ⟨(by first | rfl | (simp [e0_,e1_] <;> rfl) | (simp [*,e0_,e1_] <;> rfl)),S.below⟩
               · skip
                 replace H:=np_ H;obtain ⟨c69,H⟩:=H
                 replace H:=sp_ H;rcases H with ⟨c70,H⟩ | ⟨c70,H⟩
                 · skip
                   obtain rfl:=Option.some.inj H
                   go_wp2_with (first | ((with_reducible refine gs (t:=88) rfl (L ?_));(first | refine sb (.agg #[_,_]) S sz88 ?_ | refine ro (.agg #[_,_]) S sz88 ?_ (ho:=rfl) (hx:=rfl) (hy:=rfl));(clear S F;intro W S;have F:=S.fc)))
                   (try have q70_:=Int.not_lt.mpr c70);(try have r70_:=Int.not_le.mpr c70);(try have q67_:=Int.not_lt.mpr c67);(try have r67_:=Int.not_le.mpr c67);(try have q65_:=Int.not_lt.mpr c65);(try have r65_:=Int.not_le.mpr c65);(try have q62_:=Int.not_lt.mpr c62);(try have r62_:=Int.not_le.mpr c62)
                   refine rq S [(0,0),(0,1),(0,2),(0,3),(0,4),(1,5),(0,6),(0,7),(0,8),(0,9),(0,11),(1,10),(0,12),(1,13),(0,14),(0,15),(0,16),(0,17),(0,18),(0,19),(0,20),(0,21),(0,22),(0,23),(0,24),(0,25),(0,26)] [] (h:=?_);clear S F;intro W S;have S0:=S;have F:=S.fc
                   repeat (first | (refine q0 (h:=?_)) | (refine q1 S0 (h:=?_)) | (refine q0n (h:=?_)) | (refine q1n S0 (h:=?_)))
                   refine oz ?_
                   try clear S0
                   go_wp2_with (first | ((with_reducible refine gs (t:=88) rfl (L ?_));(first | refine sb (.agg #[_,_]) S sz88 ?_ | refine ro (.agg #[_,_]) S sz88 ?_ (ho:=rfl) (hx:=rfl) (hy:=rfl));(clear S F;intro W S;have F:=S.fc)))
                   go_ret
                   exact ⟨(by first | rfl | (simp [e0_,e1_] <;> rfl) | (simp [*,e0_,e1_] <;> rfl)),S.below⟩
                 · skip
                   replace H:=sp_ H;rcases H with ⟨c72,H⟩ | ⟨c72,H⟩
                   · skip
                     obtain rfl:=Option.some.inj H
                     go_wp2_with (first | ((with_reducible refine gs (t:=88) rfl (L ?_));(first | refine sb (.agg #[_,_]) S sz88 ?_ | refine ro (.agg #[_,_]) S sz88 ?_ (ho:=rfl) (hx:=rfl) (hy:=rfl));(clear S F;intro W S;have F:=S.fc)))
                     (try have q72_:=Int.not_lt.mpr c72);(try have r72_:=Int.not_le.mpr c72);(try have q70_:=Int.not_lt.mpr c70);(try have r70_:=Int.not_le.mpr c70);(try have q67_:=Int.not_lt.mpr c67);(try have r67_:=Int.not_le.mpr c67);(try have q65_:=Int.not_lt.mpr c65);(try have r65_:=Int.not_le.mpr c65);(try have q62_:=Int.not_lt.mpr c62);(try have r62_:=Int.not_le.mpr c62)
                     refine rq S [(0,0),(0,1),(0,2),(0,3),(0,4),(1,5),(0,6),(0,7),(0,8),(0,9),(0,11),(1,10),(0,12),(1,13),(0,14),(0,15),(0,16),(0,17),(0,19),(0,22),(1,18),(0,20),(1,21),(1,23),(0,24),(0,25),(0,26)] [] (h:=?_);clear S F;intro W S;have S0:=S;have F:=S.fc
                     repeat (first | (refine q0 (h:=?_)) | (refine q1 S0 (h:=?_)) | (refine q0n (h:=?_)) | (refine q1n S0 (h:=?_)))
                     refine oz ?_
                     try clear S0
                     go_wp2_with (first | ((with_reducible refine gs (t:=88) rfl (L ?_));(first | refine sb (.agg #[_,_]) S sz88 ?_ | refine ro (.agg #[_,_]) S sz88 ?_ (ho:=rfl) (hx:=rfl) (hy:=rfl));(clear S F;intro W S;have F:=S.fc)))
                     go_ret
                     exact ⟨(by first | rfl | (simp [e0_,e1_] <;> rfl) | (simp [*,e0_,e1_] <;> rfl)),S.below⟩
                   · skip
                     go_wp2_with (first | ((with_reducible refine gs (t:=88) rfl (L ?_));(first | refine sb (.agg #[_,_]) S sz88 ?_ | refine ro (.agg #[_,_]) S sz88 ?_ (ho:=rfl) (hx:=rfl) (hy:=rfl));(clear S F;intro W S;have F:=S.fc)))
                     (try have q72_:=Int.not_lt.mpr c72);(try have r72_:=Int.not_le.mpr c72);(try have q70_:=Int.not_lt.mpr c70);(try have r70_:=Int.not_le.mpr c70);(try have q67_:=Int.not_lt.mpr c67);(try have r67_:=Int.not_le.mpr c67);(try have q65_:=Int.not_lt.mpr c65);(try have r65_:=Int.not_le.mpr c65);(try have q62_:=Int.not_lt.mpr c62);(try have r62_:=Int.not_le.mpr c62)
                     refine rq S [(0,0),(0,1),(0,2),(0,3),(0,4),(1,5),(0,6),(0,7),(0,8),(0,9),(0,11),(1,10),(0,12),(1,13),(0,14),(0,15),(0,16),(0,17),(0,19),(0,22),(1,18),(0,20),(1,21),(1,23),(0,24),(0,25),(0,26)] [] (h:=?_);clear S F;intro W S;have S0:=S;have F:=S.fc
                     repeat (first | (refine q0 (h:=?_)) | (refine q1 S0 (h:=?_)) | (refine q0n (h:=?_)) | (refine q1n S0 (h:=?_)))
                     refine oz ?_
                     try clear S0
                     go_wp2_with (first | ((with_reducible refine gs (t:=88) rfl (L ?_));(first | refine sb (.agg #[_,_]) S sz88 ?_ | refine ro (.agg #[_,_]) S sz88 ?_ (ho:=rfl) (hx:=rfl) (hy:=rfl));(clear S F;intro W S;have F:=S.fc)))
                     go_roundg k3
                     case measure=>omega
                     case rel=>exact ⟨(wrap64 (x88_3 + 1)),(by first | rfl | (simp;done) | (simp [*];done) | (rw [w6_ (by omega) (by omega)])),H,(by first | omega | exact Nat.le_refl _),S⟩
           · skip
             go_wp2_with (first | ((with_reducible refine gs (t:=88) rfl (L ?_));(first | refine sb (.agg #[_,_]) S sz88 ?_ | refine ro (.agg #[_,_]) S sz88 ?_ (ho:=rfl) (hx:=rfl) (hy:=rfl));(clear S F;intro W S;have F:=S.fc)))
             go_loopg [7,8] k3 (fun kq v7 v8 w'=>∃ (x7_4:Int) (x8_4:Int),v7 = .int .i64 x7_4∧v8 = .int .i64 x8_4∧impl_IsChallenge.l2 kq x7_4 x8_4 a0_0 a0_1 l0_2 l0_3 l0_4 = some r∧kq ≤ k3∧St w w (fun _=>False) [bor at88 A0_2 c0_2 l0_2,bor (atI .i64) A0_3 c0_3 l0_3,bor (atI .i64) A0_4 c0_4 l0_4] w'  [box gb345 31 [.int .i64 a0_0,.int .i64 a0_1,.slice A0_2 l0_2.length c0_2,.slice A0_3 l0_3.length c0_3,.slice A0_4 l0_4.length c0_4]])
             case atStart=>exact ⟨1,0,(by first | rfl | (simp;done) | (simp [*];done) | (rw [w6_ (by omega) (by omega)])),(by first | rfl | (simp;done) | (simp [*];done) | (rw [w6_ (by omega) (by omega)])),H,Nat.le_refl _,S⟩
             case round =>
              clear H S F
              obtain ⟨x7_4,x8_4,rfl,rfl,HA,HK4,S⟩:=hrel
              have F:=S.fc
              cases gk with
              | zero=>exact absurd HA (by simp [impl_IsChallenge.l2])
              | succ k4 =>
               have H:=HA;clear HA;simp only [impl_IsChallenge.l2,F] at H
               replace H:=sp_ H;rcases H with ⟨c75,H⟩ | ⟨c75,H⟩
               · skip
                 replace H:=sp_ H;rcases H with ⟨c76,H⟩ | ⟨c76,H⟩
                 · skip
                   obtain rfl:=Option.some.inj H
                   go_wp2_with (first | ((with_reducible refine gs (t:=88) rfl (L ?_));(first | refine sb (.agg #[_,_]) S sz88 ?_ | refine ro (.agg #[_,_]) S sz88 ?_ (ho:=rfl) (hx:=rfl) (hy:=rfl));(clear S F;intro W S;have F:=S.fc)))
                   go_ret
                   exact ⟨(by first | rfl | (simp [e0_,e1_] <;> rfl) | (simp [*,e0_,e1_] <;> rfl)),S.below⟩
                 · skip
                   go_wp2_with (first | ((with_reducible refine gs (t:=88) rfl (L ?_));(first | refine sb (.agg #[_,_]) S sz88 ?_ | refine ro (.agg #[_,_]) S sz88 ?_ (ho:=rfl) (hx:=rfl) (hy:=rfl));(clear S F;intro W S;have F:=S.fc)))
                   go_roundg k4
                   case measure=>omega
                   case rel=>exact ⟨(wrap64 (x7_4 * (wrap64 ((l0_2.length:Int) + 1)))),(wrap64 (x8_4 + 1)),(by first | rfl | (simp;done) | (simp [*];done) | (rw [w6_ (by omega) (by omega)])),(by first | rfl | (simp;done) | (simp [*];done) | (rw [w6_ (by omega) (by omega)])),H,(by first | omega | exact Nat.le_refl _),S⟩
               · skip
                 obtain rfl:=Option.some.inj H
                 go_wp2_with (first | ((with_reducible refine gs (t:=88) rfl (L ?_));(first | refine sb (.agg #[_,_]) S sz88 ?_ | refine ro (.agg #[_,_]) S sz88 ?_ (ho:=rfl) (hx:=rfl) (hy:=rfl));(clear S F;intro W S;have F:=S.fc)))
                 go_ret
                 exact ⟨(by first | rfl | (simp [e0_,e1_] <;> rfl) | (simp [*,e0_,e1_] <;> rfl)),S.below⟩

/-! ### impl_boardsTried: function 106 -/
def impl_boardsTried.l0:Nat→Int→Int→Int→Int→List (S88)→List Int→List Int→Option (Int)
  | 0,_,_,_,_,_,_,_=>none
  | k + 1,x3,x4,x358000,x358001,x358002,x358003,x358004=>if x4 < (wrap64 (x358000 * x358001)) then (impl_boardsTried.l0 k (wrap64 (x3 * (wrap64 ((x358002.length:Int) + 1)))) (wrap64 (x4 + 1)) x358000 x358001 x358002 x358003 x358004) else (some x3)
def impl_boardsTried.f (k:Nat) (a0_0:Int) (a0_1:Int) (l0_2:List (S88)) (l0_3:List Int) (l0_4:List Int):Option (Int):=impl_boardsTried.l0 k 1 0 a0_0 a0_1 l0_2 l0_3 l0_4
theorem impl_boardsTried.calls (k:Nat) (a0_0:Int) (a0_1:Int) (A0_2:Option Addr) (c0_2:Nat) (l0_2:List (S88)) (A0_3:Option Addr) (c0_3:Nat) (l0_3:List Int) (A0_4:Option Addr) (c0_4:Nat) (l0_4:List Int) (r:Int) (w:World) (hr0_2:Kd.C k88 w A0_2 l0_2.length l0_2) (hc0_2:l0_2.length ≤ c0_2) (hr0_3:Kd.C (Kd.int .i64) w A0_3 l0_3.length l0_3) (hc0_3:l0_3.length ≤ c0_3) (hr0_4:Kd.C (Kd.int .i64) w A0_4 l0_4.length l0_4) (hc0_4:l0_4.length ≤ c0_4) (h:impl_boardsTried.f k a0_0 a0_1 l0_2 l0_3 l0_4 = some r) :
    Calls Try.prog 106 #[.agg #[.int .i64 a0_0,.int .i64 a0_1,.slice A0_2 l0_2.length c0_2,.slice A0_3 l0_3.length c0_3,.slice A0_4 l0_4.length c0_4]] w fun e w'=>e = .returned (.int .i64 r)∧Below w.heap.size w w':=by
 have S:=St.init (w:=w) (dc k88_heap at88 hr0_2 hc0_2 (dc (Kd.heap_int .i64) (atI .i64) hr0_3 hc0_3 (dc (Kd.heap_int .i64) (atI .i64) hr0_4 hc0_4 dn)))
 clear hr0_2 hc0_2 hr0_3 hc0_3 hr0_4 hc0_4
 have F:=S.fc
 have H:=h;clear h;unfold impl_boardsTried.f at H
 go_enter Try.func106,Try.ntmps106
 go_wp2_with (first | ((with_reducible refine gd 1 rfl (L ?_));refine bo 1 (.agg #[_,_,_,_,_]) S ?_;clear S F;intro gb357 W S;have F:=S.fc))
 go_loopg [3,4] k (fun kq v3 v4 w'=>∃ (x3_1:Int) (x4_1:Int),v3 = .int .i64 x3_1∧v4 = .int .i64 x4_1∧impl_boardsTried.l0 kq x3_1 x4_1 a0_0 a0_1 l0_2 l0_3 l0_4 = some r∧kq ≤ k∧St w w (fun _=>False) [bor at88 A0_2 c0_2 l0_2,bor (atI .i64) A0_3 c0_3 l0_3,bor (atI .i64) A0_4 c0_4 l0_4] w'  [box gb357 31 [.int .i64 a0_0,.int .i64 a0_1,.slice A0_2 l0_2.length c0_2,.slice A0_3 l0_3.length c0_3,.slice A0_4 l0_4.length c0_4]])
 case atStart=>exact ⟨1,0,(by first | rfl | (simp;done) | (simp [*];done) | (rw [w6_ (by omega) (by omega)])),(by first | rfl | (simp;done) | (simp [*];done) | (rw [w6_ (by omega) (by omega)])),H,Nat.le_refl _,S⟩
 case round =>
  clear H S F
  obtain ⟨x3_1,x4_1,rfl,rfl,HA,HK1,S⟩:=hrel
  have F:=S.fc
  cases gk with
  | zero=>exact absurd HA (by simp [impl_boardsTried.l0])
  | succ k1 =>
   have H:=HA;clear HA;simp only [impl_boardsTried.l0,F] at H
   replace H:=sp_ H;rcases H with ⟨c3,H⟩ | ⟨c3,H⟩
   · skip
     go_wp2
     go_roundg k1
     case measure=>omega
     case rel=>exact ⟨(wrap64 (x3_1 * (wrap64 ((l0_2.length:Int) + 1)))),(wrap64 (x4_1 + 1)),(by first | rfl | (simp;done) | (simp [*];done) | (rw [w6_ (by omega) (by omega)])),(by first | rfl | (simp;done) | (simp [*];done) | (rw [w6_ (by omega) (by omega)])),H,(by first | omega | exact Nat.le_refl _),S⟩
   · skip
     obtain rfl:=Option.some.inj H
     go_wp2
     go_ret
     exact ⟨(by first | rfl | (simp [e0_,e1_] <;> rfl) | (simp [*,e0_,e1_] <;> rfl)),S.below⟩

/-! ### impl_isPlayed: function 75 -/
def impl_isPlayed.f (k:Nat) (a0_0:Int) (a0_1:Int) (l0_2:List (S88)) (l0_3:List Int) (l0_4:List Int):Option (Bool):=(impl_IsChallenge.f k a0_0 a0_1 l0_2 l0_3 l0_4).bind fun t359=>(if t359 = true then ((impl_boardsTried.f k a0_0 a0_1 l0_2 l0_3 l0_4).bind fun t360=>(some (decide (t360 ≤ 2000)))) else (some false))
theorem impl_isPlayed.calls (k:Nat) (a0_0:Int) (a0_1:Int) (A0_2:Option Addr) (c0_2:Nat) (l0_2:List (S88)) (A0_3:Option Addr) (c0_3:Nat) (l0_3:List Int) (A0_4:Option Addr) (c0_4:Nat) (l0_4:List Int) (r:Bool) (w:World) (hr0_2:Kd.C k88 w A0_2 l0_2.length l0_2) (hc0_2:l0_2.length ≤ c0_2) (hr0_3:Kd.C (Kd.int .i64) w A0_3 l0_3.length l0_3) (hc0_3:l0_3.length ≤ c0_3) (hr0_4:Kd.C (Kd.int .i64) w A0_4 l0_4.length l0_4) (hc0_4:l0_4.length ≤ c0_4) (h:impl_isPlayed.f k a0_0 a0_1 l0_2 l0_3 l0_4 = some r) :
    Calls Try.prog 75 #[.agg #[.int .i64 a0_0,.int .i64 a0_1,.slice A0_2 l0_2.length c0_2,.slice A0_3 l0_3.length c0_3,.slice A0_4 l0_4.length c0_4]] w fun e w'=>e = .returned (.bool r)∧Below w.heap.size w w':=by
 have S:=St.init (w:=w) (dc k88_heap at88 hr0_2 hc0_2 (dc (Kd.heap_int .i64) (atI .i64) hr0_3 hc0_3 (dc (Kd.heap_int .i64) (atI .i64) hr0_4 hc0_4 dn)))
 clear hr0_2 hc0_2 hr0_3 hc0_3 hr0_4 hc0_4
 have F:=S.fc
 have H:=h;clear h;unfold impl_isPlayed.f at H
 replace H:=Option.bind_eq_some_iff.mp H;obtain ⟨t359,A2,H⟩:=H;(try dsimp only at H)
 replace H:=sp_ H;rcases H with ⟨c3,H⟩ | ⟨c3,H⟩
 · skip
   subst c3
   replace H:=Option.bind_eq_some_iff.mp H;obtain ⟨t360,A4,H⟩:=H;(try dsimp only at H)
   obtain rfl:=Option.some.inj H
   go_enter Try.func75,Try.ntmps75
   go_wp2_with (first | ((with_reducible refine gd 1 rfl (L ?_));refine bo 1 (.agg #[_,_,_,_,_]) S ?_;clear S F;intro gb358 W S;have F:=S.fc) | ((with_reducible refine gate_callee (f:=63) rfl (L ?_));refine cl (some 4) Try.func63 (impl_IsChallenge.calls _ _ _ _ _ _ _ _ _ _ _ _ _ _ S.c S.n S.c S.n S.c S.n A2) (hargs:=by (simp only [ma_,mb_,mc_,F] <;> rfl)) (h:=?_);rintro e W ⟨rfl,hb⟩;refine ⟨_,rfl,?_⟩;replace S:=S.go hb;clear F hb;have F:=S.fc) | (go_at_call 106;(try simp only [F]);refine (impl_boardsTried.calls _ _ _ _ _ _ _ _ _ _ _ _ _ _ S.c S.n S.c S.n S.c S.n A4).mono ?_;rintro e W ⟨rfl,hb⟩;replace S:=S.go hb;clear F hb;have F:=S.fc))
   go_ret
   exact ⟨(by first | rfl | (simp [e0_,e1_] <;> rfl) | (simp [*,e0_,e1_] <;> rfl)),S.below⟩
 · skip
   replace c3:=cbf c3;subst c3
   obtain rfl:=Option.some.inj H
   go_enter Try.func75,Try.ntmps75
   go_wp2_with (first | ((with_reducible refine gd 1 rfl (L ?_));refine bo 1 (.agg #[_,_,_,_,_]) S ?_;clear S F;intro gb358 W S;have F:=S.fc) | ((with_reducible refine gate_callee (f:=63) rfl (L ?_));refine cl (some 4) Try.func63 (impl_IsChallenge.calls _ _ _ _ _ _ _ _ _ _ _ _ _ _ S.c S.n S.c S.n S.c S.n A2) (hargs:=by (simp only [ma_,mb_,mc_,F] <;> rfl)) (h:=?_);rintro e W ⟨rfl,hb⟩;refine ⟨_,rfl,?_⟩;replace S:=S.go hb;clear F hb;have F:=S.fc))
   go_ret
   exact ⟨(by first | rfl | (simp [e0_,e1_] <;> rfl) | (simp [*,e0_,e1_] <;> rfl)),S.below⟩
end Go.Proofs.Ytipaimgpmgbkiaa.F
