-- Printed by a program; checked here.
import Derived.Test.YtimeepcpgjnajaaF0
import Derived.Test.YtimeepcpgjnajaaF1
namespace Go.Proofs.Ytimeepcpgjnajaa.F
open Go.RowKit Go.Proofs.YtimeepcpgjnajaaV.PrintWords Go.Proofs.YtimeepcpgjnajaaV.PrintLast Go.Proofs.YtimeepcpgjnajaaV.PrintMore Go.Proofs.YtimeepcpgjnajaaV.Sl
attribute [local go_sem] max2_int min2_int max_two min_two max_three min_three max_four min_four ia_opt it_opt
attribute [local go_sem] Try.underlying23 Try.underlying25 Try.underlying27 Try.underlying35 Try.underlying50 Try.underlying80 Try.underlying114 Try.underlying137
set_option maxHeartbeats 8000000
set_option maxRecDepth 100000
set_option linter.unusedVariables false
set_option linter.unusedSimpArgs false

/-! ### spec_saTurn: function 187 -/
def spec_saTurn.l0:Nat→List Int→Int→Int→Int→Int→List (S27)→Option ((List (S27)))
  | 0,_,_,_,_,_,_=>none
  | k + 1,x6,x7,x8,x266000,x266001,x266002=>if x8 < x7 then (if 0 ≤ x8 then (if x8 < (x6.length:Int) then (if 0 ≤ (rd x6 x8) then (if (rd x6 x8) < (x266002.length:Int) then ((spec_paTurn.f ((rd_T27 x266002 (rd x6 x8)).f0) ((rd_T27 x266002 (rd x6 x8)).f1)).bind fun bt268=>(spec_saTurn.l0 k x6 x7 (wrap64 (x8 + 1)) x266000 x266001 (x266002.set ((rd x6 x8):Int).toNat (⟨bt268.1,bt268.2⟩:S27)))) else (none)) else (none)) else (none)) else (none)) else (some x266002)
def spec_saTurn.f (k:Nat) (a0_0:Int) (a0_1:Int) (l0_2:List (S27)) (l1:List Int):Option ((List (S27))):=spec_saTurn.l0 k l1 (l1.length:Int) 0 a0_0 a0_1 l0_2
theorem spec_saTurn.calls (k:Nat) (a0_0:Int) (a0_1:Int) (P0_2_:Nat→Prop) (u9000_:Value) (l0_2:List (S27)) (A1:Option Addr) (c1:Nat) (l1:List Int) (r:List (S27)) (w0 w:World) (hB:Below w0.heap.size w0 w) (ho0_2:Kd.R k27 27 w w0.heap.size P0_2_ u9000_ l0_2) (hr1:∀ W_,Kept w W_ (fun k_=>P0_2_ k_)→Kd.C (Kd.int .i64) W_ A1 l1.length l1) (hc1:l1.length ≤ c1) (h:spec_saTurn.f k a0_0 a0_1 l0_2 l1 = some r) :
    Calls Try.prog 187 #[.agg #[.int .i64 a0_0,.int .i64 a0_1,u9000_],.slice A1 l1.length c1] w fun e w'=>e = .returned (.tuple #[])∧Kd.R k27 27 w' w0.heap.size (fun k_=>(P0_2_ k_∨w.heap.size ≤ k_)) u9000_ r∧Below w0.heap.size w0 w'∧Kept w w' (fun k_=>P0_2_ k_):=by
 obtain ⟨Al0_2,cl0_2,rfl⟩:=Kd.R_slice ho0_2
 have S:=St.own1 at27 hB ho0_2 (dk (atI .i64) hr1 hc1 dn)
 clear hB ho0_2 hr1 hc1
 have F:=S.fc
 have H:=h;clear h;unfold spec_saTurn.f at H
 go_enter Try.func187,Try.ntmps187
 go_wp2_with (first | ((with_reducible refine gd 2 rfl (L ?_));refine bo 2 (.agg #[_,_,_]) S ?_;clear S F;intro gb265 W S;have F:=S.fc) | ((with_reducible refine gs (t:=27) rfl (L ?_));(first | refine sb (.agg #[_,_]) S sz27 ?_ | refine ro (.agg #[_,_]) S sz27 ?_ (ho:=rfl) (hx:=rfl) (hy:=rfl));clear S F;intro W S;(try simp only [gd27] at S);have F:=S.fc))
 go_loopg [8] k (fun kq v8 w'=>∃ (x8_1:Int) (x266002_1:List (S27)),v8 = .int .i64 x8_1∧spec_saTurn.l0 kq l1 (l1.length:Int) x8_1 a0_0 a0_1 x266002_1 = some r∧kq ≤ k∧St w0 w P0_2_ [bor (atI .i64) A1 c1 l1] w'  [box gb265 25 [.int .i64 a0_0,.int .i64 a0_1,.slice Al0_2 l0_2.length cl0_2],row at27 27 Al0_2 l0_2.length cl0_2 x266002_1])
 case atStart=>exact ⟨0,l0_2,(by first | rfl | (simp;done) | (simp [*];done) | (rw [w6_ (by omega) (by omega)])),(by first | exact H | (simp only [F];exact H)),Nat.le_refl _,S⟩
 case round =>
  clear H S F
  obtain ⟨x8_1,x266002_1,rfl,HA,HK1,S⟩:=hrel
  have F:=S.fc
  cases gk with
  | zero=>exact absurd HA (by simp [spec_saTurn.l0])
  | succ k1 =>
   have H:=HA;clear HA;simp only [spec_saTurn.l0,F] at H
   replace H:=sp_ H;rcases H with ⟨c5,H⟩ | ⟨c5,H⟩
   · skip
     replace H:=np_ H;obtain ⟨c6,H⟩:=H;(try simp only [F] at c6)
     replace H:=np_ H;obtain ⟨c7,H⟩:=H;(try simp only [F] at c7)
     replace H:=np_ H;obtain ⟨c8,H⟩:=H;(try simp only [F] at c8)
     replace H:=np_ H;obtain ⟨c9,H⟩:=H;(try simp only [F] at c9)
     replace H:=Option.bind_eq_some_iff.mp H;obtain ⟨⟨t268,t269⟩,A10,H⟩:=H;(try dsimp only at H)
     (first | (with_reducible replace H:=ob_ H;obtain ⟨y270,hy270,H⟩:=H;(try dsimp only at H)) | (obtain ⟨y270,hy270⟩:∃ y_:List (S27),y_ = (x266002_1.set ((rd l1 x8_1):Int).toNat (⟨t268,t269⟩:S27)):=⟨_,rfl⟩;(try rw [← hy270] at H);(try simp only [Option.bind_some] at H)));have Ny270:=Aside0.mk hy270;clear hy270
     go_wp2_with (first | ((with_reducible refine gs (t:=27) rfl (L ?_));(first | refine sb (.agg #[_,_]) S sz27 ?_ | refine ro (.agg #[_,_]) S sz27 ?_ (ho:=rfl) (hx:=rfl) (hy:=rfl));clear S F;intro W S;(try simp only [gd27] at S);(try rw [← Ny270.out] at S);have F:=S.fc))
     refine rq S [(0,0),(0,2),(0,3),(0,5),(1,1),(1,4),(0,6),(1,7),(2,8),(0,9),(3,10)] [10] (h:=?_);clear S F;intro W S;have S0:=S;have F:=S.fc
     repeat (first | (refine q0 (h:=?_)) | (refine q1 S0 (h:=?_)) | (refine q0n (h:=?_)) | (refine q1n S0 (h:=?_)))
     refine lk2 (by rfl) (by exact (Eq.refl true)) ?_;refine cl (some 20) Try.func188 (spec_paTurn.calls _ _ _ _ _ A10) (hargs:=by (simp only [ma_,mb_,mc_,F] <;> rfl)) (h:=?_);rintro e W ⟨rfl,hb⟩;refine ⟨_,rfl,?_⟩;replace S:=S.go hb;clear F hb;have F:=S.fc
     clear S0;have S0:=S;refine ⟨S0,?_⟩
     repeat (first | (refine q0 (h:=?_)) | (refine q1 S0 (h:=?_)) | (refine q0n (h:=?_)) | (refine q1n S0 (h:=?_)))
     refine lk3 (by rfl) (by exact (Eq.refl true)) ?_;(first | refine sb (.agg #[_,_]) S sz27 ?_ | refine ro (.agg #[_,_]) S sz27 ?_ (ho:=rfl) (hx:=rfl) (hy:=rfl));clear S F;intro W S;(try simp only [gd27] at S);(try rw [← Ny270.out] at S);have F:=S.fc
     refine oz ?_
     try clear S0
     go_wp2_with (first | ((with_reducible refine gs (t:=27) rfl (L ?_));(first | refine sb (.agg #[_,_]) S sz27 ?_ | refine ro (.agg #[_,_]) S sz27 ?_ (ho:=rfl) (hx:=rfl) (hy:=rfl));clear S F;intro W S;(try simp only [gd27] at S);(try rw [← Ny270.out] at S);have F:=S.fc))
     go_roundg k1
     case measure=>omega
     case rel=>exact ⟨(wrap64 (x8_1 + 1)),y270,(by first | rfl | (simp;done) | (simp [*];done) | (rw [w6_ (by omega) (by omega)])),(by first | exact H | (simp only [F];exact H)),(by first | omega | exact Nat.le_refl _),S⟩
   · skip
     obtain rfl:=Option.some.inj H
     go_wp2_with (first | ((with_reducible refine gs (t:=27) rfl (L ?_));(first | refine sb (.agg #[_,_]) S sz27 ?_ | refine ro (.agg #[_,_]) S sz27 ?_ (ho:=rfl) (hx:=rfl) (hy:=rfl));clear S F;intro W S;(try simp only [gd27] at S);have F:=S.fc))
     first | go_end0 | ((try simp only [Exit.inBlock,Exit.then]);refine bodyPost_ret (results_none rfl _ _ _) rfl ?_)
     exact ⟨(by first | rfl | (simp [e0_,e1_] <;> rfl) | (simp [*,e0_,e1_] <;> rfl)),(by first | exact S.rp | exact Kd.R_nil _ _ _ _ _),S.below,S.kept⟩

/-! ### spec_saWith: function 172 -/
def spec_saWith.l0:Nat→List Int→List (List Int)→Int→Int→Int→Int→List (S27)→Int→Int→List (S27)→Option (Int × Int × (List (S27)))
  | 0,_,_,_,_,_,_,_,_,_,_=>none
  | k + 1,x1,x11,x12,x13,x272000,x272001,x272002,x279000,x279001,x279002=>if x13 < x12 then (if 0 ≤ x13 then (if x13 < (x11.length:Int) then (if 0 < ((rd_L3 x11 x13).length:Int) then (if 0 ≤ (rd (rd_L3 x11 x13) 0) then (if (rd (rd_L3 x11 x13) 0) < (x272002.length:Int) then (if x13 < (x1.length:Int) then (if ((rd_T27 x272002 (rd (rd_L3 x11 x13) 0)).f1) = (rd x1 x13) then (spec_saWith.l0 k x1 x11 x12 (wrap64 (x13 + 1)) x272000 x272001 x272002 x279000 x279001 x279002) else ((spec_saTurn.f k x279000 x279001 x279002 (rd_L3 x11 x13)).bind fun t286=>(spec_saWith.l0 k x1 x11 x12 (wrap64 (x13 + 1)) x272000 x272001 x272002 x279000 x279001 t286))) else (none)) else (none)) else (none)) else (none)) else (none)) else (none)) else (some (x279000,x279001,x279002))
def spec_saWith.f (k:Nat) (a0_0:Int) (a0_1:Int) (l0_2:List (S27)) (l1:List Int):Option (Int × Int × (List (S27))):=(spec_boOwn.f a0_0 a0_1 l0_2).bind fun bt273=>((spec_saUnits.f k a0_0 a0_1 l0_2).bind fun t279=>(spec_saWith.l0 k l1 t279 (t279.length:Int) 0 a0_0 a0_1 l0_2 bt273.1 bt273.2.1 bt273.2.2))
theorem spec_saWith.calls (k:Nat) (a0_0:Int) (a0_1:Int) (A0_2:Option Addr) (c0_2:Nat) (l0_2:List (S27)) (A1:Option Addr) (c1:Nat) (l1:List Int) (r1:Int) (r2:Int) (r3:List (S27)) (w:World) (hr0_2:Kd.C k27 w A0_2 l0_2.length l0_2) (hc0_2:l0_2.length ≤ c0_2) (hr1:Kd.C (Kd.int .i64) w A1 l1.length l1) (hc1:l1.length ≤ c1) (h:spec_saWith.f k a0_0 a0_1 l0_2 l1 = some (r1,r2,r3)) :
    Calls Try.prog 172 #[.agg #[.int .i64 a0_0,.int .i64 a0_1,.slice A0_2 l0_2.length c0_2],.slice A1 l1.length c1] w fun e w'=>∃ v2_:Value,e = .returned (.agg #[.int .i64 r1,.int .i64 r2,v2_])∧Kd.R k27 27 w' w.heap.size (fun _=>True) v2_ r3∧Below w.heap.size w w':=by
 have S:=St.init (w:=w) (dc k27_heap at27 hr0_2 hc0_2 (dc (Kd.heap_int .i64) (atI .i64) hr1 hc1 dn))
 clear hr0_2 hc0_2 hr1 hc1
 have F:=S.fc
 have H:=h;clear h;unfold spec_saWith.f at H
 replace H:=Option.bind_eq_some_iff.mp H;obtain ⟨⟨t273,t274,t275⟩,A3,H⟩:=H;(try dsimp only at H)
 replace H:=Option.bind_eq_some_iff.mp H;obtain ⟨t279,A4,H⟩:=H;(try dsimp only at H)
 go_enter Try.func172,Try.ntmps172
 go_wp2_with (first | ((with_reducible refine gd 2 rfl (L ?_));refine bo 2 (.agg #[_,_,_]) S ?_;clear S F;intro gb271 W S;have F:=S.fc) | ((with_reducible refine gd 4 rfl (L ?_));refine al 4 S zi25 ?_;clear S F;intro gb272 W S;have F:=S.fc) | (go_at_call 92;(try simp only [F]);refine (spec_boOwn.calls _ _ _ _ _ _ _ _ _ S.c S.n A3).mono ?_;rintro e W ⟨v276,rfl,ho0,hb⟩;replace S:=S.got at27 hb ho0;obtain ⟨At275,ct275,rfl,S⟩:=S;clear F hb ho0;have F:=S.fc) | ((with_reducible refine gd 5 rfl (L ?_));refine al 5 S zi25 ?_;clear S F;intro gb278 W S;have F:=S.fc) | (go_at_call 142;(try simp only [F]);refine (spec_saUnits.calls _ _ _ _ _ _ _ _ S.c S.n A4).mono ?_;rintro e W ⟨v280,rfl,ho0,hb⟩;replace S:=S.got (atU (d:=Kd.slice 3 (Kd.int .i64))) hb ho0;obtain ⟨At279,ct279,rfl,S⟩:=S;clear F hb ho0;replace S:=S.fzr At279 rfl;have F:=S.fc) | ((with_reducible refine gs (t:=25) rfl (L ?_));(first | refine sb (.agg #[_,_,_]) S sz25 ?_ | refine ro (.agg #[_,_,_]) S sz25 ?_ (ho:=rfl) (hx:=rfl) (hy:=rfl));(clear S F;intro W S;have F:=S.fc)))
 go_wp2_with (first | ((with_reducible refine gd 2 rfl (L ?_));refine bo 2 (.agg #[_,_,_]) S ?_;clear S F;intro gb271 W S;have F:=S.fc) | ((with_reducible refine gd 4 rfl (L ?_));refine al 4 S zi25 ?_;clear S F;intro gb272 W S;have F:=S.fc) | (go_at_call 92;(try simp only [F]);refine (spec_boOwn.calls _ _ _ _ _ _ _ _ _ S.c S.n A3).mono ?_;rintro e W ⟨v276,rfl,ho0,hb⟩;replace S:=S.got at27 hb ho0;obtain ⟨At275,ct275,rfl,S⟩:=S;clear F hb ho0;have F:=S.fc) | ((with_reducible refine gd 5 rfl (L ?_));refine al 5 S zi25 ?_;clear S F;intro gb278 W S;have F:=S.fc) | (go_at_call 142;(try simp only [F]);refine (spec_saUnits.calls _ _ _ _ _ _ _ _ S.c S.n A4).mono ?_;rintro e W ⟨v280,rfl,ho0,hb⟩;replace S:=S.got (atU (d:=Kd.slice 3 (Kd.int .i64))) hb ho0;obtain ⟨At279,ct279,rfl,S⟩:=S;clear F hb ho0;replace S:=S.fzr At279 rfl;have F:=S.fc) | ((with_reducible refine gd 2 rfl (L ?_));refine bo 2 (.agg #[_,_,_]) S ?_;clear S F;intro gb271 W S;have F:=S.fc) | ((with_reducible refine gd 4 rfl (L ?_));refine al 4 S zi25 ?_;clear S F;intro gb272 W S;have F:=S.fc) | (go_at_call 92;(try simp only [F]);refine (spec_boOwn.calls _ _ _ _ _ _ _ _ _ S.c S.n A3).mono ?_;rintro e W ⟨v276,rfl,ho0,hb⟩;replace S:=S.got at27 hb ho0;obtain ⟨At275,ct275,rfl,S⟩:=S;clear F hb ho0;have F:=S.fc) | ((with_reducible refine gd 5 rfl (L ?_));refine al 5 S zi25 ?_;clear S F;intro gb278 W S;have F:=S.fc) | (go_at_call 142;(try simp only [F]);refine (spec_saUnits.calls _ _ _ _ _ _ _ _ S.c S.n A4).mono ?_;rintro e W ⟨v280,rfl,ho0,hb⟩;replace S:=S.got (atU (d:=Kd.slice 3 (Kd.int .i64))) hb ho0;obtain ⟨At279,ct279,rfl,S⟩:=S;clear F hb ho0;replace S:=S.fzr At279 rfl;have F:=S.fc) | ((with_reducible refine gs (t:=25) rfl (L ?_));(first | refine sb (.agg #[_,_,_]) S sz25 ?_ | refine ro (.agg #[_,_,_]) S sz25 ?_ (ho:=rfl) (hx:=rfl) (hy:=rfl));(clear S F;intro W S;have F:=S.fc)) | ((refine rq (id:=5) S [(0,0),(0,2),(0,3),(0,8),(0,9),(0,10),(1,1),(1,4),(0,5),(0,6),(1,7),(1,11),(0,12)] [] (h:=?_);clear S F;intro W S;have S0:=S;have F:=S.fc)) | (refine q0 (h:=?_)) | (refine q1 S0 (h:=?_)) | (refine q0n (h:=?_)) | (refine q1n S0 (h:=?_)) | refine oz ?_)
 go_loopg [13] k (fun kq v13 w'=>∃ (x13_1:Int) (x279002_1:List (S27)) (Ax279002_1:Option Addr) (cx279002_1:Nat),v13 = .int .i64 x13_1∧spec_saWith.l0 kq l1 t279 (t279.length:Int) x13_1 a0_0 a0_1 l0_2 t273 t274 x279002_1 = some (r1,r2,r3)∧kq ≤ k∧St w w (fun _=>False) [bor (atU (d:=Kd.slice 3 (Kd.int .i64))) At279 ct279 t279,bor at27 A0_2 c0_2 l0_2,bor (atI .i64) A1 c1 l1] w'  [box gb278 25 [.int .i64 t273,.int .i64 t274,.slice Ax279002_1 x279002_1.length cx279002_1],row at27 27 Ax279002_1 x279002_1.length cx279002_1 x279002_1,box gb272 25 [.int .i64 0,.int .i64 0,.slice none 0 0],box gb271 25 [.int .i64 a0_0,.int .i64 a0_1,.slice A0_2 l0_2.length c0_2]])
 case atStart=>exact ⟨0,t275,_,_,(by first | rfl | (simp;done) | (simp [*];done) | (rw [w6_ (by omega) (by omega)])),H,Nat.le_refl _,S.tl⟩
 case round =>
  clear H S F
  obtain ⟨x13_1,x279002_1,Ax279002_1,cx279002_1,rfl,HA,HK1,S⟩:=hrel
  have F:=S.fc
  cases gk with
  | zero=>exact absurd HA (by simp [spec_saWith.l0])
  | succ k1 =>
   have H:=HA;clear HA;simp only [spec_saWith.l0,F] at H
   replace H:=sp_ H;rcases H with ⟨c18,H⟩ | ⟨c18,H⟩
   · skip
     replace H:=np_ H;obtain ⟨c19,H⟩:=H
     replace H:=np_ H;obtain ⟨c20,H⟩:=H
     replace H:=np_ H;obtain ⟨c21,H⟩:=H
     replace H:=np_ H;obtain ⟨c22,H⟩:=H
     replace H:=np_ H;obtain ⟨c23,H⟩:=H
     replace H:=np_ H;obtain ⟨c24,H⟩:=H
     replace H:=sp_ H;rcases H with ⟨c25,H⟩ | ⟨c25,H⟩
     · skip
       replace c25:=ceq c25
       (try have m0_:0 < (rd_L3 t279 x13_1).length:=by omega)
       obtain ⟨A282_0,c282_0,S⟩:=S.inn t279 (atZ .i64) x13_1 (rd_L3 t279 x13_1);clear F;have F:=S.fc
       go_wp2_with (first | ((with_reducible refine gs (t:=25) rfl (L ?_));(first | refine sb (.agg #[_,_,_]) S sz25 ?_ | refine ro (.agg #[_,_,_]) S sz25 ?_ (ho:=rfl) (hx:=rfl) (hy:=rfl));(clear S F;intro W S;have F:=S.fc)))
       go_wp2_with (first | ((with_reducible refine gs (t:=25) rfl (L ?_));(first | refine sb (.agg #[_,_,_]) S sz25 ?_ | refine ro (.agg #[_,_,_]) S sz25 ?_ (ho:=rfl) (hx:=rfl) (hy:=rfl));(clear S F;intro W S;have F:=S.fc)) | ((refine rq (id:=5) S [(0,0),(0,2),(0,3),(0,8),(0,9),(0,10),(1,1),(1,4),(0,5),(0,6),(1,7),(1,11),(0,12)] [] (h:=?_);clear S F;intro W S;have S0:=S;have F:=S.fc)) | (refine q0 (h:=?_)) | (refine q1 S0 (h:=?_)) | (refine q0n (h:=?_)) | (refine q1n S0 (h:=?_)) | refine oz ?_)
       go_roundg k1
       case measure=>omega
       case rel=>exact ⟨(wrap64 (x13_1 + 1)),x279002_1,_,_,(by first | rfl | (simp;done) | (simp [*];done) | (rw [w6_ (by omega) (by omega)])),H,(by first | omega | exact Nat.le_refl _),(S.dk [2,3,4])⟩
     · skip
       replace c25:=cne c25
       replace H:=Option.bind_eq_some_iff.mp H;obtain ⟨t286,A29,H⟩:=H;(try dsimp only at H)
       (try have m0_:0 < (rd_L3 t279 x13_1).length:=by omega)
       obtain ⟨A282_0,c282_0,S⟩:=S.inn t279 (atZ .i64) x13_1 (rd_L3 t279 x13_1);clear F;have F:=S.fc
       go_wp2_with (first | (go_at_call 187;obtain ⟨ok_,k_⟩:=S.lend (A:=Ax279002_1);(try simp only [F]);refine (spec_saTurn.calls _ _ _ ok_ _ _ _ _ _ _ _ _ k_.below k_.own k_.c k_.n A29).mono ?_;rintro e W ⟨rfl,hy,hb,hk⟩;clear S F;have S:=k_.back _ _ hy hb hk;clear k_ hy hb hk ok_;have F:=S.fc) | ((with_reducible refine gs (t:=25) rfl (L ?_));(first | refine sb (.agg #[_,_,_]) S sz25 ?_ | refine ro (.agg #[_,_,_]) S sz25 ?_ (ho:=rfl) (hx:=rfl) (hy:=rfl));(clear S F;intro W S;have F:=S.fc)))
       go_wp2_with (first | (go_at_call 187;obtain ⟨ok_,k_⟩:=S.lend (A:=Ax279002_1);(try simp only [F]);refine (spec_saTurn.calls _ _ _ ok_ _ _ _ _ _ _ _ _ k_.below k_.own k_.c k_.n A29).mono ?_;rintro e W ⟨rfl,hy,hb,hk⟩;clear S F;have S:=k_.back _ _ hy hb hk;clear k_ hy hb hk ok_;have F:=S.fc) | (go_at_call 187;obtain ⟨ok_,k_⟩:=S.lend (A:=Ax279002_1);(try simp only [F]);refine (spec_saTurn.calls _ _ _ ok_ _ _ _ _ _ _ _ _ k_.below k_.own k_.c k_.n A29).mono ?_;rintro e W ⟨rfl,hy,hb,hk⟩;clear S F;have S:=k_.back _ _ hy hb hk;clear k_ hy hb hk ok_;have F:=S.fc) | ((with_reducible refine gs (t:=25) rfl (L ?_));(first | refine sb (.agg #[_,_,_]) S sz25 ?_ | refine ro (.agg #[_,_,_]) S sz25 ?_ (ho:=rfl) (hx:=rfl) (hy:=rfl));(clear S F;intro W S;have F:=S.fc)) | ((refine rq (id:=5) S [(0,0),(0,2),(0,3),(0,8),(0,9),(0,10),(1,1),(1,4),(0,5),(0,6),(1,7),(1,11),(0,12)] [] (h:=?_);clear S F;intro W S;have S0:=S;have F:=S.fc)) | (refine q0 (h:=?_)) | (refine q1 S0 (h:=?_)) | (refine q0n (h:=?_)) | (refine q1n S0 (h:=?_)) | refine oz ?_)
       go_roundg k1
       case measure=>omega
       case rel=>(try rw [← (show t286.length = x279002_1.length by simp only [F])] at S);exact ⟨(wrap64 (x13_1 + 1)),t286,_,_,(by first | rfl | (simp;done) | (simp [*];done) | (rw [w6_ (by omega) (by omega)])),H,(by first | omega | exact Nat.le_refl _),(S.dk [2,3,4])⟩
   · skip
     simp only [Option.some.injEq,Prod.mk.injEq] at H
     obtain ⟨rfl,rfl,rfl⟩:=H
     go_wp2_with (first | ((with_reducible refine gs (t:=25) rfl (L ?_));(first | refine sb (.agg #[_,_,_]) S sz25 ?_ | refine ro (.agg #[_,_,_]) S sz25 ?_ (ho:=rfl) (hx:=rfl) (hy:=rfl));(clear S F;intro W S;have F:=S.fc)))
     go_wp2_with (first | ((with_reducible refine gs (t:=25) rfl (L ?_));(first | refine sb (.agg #[_,_,_]) S sz25 ?_ | refine ro (.agg #[_,_,_]) S sz25 ?_ (ho:=rfl) (hx:=rfl) (hy:=rfl));(clear S F;intro W S;have F:=S.fc)) | ((refine rq (id:=5) S [(0,0),(0,2),(0,3),(0,8),(0,9),(0,10),(1,1),(1,4),(0,5),(0,6),(1,7),(1,11),(0,12)] [] (h:=?_);clear S F;intro W S;have S0:=S;have F:=S.fc)) | (refine q0 (h:=?_)) | (refine q1 S0 (h:=?_)) | (refine q0n (h:=?_)) | (refine q1n S0 (h:=?_)) | refine oz ?_)
     refine bodyPost_ret (results_cell_row rfl _ _ gb272 25 #[.int .i64 t273,.int .i64 t274,.slice Ax279002_1 x279002_1.length cx279002_1] (0,0) _ rfl S.hb Try.underlying25 rfl (by kernel_rfl)) rfl ?_
     exact ⟨_,(by first | rfl | (simp [e0_,e1_] <;> rfl) | (simp [*,e0_,e1_] <;> rfl)),(by first | exact S.r | exact Kd.R_nil _ _ _ _ _),S.below⟩

/-! ### spec_saIn: function 145 -/
def spec_saIn.l0:Nat→Int→List Int→Int→Int→Int→Int→List (S27)→Option (Int × Int × (List (S27)))
  | 0,_,_,_,_,_,_,_=>none
  | k + 1,x1,x5,x9,x10,x288000,x288001,x288002=>if x10 < x9 then (if 0 ≤ (IntKind.u64.wrap (x10)) then (if x5.length < 17592186044416 then (spec_saIn.l0 k x1 (x5 ++ [Go.bits .and .i64 (shr .i64 x1 (IntKind.u64.wrap (x10))) 1]) x9 (wrap64 (x10 + 1)) x288000 x288001 x288002) else (none)) else (none)) else ((spec_saWith.f k x288000 x288001 x288002 x5).bind fun bt295=>(some (bt295.1,bt295.2.1,bt295.2.2)))
def spec_saIn.f (k:Nat) (a0_0:Int) (a0_1:Int) (l0_2:List (S27)) (a1:Int):Option (Int × Int × (List (S27))):=(spec_saUnits.f k a0_0 a0_1 l0_2).bind fun t289=>(spec_saIn.l0 k a1 ([]:List Int) (t289.length:Int) 0 a0_0 a0_1 l0_2)
theorem spec_saIn.calls (k:Nat) (a0_0:Int) (a0_1:Int) (A0_2:Option Addr) (c0_2:Nat) (l0_2:List (S27)) (a1:Int) (r1:Int) (r2:Int) (r3:List (S27)) (w:World) (hr0_2:Kd.C k27 w A0_2 l0_2.length l0_2) (hc0_2:l0_2.length ≤ c0_2) (h:spec_saIn.f k a0_0 a0_1 l0_2 a1 = some (r1,r2,r3)) :
    Calls Try.prog 145 #[.agg #[.int .i64 a0_0,.int .i64 a0_1,.slice A0_2 l0_2.length c0_2],.int .i64 a1] w fun e w'=>∃ v2_:Value,e = .returned (.agg #[.int .i64 r1,.int .i64 r2,v2_])∧Kd.R k27 27 w' w.heap.size (fun _=>True) v2_ r3∧Below w.heap.size w w':=by
 have S:=St.init (w:=w) (dc k27_heap at27 hr0_2 hc0_2 dn)
 clear hr0_2 hc0_2
 have F:=S.fc
 have H:=h;clear h;unfold spec_saIn.f at H
 replace H:=Option.bind_eq_some_iff.mp H;obtain ⟨t289,A3,H⟩:=H;(try dsimp only at H)
 go_enter Try.func145,Try.ntmps145
 go_wp2_with (first | ((with_reducible refine gd 2 rfl (L ?_));refine bo 2 (.agg #[_,_,_]) S ?_;clear S F;intro gb287 W S;have F:=S.fc) | ((with_reducible refine gd 4 rfl (L ?_));refine al 4 S zi25 ?_;clear S F;intro gb288 W S;have F:=S.fc) | ((with_reducible refine gate_callee (f:=142) rfl (L ?_));refine cl (some 8) Try.func142 (spec_saUnits.calls _ _ _ _ _ _ _ _ S.c S.n A3) (hargs:=by (simp only [ma_,mb_,mc_,F] <;> rfl)) (h:=?_);rintro e W ⟨v290,rfl,ho0,hb⟩;refine ⟨_,rfl,?_⟩;replace S:=S.got (atU (d:=Kd.slice 3 (Kd.int .i64))) hb ho0;obtain ⟨At289,ct289,rfl,S⟩:=S;clear F hb ho0;replace S:=S.fzr At289 rfl;have F:=S.fc) | ((with_reducible refine gs (t:=25) rfl (L ?_));(first | refine sb (.agg #[_,_,_]) S sz25 ?_ | refine ro (.agg #[_,_,_]) S sz25 ?_ (ho:=rfl) (hx:=rfl) (hy:=rfl));(clear S F;intro W S;have F:=S.fc)))
 go_loopg [5,10] k (fun kq v5 v10 w'=>∃ (x5_1:List Int) (x10_1:Int) (Ax5_1:Option Addr) (cx5_1:Nat),v10 = .int .i64 x10_1∧v5 = .slice Ax5_1 x5_1.length cx5_1∧spec_saIn.l0 kq a1 x5_1 (t289.length:Int) x10_1 a0_0 a0_1 l0_2 = some (r1,r2,r3)∧kq ≤ k∧St w w (fun _=>False) [bor (atU (d:=Kd.slice 3 (Kd.int .i64))) At289 ct289 t289,bor at27 A0_2 c0_2 l0_2] w'  [row (atI .i64) 3 Ax5_1 x5_1.length cx5_1 x5_1,box gb288 25 [.int .i64 0,.int .i64 0,.slice none 0 0],box gb287 25 [.int .i64 a0_0,.int .i64 a0_1,.slice A0_2 l0_2.length c0_2]])
 case atStart=>exact ⟨_,0,_,_,(by first | rfl | (simp;done) | (simp [*];done) | (rw [w6_ (by omega) (by omega)])),rfl,H,Nat.le_refl _,((S.nl (e:=3) (atI .i64)).pm [0,2,3])⟩
 case round =>
  clear H S F
  obtain ⟨x5_1,x10_1,Ax5_1,cx5_1,rfl,rfl,HA,HK1,S⟩:=hrel
  have F:=S.fc
  cases gk with
  | zero=>exact absurd HA (by simp [spec_saIn.l0])
  | succ k1 =>
   have H:=HA;clear HA;simp only [spec_saIn.l0,F] at H
   replace H:=sp_ H;rcases H with ⟨c10,H⟩ | ⟨c10,H⟩
   · skip
     obtain ⟨ji11,hji11⟩:∃ j_:Int,(IntKind.u64.wrap (x10_1)) = j_:=⟨_,rfl⟩;simp only [hji11] at H
     replace H:=np_ H;obtain ⟨c12,H⟩:=H
     obtain ⟨ji13,hji13⟩:∃ j_:Int,(shr .i64 a1 (ji11)) = j_:=⟨_,rfl⟩;simp only [hji13] at H
     have hji13_:(a1 / 2 ^ min (ji11).toNat 64) = ji13:=hji13
     have hji13z:(ji11) ≤ 64→(a1 / 2 ^ (ji11).toNat) = ji13:=shr_small hji13
     replace H:=np_ H;obtain ⟨c14,H⟩:=H
     (first | (with_reducible replace H:=ob_ H;obtain ⟨y292,hy292,H⟩:=H;(try dsimp only at H)) | (obtain ⟨y292,hy292⟩:∃ y_:List Int,y_ = (x5_1 ++ [Go.bits .and .i64 (ji13) 1]):=⟨_,rfl⟩;(try rw [← hy292] at H);(try simp only [Option.bind_some] at H)));have Ny292:=Aside0.mk hy292;clear hy292
     go_wp2_with (first | ((with_reducible refine gd 20 rfl (L ?_));refine apa (A:=Ax5_1) 20 S Try.underlying35 info3 ?_ (ho:=rfl) (hs:=rfl) (hx:=rfl);clear S F;intro Ay292 cy292 W S;(try rw [← Ny292.out] at S ⊢);have F:=S.fc) | ((with_reducible refine gs (t:=25) rfl (L ?_));(first | refine sb (.agg #[_,_,_]) S sz25 ?_ | refine ro (.agg #[_,_,_]) S sz25 ?_ (ho:=rfl) (hx:=rfl) (hy:=rfl));clear S F;intro W S;(try rw [← Ny292.out] at S);have F:=S.fc))
     go_roundg k1
     case measure=>omega
     case rel=>exact ⟨y292,(wrap64 (x10_1 + 1)),_,_,(by first | rfl | (simp;done) | (simp [*];done) | (rw [w6_ (by omega) (by omega)])),rfl,H,(by first | omega | exact Nat.le_refl _),S⟩
   · skip
     replace H:=Option.bind_eq_some_iff.mp H;obtain ⟨⟨t295,t296,t297⟩,A16,H⟩:=H;(try dsimp only at H)
     simp only [Option.some.injEq,Prod.mk.injEq] at H
     obtain ⟨rfl,rfl,rfl⟩:=H
     go_wp2_with (first | ((with_reducible refine gate_callee (f:=172) rfl (L ?_));refine cl (some 24) Try.func172 (spec_saWith.calls _ _ _ _ _ _ _ _ _ _ _ _ _ S.c S.n S.c S.n A16) (hargs:=by (simp only [ma_,mb_,mc_,F] <;> rfl)) (h:=?_);rintro e W ⟨v298,rfl,ho0,hb⟩;refine ⟨_,rfl,?_⟩;replace S:=S.got at27 hb ho0;obtain ⟨At297,ct297,rfl,S⟩:=S;clear F hb ho0;have F:=S.fc) | ((with_reducible refine gs (t:=25) rfl (L ?_));(first | refine sb (.agg #[_,_,_]) S sz25 ?_ | refine ro (.agg #[_,_,_]) S sz25 ?_ (ho:=rfl) (hx:=rfl) (hy:=rfl));(clear S F;intro W S;have F:=S.fc)))
     refine bodyPost_ret (results_cell_row rfl _ _ gb288 25 #[.int .i64 t295,.int .i64 t296,.slice At297 t297.length ct297] (0,0) _ rfl S.hb Try.underlying25 rfl (by kernel_rfl)) rfl ?_
     exact ⟨_,(by first | rfl | (simp [e0_,e1_] <;> rfl) | (simp [*,e0_,e1_] <;> rfl)),(by first | exact S.r | exact Kd.R_nil _ _ _ _ _),S.below⟩

/-! ### spec_rvNext: function 101 -/
def spec_rvNext.l0:Nat→Int→List Int→Int→Int→Int→List (S27)→Option (List Int)
  | 0,_,_,_,_,_,_=>none
  | k + 1,x1,x5,x6,x301000,x301001,x301002=>(spec_rvStates.f k x301000 x301001 x301002).bind fun t301=>(if x6 < t301 then ((spec_saIn.f k x301000 x301001 x301002 x6).bind fun bt302=>((spec_flRun.f k bt302.1 bt302.2.1 bt302.2.2 x1).bind fun bt307=>((spec_saNumber.f k bt307.2.2.2.1 bt307.2.2.2.2.1 bt307.2.2.2.2.2).bind fun t317=>(if x5.length < 17592186044416 then (spec_rvNext.l0 k x1 (x5 ++ [t317]) (wrap64 (x6 + 1)) x301000 x301001 x301002) else (none))))) else (some x5))
def spec_rvNext.f (k:Nat) (a0_0:Int) (a0_1:Int) (l0_2:List (S27)) (a1:Int):Option (List Int):=spec_rvNext.l0 k a1 ([]:List Int) 0 a0_0 a0_1 l0_2
theorem spec_rvNext.calls (k:Nat) (a0_0:Int) (a0_1:Int) (A0_2:Option Addr) (c0_2:Nat) (l0_2:List (S27)) (a1:Int) (r:List Int) (w:World) (hr0_2:Kd.C k27 w A0_2 l0_2.length l0_2) (hc0_2:l0_2.length ≤ c0_2) (h:spec_rvNext.f k a0_0 a0_1 l0_2 a1 = some r) :
    Calls Try.prog 101 #[.agg #[.int .i64 a0_0,.int .i64 a0_1,.slice A0_2 l0_2.length c0_2],.int .i64 a1] w fun e w'=>∃ v0_:Value,e = .returned (v0_)∧Kd.R (Kd.int .i64) 3 w' w.heap.size (fun _=>True) v0_ r∧Below w.heap.size w w':=by
 have S:=St.init (w:=w) (dc k27_heap at27 hr0_2 hc0_2 dn)
 clear hr0_2 hc0_2
 have F:=S.fc
 have H:=h;clear h;unfold spec_rvNext.f at H
 go_enter Try.func101,Try.ntmps101
 go_wp2_with (first | ((with_reducible refine gd 2 rfl (L ?_));refine bo 2 (.agg #[_,_,_]) S ?_;clear S F;intro gb300 W S;have F:=S.fc) | ((with_reducible refine gs (t:=25) rfl (L ?_));(first | refine sb (.agg #[_,_,_]) S sz25 ?_ | refine ro (.agg #[_,_,_]) S sz25 ?_ (ho:=rfl) (hx:=rfl) (hy:=rfl));(clear S F;intro W S;have F:=S.fc)) | ((with_reducible refine gs (t:=137) rfl (L ?_));(first | refine sb (.agg #[_,_,_]) S sz137 ?_ | refine ro (.agg #[_,_,_]) S sz137 ?_ (ho:=rfl) (hx:=rfl) (hy:=rfl));(clear S F;intro W S;have F:=S.fc)))
 go_loopg [5,6] k (fun kq v5 v6 w'=>∃ (x5_1:List Int) (x6_1:Int) (Ax5_1:Option Addr) (cx5_1:Nat),v6 = .int .i64 x6_1∧v5 = .slice Ax5_1 x5_1.length cx5_1∧spec_rvNext.l0 kq a1 x5_1 x6_1 a0_0 a0_1 l0_2 = some r∧kq ≤ k∧St w w (fun _=>False) [bor at27 A0_2 c0_2 l0_2] w'  [row (atI .i64) 3 Ax5_1 x5_1.length cx5_1 x5_1,box gb300 25 [.int .i64 a0_0,.int .i64 a0_1,.slice A0_2 l0_2.length c0_2]])
 case atStart=>exact ⟨_,0,_,_,(by first | rfl | (simp;done) | (simp [*];done) | (rw [w6_ (by omega) (by omega)])),rfl,H,Nat.le_refl _,(S.nl (e:=3) (atI .i64))⟩
 case round =>
  clear H S F
  obtain ⟨x5_1,x6_1,Ax5_1,cx5_1,rfl,rfl,HA,HK1,S⟩:=hrel
  have F:=S.fc
  cases gk with
  | zero=>exact absurd HA (by simp [spec_rvNext.l0])
  | succ k1 =>
   have H:=HA;clear HA;simp only [spec_rvNext.l0,F] at H
   replace H:=Option.bind_eq_some_iff.mp H;obtain ⟨t301,A4,H⟩:=H;(try dsimp only at H)
   replace H:=sp_ H;rcases H with ⟨c5,H⟩ | ⟨c5,H⟩
   · skip
     replace H:=Option.bind_eq_some_iff.mp H;obtain ⟨⟨t302,t303,t304⟩,A6,H⟩:=H;(try dsimp only at H)
     replace H:=Option.bind_eq_some_iff.mp H;obtain ⟨⟨t307,t308,t309,t310,t311,t312⟩,A7,H⟩:=H;(try dsimp only at H)
     replace H:=Option.bind_eq_some_iff.mp H;obtain ⟨t317,A8,H⟩:=H;(try dsimp only at H)
     replace H:=np_ H;obtain ⟨c9,H⟩:=H
     (first | (with_reducible replace H:=ob_ H;obtain ⟨y318,hy318,H⟩:=H;(try dsimp only at H)) | (obtain ⟨y318,hy318⟩:∃ y_:List Int,y_ = (x5_1 ++ [t317]):=⟨_,rfl⟩;(try rw [← hy318] at H);(try simp only [Option.bind_some] at H)));have Ny318:=Aside0.mk hy318;clear hy318
     go_wp2_with (first | ((with_reducible refine gate_callee (f:=143) rfl (L ?_));refine cl (some 11) Try.func143 (spec_rvStates.calls _ _ _ _ _ _ _ _ S.c S.n A4) (hargs:=by (simp only [ma_,mb_,mc_,F] <;> rfl)) (h:=?_);rintro e W ⟨rfl,hb⟩;refine ⟨_,rfl,?_⟩;replace S:=S.go hb;clear F hb;have F:=S.fc) | ((with_reducible refine gate_callee (f:=145) rfl (L ?_));refine cl (some 18) Try.func145 (spec_saIn.calls _ _ _ _ _ _ _ _ _ _ _ S.c S.n A6) (hargs:=by (simp only [ma_,mb_,mc_,F] <;> rfl)) (h:=?_);rintro e W ⟨v305,rfl,ho0,hb⟩;refine ⟨_,rfl,?_⟩;replace S:=S.got at27 hb ho0;obtain ⟨At304,ct304,rfl,S⟩:=S;clear F hb ho0;(try rw [← Ny318.out] at S);have F:=S.fc) | ((with_reducible refine gate_callee (f:=144) rfl (L ?_));refine cl (some 20) Try.func144 (spec_flRun.calls _ _ _ _ _ _ _ _ _ _ _ _ _ _ S.c S.n A7) (hargs:=by (simp only [ma_,mb_,mc_,F] <;> rfl)) (h:=?_);rintro e W ⟨v313,rfl,ho0,hb⟩;refine ⟨_,rfl,?_⟩;replace S:=S.got at27 hb ho0;obtain ⟨At312,ct312,rfl,S⟩:=S;clear F hb ho0;(try rw [← Ny318.out] at S);have F:=S.fc) | ((with_reducible refine gd 7 rfl (L ?_));refine al 7 S zi137 ?_;clear S F;intro gb315 W S;have F:=S.fc) | ((with_reducible refine gd 8 rfl (L ?_));refine al 8 S zi25 ?_;clear S F;intro gb316 W S;have F:=S.fc) | ((with_reducible refine gate_callee (f:=109) rfl (L ?_));refine cl (some 25) Try.func109 (spec_saNumber.calls _ _ _ _ _ _ _ _ S.c S.n A8) (hargs:=by (simp only [ma_,mb_,mc_,F] <;> rfl)) (h:=?_);rintro e W ⟨rfl,hb⟩;refine ⟨_,rfl,?_⟩;replace S:=S.go hb;clear F hb;have F:=S.fc) | ((with_reducible refine gd 27 rfl (L ?_));refine apa (A:=Ax5_1) 27 S Try.underlying35 info3 ?_ (ho:=rfl) (hs:=rfl) (hx:=rfl);clear S F;intro Ay318 cy318 W S;(try rw [← Ny318.out] at S ⊢);have F:=S.fc) | ((with_reducible refine gs (t:=25) rfl (L ?_));(first | refine sb (.agg #[_,_,_]) S sz25 ?_ | refine ro (.agg #[_,_,_]) S sz25 ?_ (ho:=rfl) (hx:=rfl) (hy:=rfl));clear S F;intro W S;(try rw [← Ny318.out] at S);have F:=S.fc) | ((with_reducible refine gs (t:=137) rfl (L ?_));(first | refine sb (.agg #[_,_,_]) S sz137 ?_ | refine ro (.agg #[_,_,_]) S sz137 ?_ (ho:=rfl) (hx:=rfl) (hy:=rfl));clear S F;intro W S;(try rw [← Ny318.out] at S);have F:=S.fc))
     go_roundg k1
     case measure=>omega
     case rel=>exact ⟨y318,(wrap64 (x6_1 + 1)),_,_,(by first | rfl | (simp;done) | (simp [*];done) | (rw [w6_ (by omega) (by omega)])),rfl,H,(by first | omega | exact Nat.le_refl _),S.tl.tl.tl.tl⟩
   · skip
     obtain rfl:=Option.some.inj H
     go_wp2_with (first | ((with_reducible refine gate_callee (f:=143) rfl (L ?_));refine cl (some 11) Try.func143 (spec_rvStates.calls _ _ _ _ _ _ _ _ S.c S.n A4) (hargs:=by (simp only [ma_,mb_,mc_,F] <;> rfl)) (h:=?_);rintro e W ⟨rfl,hb⟩;refine ⟨_,rfl,?_⟩;replace S:=S.go hb;clear F hb;have F:=S.fc) | ((with_reducible refine gs (t:=25) rfl (L ?_));(first | refine sb (.agg #[_,_,_]) S sz25 ?_ | refine ro (.agg #[_,_,_]) S sz25 ?_ (ho:=rfl) (hx:=rfl) (hy:=rfl));(clear S F;intro W S;have F:=S.fc)) | ((with_reducible refine gs (t:=137) rfl (L ?_));(first | refine sb (.agg #[_,_,_]) S sz137 ?_ | refine ro (.agg #[_,_,_]) S sz137 ?_ (ho:=rfl) (hx:=rfl) (hy:=rfl));(clear S F;intro W S;have F:=S.fc)))
     go_ret
     exact ⟨_,(by first | rfl | (simp [e0_,e1_] <;> rfl) | (simp [*,e0_,e1_] <;> rfl)),(by first | exact S.r | exact Kd.R_nil _ _ _ _ _),S.below⟩

/-! ### laws_toCell: function 66 -/
def laws_toCell.f (a0_0:Int) (a0_1:Int):Option (Int × Int):=some (a0_0,a0_1)
theorem laws_toCell.calls (a0_0:Int) (a0_1:Int) (r1:Int) (r2:Int) (w:World) (h:laws_toCell.f a0_0 a0_1 = some (r1,r2)) :
    Calls Try.prog 66 #[.agg #[.int .i64 a0_0,.int .i64 a0_1]] w fun e w'=>e = .returned (.agg #[.int .i64 r1,.int .i64 r2])∧Below w.heap.size w w':=by
 have S:=St.init (w:=w) dn
 have F:=S.fc
 have H:=h;clear h;unfold laws_toCell.f at H
 simp only [Option.some.injEq,Prod.mk.injEq] at H
 obtain ⟨rfl,rfl⟩:=H
 go_enter Try.func66,Try.ntmps66
 go_wp2_with (first | ((with_reducible refine gd 1 rfl (L ?_));refine bo 1 (.agg #[_,_]) S ?_;clear S F;intro gb333 W S;have F:=S.fc) | ((with_reducible refine gd 2 rfl (L ?_));refine al 2 S zi27 ?_;clear S F;intro gb334 W S;have F:=S.fc) | ((with_reducible refine gd 3 rfl (L ?_));refine al 3 S zi27 ?_;clear S F;intro gb335 W S;have F:=S.fc) | ((with_reducible refine gs (t:=3) rfl (L ?_));(first | refine sb (.int _ _) S sz3 ?_ | refine ro (.int _ _) S sz3 ?_ (ho:=rfl) (hx:=rfl) (hy:=rfl));(clear S F;intro W S;have F:=S.fc)) | ((with_reducible refine gs (t:=27) rfl (L ?_));(first | refine sb (.agg #[_,_]) S sz27 ?_ | refine ro (.agg #[_,_]) S sz27 ?_ (ho:=rfl) (hx:=rfl) (hy:=rfl));(clear S F;intro W S;have F:=S.fc)))
 refine bodyPost_ret (results_cell_row rfl _ _ gb334 27 #[.int .i64 a0_0,.int .i64 a0_1] (0,0) _ rfl S.hb Try.underlying27 rfl (by kernel_rfl)) rfl ?_
 exact ⟨(by first | rfl | (simp [e0_,e1_] <;> rfl) | (simp [*,e0_,e1_] <;> rfl)),S.below⟩

/-! ### laws_toCellS: function 103 -/
def laws_toCellS.l0:Nat→List (S80)→List (S27)→Int→Option ((List (S27)))
  | 0,_,_,_=>none
  | k + 1,x0,x3,x4=>if x4 < (x0.length:Int) then (if 0 ≤ x4 then ((laws_toCell.f ((rd_T80 x0 x4).f0) ((rd_T80 x0 x4).f1)).bind fun bt340=>(if x4 < (x3.length:Int) then (laws_toCellS.l0 k x0 (x3.set (x4:Int).toNat (⟨bt340.1,bt340.2⟩:S27)) (wrap64 (x4 + 1))) else (none))) else (none)) else (some x3)
def laws_toCellS.f (k:Nat) (l0:List (S80)):Option ((List (S27))):=if 0 ≤ (l0.length:Int) then (if ((l0.length:Int):Int).toNat ≤ 17592186044416 then (laws_toCellS.l0 k l0 (List.replicate ((l0.length:Int):Int).toNat z27) 0) else (none)) else (none)
theorem laws_toCellS.calls (k:Nat) (A0:Option Addr) (c0:Nat) (l0:List (S80)) (r:List (S27)) (w:World) (hr0:Kd.C k80 w A0 l0.length l0) (hc0:l0.length ≤ c0) (h:laws_toCellS.f k l0 = some r) :
    Calls Try.prog 103 #[.slice A0 l0.length c0] w fun e w'=>∃ v0_:Value,e = .returned (v0_)∧Kd.R k27 27 w' w.heap.size (fun _=>True) v0_ r∧Below w.heap.size w w':=by
 have S:=St.init (w:=w) (dc k80_heap at80 hr0 hc0 dn)
 clear hr0 hc0
 have F:=S.fc
 have H:=h;clear h;unfold laws_toCellS.f at H
 replace H:=np_ H;obtain ⟨c2,H⟩:=H;(try simp only [F] at c2)
 replace H:=np_ H;obtain ⟨c3,H⟩:=H;(try simp only [F] at c3)
 (first | (with_reducible replace H:=ob_ H;obtain ⟨y336,hy336,H⟩:=H;(try dsimp only at H)) | (obtain ⟨y336,hy336⟩:∃ y_:List (S27),y_ = (List.replicate ((l0.length:Int):Int).toNat z27):=⟨_,rfl⟩;(try rw [← hy336] at H);(try simp only [Option.bind_some] at H)));have Ny336:=Aside0.mk hy336;clear hy336
 go_enter Try.func103,Try.ntmps103
 go_wp2_with (first | ((with_reducible refine gd 7 rfl (L ?_));refine mka 7 at27 S Try.underlying23 info27 ?_;clear S F;intro Ay336 cy336 W S;(try simp only [Int.reduceToNat] at S ⊢);(try rw [← Ny336.out] at S ⊢);have F:=S.fc) | ((with_reducible refine gs (t:=27) rfl (L ?_));(first | refine sb (.agg #[_,_]) S sz27 ?_ | refine ro (.agg #[_,_]) S sz27 ?_ (ho:=rfl) (hx:=rfl) (hy:=rfl));clear S F;intro W S;(try simp only [gd27,gd80] at S);(try rw [← Ny336.out] at S);have F:=S.fc))
 go_loopg [4] k (fun kq v4 w'=>∃ (x3_1:List (S27)) (x4_1:Int),v4 = .int .i64 x4_1∧laws_toCellS.l0 kq l0 x3_1 x4_1 = some r∧kq ≤ k∧St w w (fun _=>False) [bor at80 A0 c0 l0] w'  [row at27 27 Ay336 y336.length cy336 x3_1])
 case atStart=>exact ⟨y336,0,(by first | rfl | (simp;done) | (simp [*];done) | (rw [w6_ (by omega) (by omega)])),(by first | exact H | (simp only [F];exact H)),Nat.le_refl _,S⟩
 case round =>
  clear H S F
  obtain ⟨x3_1,x4_1,rfl,HA,HK1,S⟩:=hrel
  have F:=S.fc
  cases gk with
  | zero=>exact absurd HA (by simp [laws_toCellS.l0])
  | succ k1 =>
   have H:=HA;clear HA;simp only [laws_toCellS.l0,F] at H
   replace H:=sp_ H;rcases H with ⟨c6,H⟩ | ⟨c6,H⟩
   · skip
     replace H:=np_ H;obtain ⟨c7,H⟩:=H;(try simp only [F] at c7)
     replace H:=Option.bind_eq_some_iff.mp H;obtain ⟨⟨t340,t341⟩,A8,H⟩:=H;(try dsimp only at H)
     replace H:=np_ H;obtain ⟨c9,H⟩:=H;(try simp only [F] at c9)
     (first | (with_reducible replace H:=ob_ H;obtain ⟨y342,hy342,H⟩:=H;(try dsimp only at H)) | (obtain ⟨y342,hy342⟩:∃ y_:List (S27),y_ = (x3_1.set (x4_1:Int).toNat (⟨t340,t341⟩:S27)):=⟨_,rfl⟩;(try rw [← hy342] at H);(try simp only [Option.bind_some] at H)));have Ny342:=Aside0.mk hy342;clear hy342
     go_wp2_with (first | ((with_reducible refine gate_callee (f:=66) rfl (L ?_));refine cl (some 20) Try.func66 (laws_toCell.calls _ _ _ _ _ A8) (hargs:=by (simp only [ma_,mb_,mc_,F] <;> rfl)) (h:=?_);rintro e W ⟨rfl,hb⟩;refine ⟨_,rfl,?_⟩;replace S:=S.go hb;clear F hb;have F:=S.fc) | ((with_reducible refine gs (t:=27) rfl (L ?_));(first | refine sb (.agg #[_,_]) S sz27 ?_ | refine ro (.agg #[_,_]) S sz27 ?_ (ho:=rfl) (hx:=rfl) (hy:=rfl));clear S F;intro W S;(try simp only [gd27,gd80] at S);(try rw [← Ny336.out] at S);(try rw [← Ny342.out] at S);have F:=S.fc))
     go_roundg k1
     case measure=>omega
     case rel=>exact ⟨y342,(wrap64 (x4_1 + 1)),(by first | rfl | (simp;done) | (simp [*];done) | (rw [w6_ (by omega) (by omega)])),(by first | exact H | (simp only [F];exact H)),(by first | omega | exact Nat.le_refl _),S⟩
   · skip
     obtain rfl:=Option.some.inj H
     go_wp2_with (first | ((with_reducible refine gs (t:=27) rfl (L ?_));(first | refine sb (.agg #[_,_]) S sz27 ?_ | refine ro (.agg #[_,_]) S sz27 ?_ (ho:=rfl) (hx:=rfl) (hy:=rfl));clear S F;intro W S;(try simp only [gd27,gd80] at S);(try rw [← Ny336.out] at S);have F:=S.fc))
     go_ret
     exact ⟨_,(by first | rfl | (simp [e0_,e1_] <;> rfl) | (simp [*,e0_,e1_] <;> rfl)),(by first | exact S.r | exact Kd.R_nil _ _ _ _ _),S.below⟩

/-! ### laws_toBoard: function 39 -/
def laws_toBoard.f (k:Nat) (a0_0:Int) (a0_1:Int) (l0_2:List (S80)):Option (Int × Int × (List (S27))):=(laws_toCellS.f k l0_2).bind fun t346=>(some (a0_0,a0_1,t346))
theorem laws_toBoard.calls (k:Nat) (a0_0:Int) (a0_1:Int) (A0_2:Option Addr) (c0_2:Nat) (l0_2:List (S80)) (r1:Int) (r2:Int) (r3:List (S27)) (w:World) (hr0_2:Kd.C k80 w A0_2 l0_2.length l0_2) (hc0_2:l0_2.length ≤ c0_2) (h:laws_toBoard.f k a0_0 a0_1 l0_2 = some (r1,r2,r3)) :
    Calls Try.prog 39 #[.agg #[.int .i64 a0_0,.int .i64 a0_1,.slice A0_2 l0_2.length c0_2]] w fun e w'=>∃ v2_:Value,e = .returned (.agg #[.int .i64 r1,.int .i64 r2,v2_])∧Kd.R k27 27 w' w.heap.size (fun _=>True) v2_ r3∧Below w.heap.size w w':=by
 have S:=St.init (w:=w) (dc k80_heap at80 hr0_2 hc0_2 dn)
 clear hr0_2 hc0_2
 have F:=S.fc
 have H:=h;clear h;unfold laws_toBoard.f at H
 replace H:=Option.bind_eq_some_iff.mp H;obtain ⟨t346,A2,H⟩:=H;(try dsimp only at H)
 simp only [Option.some.injEq,Prod.mk.injEq] at H
 obtain ⟨rfl,rfl,rfl⟩:=H
 go_enter Try.func39,Try.ntmps39
 go_wp2_with (first | ((with_reducible refine gd 1 rfl (L ?_));refine bo 1 (.agg #[_,_,_]) S ?_;clear S F;intro gb343 W S;have F:=S.fc) | ((with_reducible refine gd 2 rfl (L ?_));refine al 2 S zi25 ?_;clear S F;intro gb344 W S;have F:=S.fc) | ((with_reducible refine gd 3 rfl (L ?_));refine al 3 S zi25 ?_;clear S F;intro gb345 W S;have F:=S.fc) | ((with_reducible refine gate_callee (f:=103) rfl (L ?_));refine cl (some 12) Try.func103 (laws_toCellS.calls _ _ _ _ _ _ S.c S.n A2) (hargs:=by (simp only [ma_,mb_,mc_,F] <;> rfl)) (h:=?_);rintro e W ⟨v347,rfl,ho0,hb⟩;refine ⟨_,rfl,?_⟩;replace S:=S.got at27 hb ho0;obtain ⟨At346,ct346,rfl,S⟩:=S;clear F hb ho0;have F:=S.fc) | ((with_reducible refine gs (t:=3) rfl (L ?_));(first | refine sb (.int _ _) S sz3 ?_ | refine ro (.int _ _) S sz3 ?_ (ho:=rfl) (hx:=rfl) (hy:=rfl));(clear S F;intro W S;have F:=S.fc)) | ((with_reducible refine gs (t:=23) rfl (L ?_));(first | refine sb (.slice _ _ _) S sz23 ?_ | refine ro (.slice _ _ _) S sz23 ?_ (ho:=rfl) (hx:=rfl) (hy:=rfl));(clear S F;intro W S;have F:=S.fc)) | ((with_reducible refine gs (t:=25) rfl (L ?_));(first | refine sb (.agg #[_,_,_]) S sz25 ?_ | refine ro (.agg #[_,_,_]) S sz25 ?_ (ho:=rfl) (hx:=rfl) (hy:=rfl));(clear S F;intro W S;have F:=S.fc)))
 refine bodyPost_ret (results_cell_row rfl _ _ gb344 25 #[.int .i64 a0_0,.int .i64 a0_1,.slice At346 t346.length ct346] (0,0) _ rfl S.hb Try.underlying25 rfl (by kernel_rfl)) rfl ?_
 exact ⟨_,(by first | rfl | (simp [e0_,e1_] <;> rfl) | (simp [*,e0_,e1_] <;> rfl)),(by first | exact S.r | exact Kd.R_nil _ _ _ _ _),S.below⟩

/-! ### impl_IsCell: function 79 -/
def impl_IsCell.f (a0_0:Int) (a0_1:Int):Option (Bool):=if a0_0 < 0 then (some false) else (if a0_0 > 7 then (some false) else (if a0_1 < 0 then (some false) else (if a0_1 > 1 then (some false) else (if a0_1 = 0 then (some true) else (if a0_0 = 3 then (some true) else (some (a0_0 == 6)))))))
theorem impl_IsCell.calls (a0_0:Int) (a0_1:Int) (r:Bool) (w:World) (h:impl_IsCell.f a0_0 a0_1 = some r) :
    Calls Try.prog 79 #[.agg #[.int .i64 a0_0,.int .i64 a0_1]] w fun e w'=>e = .returned (.bool r)∧Below w.heap.size w w':=by
 have S:=St.init (w:=w) dn
 have F:=S.fc
 have H:=h;clear h;unfold impl_IsCell.f at H
 replace H:=sp_ H;rcases H with ⟨c2,H⟩ | ⟨c2,H⟩
 · skip
   obtain rfl:=Option.some.inj H
   go_enter Try.func79,Try.ntmps79
   go_wp2_with (first | ((with_reducible refine gd 1 rfl (L ?_));refine bo 1 (.agg #[_,_]) S ?_;clear S F;intro gb349 W S;have F:=S.fc))
   go_ret
   exact ⟨(by first | rfl | (simp [e0_,e1_] <;> rfl) | (simp [*,e0_,e1_] <;> rfl)),S.below⟩
 · skip
   replace H:=sp_ H;rcases H with ⟨c5,H⟩ | ⟨c5,H⟩
   · skip
     obtain rfl:=Option.some.inj H
     go_enter Try.func79,Try.ntmps79
     go_wp2_with (first | ((with_reducible refine gd 1 rfl (L ?_));refine bo 1 (.agg #[_,_]) S ?_;clear S F;intro gb349 W S;have F:=S.fc))
     go_ret
     exact ⟨(by first | rfl | (simp [e0_,e1_] <;> rfl) | (simp [*,e0_,e1_] <;> rfl)),S.below⟩
   · skip
     replace H:=sp_ H;rcases H with ⟨c8,H⟩ | ⟨c8,H⟩
     · skip
       obtain rfl:=Option.some.inj H
       go_enter Try.func79,Try.ntmps79
       go_wp2_with (first | ((with_reducible refine gd 1 rfl (L ?_));refine bo 1 (.agg #[_,_]) S ?_;clear S F;intro gb349 W S;have F:=S.fc))
       go_ret
       exact ⟨(by first | rfl | (simp [e0_,e1_] <;> rfl) | (simp [*,e0_,e1_] <;> rfl)),S.below⟩
     · skip
       replace H:=sp_ H;rcases H with ⟨c11,H⟩ | ⟨c11,H⟩
       · skip
         obtain rfl:=Option.some.inj H
         go_enter Try.func79,Try.ntmps79
         go_wp2_with (first | ((with_reducible refine gd 1 rfl (L ?_));refine bo 1 (.agg #[_,_]) S ?_;clear S F;intro gb349 W S;have F:=S.fc))
         go_ret
         exact ⟨(by first | rfl | (simp [e0_,e1_] <;> rfl) | (simp [*,e0_,e1_] <;> rfl)),S.below⟩
       · skip
         replace H:=sp_ H;rcases H with ⟨c14,H⟩ | ⟨c14,H⟩
         · skip
           replace c14:=ceq c14
           obtain rfl:=Option.some.inj H
           go_enter Try.func79,Try.ntmps79
           go_wp2_with (first | ((with_reducible refine gd 1 rfl (L ?_));refine bo 1 (.agg #[_,_]) S ?_;clear S F;intro gb349 W S;have F:=S.fc))
           go_ret
           exact ⟨(by first | rfl | (simp [e0_,e1_] <;> rfl) | (simp [*,e0_,e1_] <;> rfl)),S.below⟩
         · skip
           replace c14:=cne c14
           replace H:=sp_ H;rcases H with ⟨c17,H⟩ | ⟨c17,H⟩
           · skip
             replace c17:=ceq c17
             obtain rfl:=Option.some.inj H
             go_enter Try.func79,Try.ntmps79
             go_wp2_with (first | ((with_reducible refine gd 1 rfl (L ?_));refine bo 1 (.agg #[_,_]) S ?_;clear S F;intro gb349 W S;have F:=S.fc))
             go_ret
             exact ⟨(by first | rfl | (simp [e0_,e1_] <;> rfl) | (simp [*,e0_,e1_] <;> rfl)),S.below⟩
           · skip
             replace c17:=cne c17
             obtain rfl:=Option.some.inj H
             go_enter Try.func79,Try.ntmps79
             go_wp2_with (first | ((with_reducible refine gd 1 rfl (L ?_));refine bo 1 (.agg #[_,_]) S ?_;clear S F;intro gb349 W S;have F:=S.fc))
             go_ret
             exact ⟨(by first | rfl | (simp [e0_,e1_] <;> rfl) | (simp [*,e0_,e1_] <;> rfl)),S.below⟩

/-! ### impl_validCells: function 98 -/
def impl_validCells.l0:Nat→List (S27)→Int→Int→Option (Bool)
  | 0,_,_,_=>none
  | k + 1,x8,x9,x10=>if x10 < x9 then (if 0 ≤ x10 then (if x10 < (x8.length:Int) then ((impl_IsCell.f ((rd_T27 x8 x10).f0) ((rd_T27 x8 x10).f1)).bind fun t352=>(if t352 = true then (impl_validCells.l0 k x8 x9 (wrap64 (x10 + 1))) else (some false))) else (none)) else (none)) else (some true)
def impl_validCells.f (k:Nat) (l0:List (S27)):Option (Bool):=if (l0.length:Int) > 90 then (some false) else (impl_validCells.l0 k l0 (l0.length:Int) 0)
theorem impl_validCells.calls (k:Nat) (A0:Option Addr) (c0:Nat) (l0:List (S27)) (r:Bool) (w:World) (hr0:Kd.C k27 w A0 l0.length l0) (hc0:l0.length ≤ c0) (h:impl_validCells.f k l0 = some r) :
    Calls Try.prog 98 #[.slice A0 l0.length c0] w fun e w'=>e = .returned (.bool r)∧Below w.heap.size w w':=by
 have S:=St.init (w:=w) (dc k27_heap at27 hr0 hc0 dn)
 clear hr0 hc0
 have F:=S.fc
 have H:=h;clear h;unfold impl_validCells.f at H
 replace H:=sp_ H;rcases H with ⟨c2,H⟩ | ⟨c2,H⟩
 · skip
   obtain rfl:=Option.some.inj H
   go_enter Try.func98,Try.ntmps98
   go_wp2_with (first | ((with_reducible refine gs (t:=27) rfl (L ?_));(first | refine sb (.agg #[_,_]) S sz27 ?_ | refine ro (.agg #[_,_]) S sz27 ?_ (ho:=rfl) (hx:=rfl) (hy:=rfl));(clear S F;intro W S;have F:=S.fc)))
   go_ret
   exact ⟨(by first | rfl | (simp [e0_,e1_] <;> rfl) | (simp [*,e0_,e1_] <;> rfl)),S.below⟩
 · skip
   go_enter Try.func98,Try.ntmps98
   go_wp2_with (first | ((with_reducible refine gs (t:=27) rfl (L ?_));(first | refine sb (.agg #[_,_]) S sz27 ?_ | refine ro (.agg #[_,_]) S sz27 ?_ (ho:=rfl) (hx:=rfl) (hy:=rfl));(clear S F;intro W S;have F:=S.fc)))
   go_loopg [10] k (fun kq v10 w'=>∃ (x10_1:Int),v10 = .int .i64 x10_1∧impl_validCells.l0 kq l0 (l0.length:Int) x10_1 = some r∧kq ≤ k∧St w w (fun _=>False) [bor at27 A0 c0 l0] w'  [])
   case atStart=>exact ⟨0,(by first | rfl | (simp;done) | (simp [*];done) | (rw [w6_ (by omega) (by omega)])),H,Nat.le_refl _,S⟩
   case round =>
    clear H S F
    obtain ⟨x10_1,rfl,HA,HK1,S⟩:=hrel
    have F:=S.fc
    cases gk with
    | zero=>exact absurd HA (by simp [impl_validCells.l0])
    | succ k1 =>
     have H:=HA;clear HA;simp only [impl_validCells.l0,F] at H
     replace H:=sp_ H;rcases H with ⟨c3,H⟩ | ⟨c3,H⟩
     · skip
       replace H:=np_ H;obtain ⟨c4,H⟩:=H
       replace H:=np_ H;obtain ⟨c5,H⟩:=H
       replace H:=Option.bind_eq_some_iff.mp H;obtain ⟨t352,A6,H⟩:=H;(try dsimp only at H)
       replace H:=sp_ H;rcases H with ⟨c7,H⟩ | ⟨c7,H⟩
       · skip
         subst c7
         go_wp2_with (first | ((with_reducible refine gd 4 rfl (L ?_));refine al 4 S zi27 ?_;clear S F;intro gb351 W S;have F:=S.fc) | ((with_reducible refine gate_callee (f:=79) rfl (L ?_));refine cl (some 15) Try.func79 (impl_IsCell.calls _ _ _ _ A6) (hargs:=by (simp only [ma_,mb_,mc_,F] <;> rfl)) (h:=?_);rintro e W ⟨rfl,hb⟩;refine ⟨_,rfl,?_⟩;replace S:=S.go hb;clear F hb;have F:=S.fc) | ((with_reducible refine gs (t:=27) rfl (L ?_));(first | refine sb (.agg #[_,_]) S sz27 ?_ | refine ro (.agg #[_,_]) S sz27 ?_ (ho:=rfl) (hx:=rfl) (hy:=rfl));(clear S F;intro W S;have F:=S.fc)))
         go_roundg k1
         case measure=>omega
         case rel=>exact ⟨(wrap64 (x10_1 + 1)),(by first | rfl | (simp;done) | (simp [*];done) | (rw [w6_ (by omega) (by omega)])),H,(by first | omega | exact Nat.le_refl _),S.tl⟩
       · skip
         replace c7:=cbf c7;subst c7
         obtain rfl:=Option.some.inj H
         go_wp2_with (first | ((with_reducible refine gd 4 rfl (L ?_));refine al 4 S zi27 ?_;clear S F;intro gb351 W S;have F:=S.fc) | ((with_reducible refine gate_callee (f:=79) rfl (L ?_));refine cl (some 15) Try.func79 (impl_IsCell.calls _ _ _ _ A6) (hargs:=by (simp only [ma_,mb_,mc_,F] <;> rfl)) (h:=?_);rintro e W ⟨rfl,hb⟩;refine ⟨_,rfl,?_⟩;replace S:=S.go hb;clear F hb;have F:=S.fc) | ((with_reducible refine gs (t:=27) rfl (L ?_));(first | refine sb (.agg #[_,_]) S sz27 ?_ | refine ro (.agg #[_,_]) S sz27 ?_ (ho:=rfl) (hx:=rfl) (hy:=rfl));(clear S F;intro W S;have F:=S.fc)))
         go_ret
         exact ⟨(by first | rfl | (simp [e0_,e1_] <;> rfl) | (simp [*,e0_,e1_] <;> rfl)),S.below⟩
     · skip
       obtain rfl:=Option.some.inj H
       go_wp2_with (first | ((with_reducible refine gs (t:=27) rfl (L ?_));(first | refine sb (.agg #[_,_]) S sz27 ?_ | refine ro (.agg #[_,_]) S sz27 ?_ (ho:=rfl) (hx:=rfl) (hy:=rfl));(clear S F;intro W S;have F:=S.fc)))
       go_ret
       exact ⟨(by first | rfl | (simp [e0_,e1_] <;> rfl) | (simp [*,e0_,e1_] <;> rfl)),S.below⟩

/-! ### impl_IsBoard: function 36 -/
def impl_IsBoard.f (k:Nat) (a0_0:Int) (a0_1:Int) (l0_2:List (S27)):Option (Bool):=if a0_0 ≥ 1 then (if a0_0 ≤ 10 then (if a0_1 ≥ 1 then (if a0_1 ≤ 9 then (if (l0_2.length:Int) = (wrap64 (a0_0 * a0_1)) then ((impl_validCells.f k l0_2).bind fun t354=>(some t354)) else (some false)) else (some false)) else (some false)) else (some false)) else (some false)
theorem impl_IsBoard.calls (k:Nat) (a0_0:Int) (a0_1:Int) (A0_2:Option Addr) (c0_2:Nat) (l0_2:List (S27)) (r:Bool) (w:World) (hr0_2:Kd.C k27 w A0_2 l0_2.length l0_2) (hc0_2:l0_2.length ≤ c0_2) (h:impl_IsBoard.f k a0_0 a0_1 l0_2 = some r) :
    Calls Try.prog 36 #[.agg #[.int .i64 a0_0,.int .i64 a0_1,.slice A0_2 l0_2.length c0_2]] w fun e w'=>e = .returned (.bool r)∧Below w.heap.size w w':=by
 have S:=St.init (w:=w) (dc k27_heap at27 hr0_2 hc0_2 dn)
 clear hr0_2 hc0_2
 have F:=S.fc
 have H:=h;clear h;unfold impl_IsBoard.f at H
 replace H:=sp_ H;rcases H with ⟨c2,H⟩ | ⟨c2,H⟩
 · skip
   replace H:=sp_ H;rcases H with ⟨c3,H⟩ | ⟨c3,H⟩
   · skip
     replace H:=sp_ H;rcases H with ⟨c4,H⟩ | ⟨c4,H⟩
     · skip
       replace H:=sp_ H;rcases H with ⟨c5,H⟩ | ⟨c5,H⟩
       · skip
         replace H:=sp_ H;rcases H with ⟨c6,H⟩ | ⟨c6,H⟩
         · skip
           replace c6:=ceq c6
           replace H:=Option.bind_eq_some_iff.mp H;obtain ⟨t354,A7,H⟩:=H;(try dsimp only at H)
           obtain rfl:=Option.some.inj H
           go_enter Try.func36,Try.ntmps36
           go_wp2_with (first | ((with_reducible refine gd 1 rfl (L ?_));refine bo 1 (.agg #[_,_,_]) S ?_;clear S F;intro gb353 W S;have F:=S.fc) | (go_at_call 98;(try simp only [F]);refine (impl_validCells.calls _ _ _ _ _ _ S.c S.n A7).mono ?_;rintro e W ⟨rfl,hb⟩;replace S:=S.go hb;clear F hb;have F:=S.fc))
           go_ret
           exact ⟨(by first | rfl | (simp [e0_,e1_] <;> rfl) | (simp [*,e0_,e1_] <;> rfl)),S.below⟩
         · skip
           replace c6:=cne c6
           obtain rfl:=Option.some.inj H
           go_enter Try.func36,Try.ntmps36
           go_wp2_with (first | ((with_reducible refine gd 1 rfl (L ?_));refine bo 1 (.agg #[_,_,_]) S ?_;clear S F;intro gb353 W S;have F:=S.fc))
           go_ret
           exact ⟨(by first | rfl | (simp [e0_,e1_] <;> rfl) | (simp [*,e0_,e1_] <;> rfl)),S.below⟩
       · skip
         obtain rfl:=Option.some.inj H
         go_enter Try.func36,Try.ntmps36
         go_wp2_with (first | ((with_reducible refine gd 1 rfl (L ?_));refine bo 1 (.agg #[_,_,_]) S ?_;clear S F;intro gb353 W S;have F:=S.fc))
         go_ret
         exact ⟨(by first | rfl | (simp [e0_,e1_] <;> rfl) | (simp [*,e0_,e1_] <;> rfl)),S.below⟩
     · skip
       obtain rfl:=Option.some.inj H
       go_enter Try.func36,Try.ntmps36
       go_wp2_with (first | ((with_reducible refine gd 1 rfl (L ?_));refine bo 1 (.agg #[_,_,_]) S ?_;clear S F;intro gb353 W S;have F:=S.fc))
       go_ret
       exact ⟨(by first | rfl | (simp [e0_,e1_] <;> rfl) | (simp [*,e0_,e1_] <;> rfl)),S.below⟩
   · skip
     obtain rfl:=Option.some.inj H
     go_enter Try.func36,Try.ntmps36
     go_wp2_with (first | ((with_reducible refine gd 1 rfl (L ?_));refine bo 1 (.agg #[_,_,_]) S ?_;clear S F;intro gb353 W S;have F:=S.fc))
     go_ret
     exact ⟨(by first | rfl | (simp [e0_,e1_] <;> rfl) | (simp [*,e0_,e1_] <;> rfl)),S.below⟩
 · skip
   obtain rfl:=Option.some.inj H
   go_enter Try.func36,Try.ntmps36
   go_wp2_with (first | ((with_reducible refine gd 1 rfl (L ?_));refine bo 1 (.agg #[_,_,_]) S ?_;clear S F;intro gb353 W S;have F:=S.fc))
   go_ret
   exact ⟨(by first | rfl | (simp [e0_,e1_] <;> rfl) | (simp [*,e0_,e1_] <;> rfl)),S.below⟩

/-! ### impl_validEntry: function 146 -/
def impl_validEntry.f (k:Nat) (a0_0:Int) (a0_1:Int) (l0_2:List (S27)) (a1:Int):Option (Bool):=(impl_IsBoard.f k a0_0 a0_1 l0_2).bind fun t356=>(if t356 = true then (if a1 ≥ 0 then (some (decide (a1 < a0_1))) else (some false)) else (some false))
theorem impl_validEntry.calls (k:Nat) (a0_0:Int) (a0_1:Int) (A0_2:Option Addr) (c0_2:Nat) (l0_2:List (S27)) (a1:Int) (r:Bool) (w:World) (hr0_2:Kd.C k27 w A0_2 l0_2.length l0_2) (hc0_2:l0_2.length ≤ c0_2) (h:impl_validEntry.f k a0_0 a0_1 l0_2 a1 = some r) :
    Calls Try.prog 146 #[.agg #[.int .i64 a0_0,.int .i64 a0_1,.slice A0_2 l0_2.length c0_2],.int .i64 a1] w fun e w'=>e = .returned (.bool r)∧Below w.heap.size w w':=by
 have S:=St.init (w:=w) (dc k27_heap at27 hr0_2 hc0_2 dn)
 clear hr0_2 hc0_2
 have F:=S.fc
 have H:=h;clear h;unfold impl_validEntry.f at H
 replace H:=Option.bind_eq_some_iff.mp H;obtain ⟨t356,A3,H⟩:=H;(try dsimp only at H)
 replace H:=sp_ H;rcases H with ⟨c4,H⟩ | ⟨c4,H⟩
 · skip
   subst c4
   replace H:=sp_ H;rcases H with ⟨c5,H⟩ | ⟨c5,H⟩
   · skip
     obtain rfl:=Option.some.inj H
     go_enter Try.func146,Try.ntmps146
     go_wp2_with (first | ((with_reducible refine gd 2 rfl (L ?_));refine bo 2 (.agg #[_,_,_]) S ?_;clear S F;intro gb355 W S;have F:=S.fc) | ((with_reducible refine gate_callee (f:=36) rfl (L ?_));refine cl (some 6) Try.func36 (impl_IsBoard.calls _ _ _ _ _ _ _ _ S.c S.n A3) (hargs:=by (simp only [ma_,mb_,mc_,F] <;> rfl)) (h:=?_);rintro e W ⟨rfl,hb⟩;refine ⟨_,rfl,?_⟩;replace S:=S.go hb;clear F hb;have F:=S.fc))
     go_ret
     exact ⟨(by first | rfl | (simp [e0_,e1_] <;> rfl) | (simp [*,e0_,e1_] <;> rfl)),S.below⟩
   · skip
     obtain rfl:=Option.some.inj H
     go_enter Try.func146,Try.ntmps146
     go_wp2_with (first | ((with_reducible refine gd 2 rfl (L ?_));refine bo 2 (.agg #[_,_,_]) S ?_;clear S F;intro gb355 W S;have F:=S.fc) | ((with_reducible refine gate_callee (f:=36) rfl (L ?_));refine cl (some 6) Try.func36 (impl_IsBoard.calls _ _ _ _ _ _ _ _ S.c S.n A3) (hargs:=by (simp only [ma_,mb_,mc_,F] <;> rfl)) (h:=?_);rintro e W ⟨rfl,hb⟩;refine ⟨_,rfl,?_⟩;replace S:=S.go hb;clear F hb;have F:=S.fc))
     go_ret
     exact ⟨(by first | rfl | (simp [e0_,e1_] <;> rfl) | (simp [*,e0_,e1_] <;> rfl)),S.below⟩
 · skip
   replace c4:=cbf c4;subst c4
   obtain rfl:=Option.some.inj H
   go_enter Try.func146,Try.ntmps146
   go_wp2_with (first | ((with_reducible refine gd 2 rfl (L ?_));refine bo 2 (.agg #[_,_,_]) S ?_;clear S F;intro gb355 W S;have F:=S.fc) | ((with_reducible refine gate_callee (f:=36) rfl (L ?_));refine cl (some 6) Try.func36 (impl_IsBoard.calls _ _ _ _ _ _ _ _ S.c S.n A3) (hargs:=by (simp only [ma_,mb_,mc_,F] <;> rfl)) (h:=?_);rintro e W ⟨rfl,hb⟩;refine ⟨_,rfl,?_⟩;replace S:=S.go hb;clear F hb;have F:=S.fc))
   go_ret
   exact ⟨(by first | rfl | (simp [e0_,e1_] <;> rfl) | (simp [*,e0_,e1_] <;> rfl)),S.below⟩

/-! ### impl_isGeared: function 173 -/
def impl_isGeared.f (a0_0:Int) (a0_1:Int):Option (Bool):=if a0_0 = 6 then (some true) else (some (a0_0 == 7))
theorem impl_isGeared.calls (a0_0:Int) (a0_1:Int) (r:Bool) (w:World) (h:impl_isGeared.f a0_0 a0_1 = some r) :
    Calls Try.prog 173 #[.agg #[.int .i64 a0_0,.int .i64 a0_1]] w fun e w'=>e = .returned (.bool r)∧Below w.heap.size w w':=by
 have S:=St.init (w:=w) dn
 have F:=S.fc
 have H:=h;clear h;unfold impl_isGeared.f at H
 replace H:=sp_ H;rcases H with ⟨c2,H⟩ | ⟨c2,H⟩
 · skip
   replace c2:=ceq c2
   obtain rfl:=Option.some.inj H
   go_enter Try.func173,Try.ntmps173
   go_wp2_with (first | ((with_reducible refine gd 1 rfl (L ?_));refine bo 1 (.agg #[_,_]) S ?_;clear S F;intro gb357 W S;have F:=S.fc))
   go_ret
   exact ⟨(by first | rfl | (simp [e0_,e1_] <;> rfl) | (simp [*,e0_,e1_] <;> rfl)),S.below⟩
 · skip
   replace c2:=cne c2
   obtain rfl:=Option.some.inj H
   go_enter Try.func173,Try.ntmps173
   go_wp2_with (first | ((with_reducible refine gd 1 rfl (L ?_));refine bo 1 (.agg #[_,_]) S ?_;clear S F;intro gb357 W S;have F:=S.fc))
   go_ret
   exact ⟨(by first | rfl | (simp [e0_,e1_] <;> rfl) | (simp [*,e0_,e1_] <;> rfl)),S.below⟩

/-! ### impl_besideOf: function 174 -/
mutual
def impl_besideOf.j0:Nat→Int→List Int→Int→Int→Int→Int→List (S27)→Option (List Int)
  | 0,_,_,_,_,_,_,_=>none
  | k + 1,x1,x5,x6,x7,x359000,x359001,x359002=>if x7 > 0 then (if x5.length < 17592186044416 then (impl_besideOf.j1 k x1 (x5 ++ [wrap64 (x1 - 1)]) x6 x7 x359000 x359001 x359002) else (none)) else (impl_besideOf.j1 k x1 x5 x6 x7 x359000 x359001 x359002)
def impl_besideOf.j1:Nat→Int→List Int→Int→Int→Int→Int→List (S27)→Option (List Int)
  | 0,_,_,_,_,_,_,_=>none
  | k + 1,x1,x5,x6,x7,x359000,x359001,x359002=>if (wrap64 (x7 + 1)) < x359001 then (if x5.length < 17592186044416 then ((some (x5 ++ [wrap64 (x1 + 1)]:List Int)).bind fun y368=>(if (wrap64 (x6 + 1)) < x359000 then (if y368.length < 17592186044416 then (some (y368 ++ [wrap64 (x1 + x359001)])) else (none)) else (some y368))) else (none)) else (if (wrap64 (x6 + 1)) < x359000 then (if x5.length < 17592186044416 then (some (x5 ++ [wrap64 (x1 + x359001)])) else (none)) else (some x5))
end
def impl_besideOf.f (k:Nat) (a0_0:Int) (a0_1:Int) (l0_2:List (S27)) (a1:Int):Option (List Int):=(some (([]:List Int):List Int)).bind fun y359=>(if a0_1 = 0 then (none) else (if (wrap64 (Int.tdiv a1 a0_1)) > 0 then (if y359.length < 17592186044416 then (impl_besideOf.j0 k a1 (y359 ++ [wrap64 (a1 - a0_1)]) (wrap64 (Int.tdiv a1 a0_1)) (Int.tmod a1 a0_1) a0_0 a0_1 l0_2) else (none)) else (impl_besideOf.j0 k a1 y359 (wrap64 (Int.tdiv a1 a0_1)) (Int.tmod a1 a0_1) a0_0 a0_1 l0_2)))
theorem impl_besideOf.calls (k:Nat) (a0_0:Int) (a0_1:Int) (A0_2:Option Addr) (c0_2:Nat) (l0_2:List (S27)) (a1:Int) (r:List Int) (w:World) (hr0_2:Kd.C k27 w A0_2 l0_2.length l0_2) (hc0_2:l0_2.length ≤ c0_2) (h:impl_besideOf.f k a0_0 a0_1 l0_2 a1 = some r) :
    Calls Try.prog 174 #[.agg #[.int .i64 a0_0,.int .i64 a0_1,.slice A0_2 l0_2.length c0_2],.int .i64 a1] w fun e w'=>∃ v0_:Value,e = .returned (v0_)∧Kd.R (Kd.int .i64) 3 w' w.heap.size (fun _=>True) v0_ r∧Below w.heap.size w w':=by
 have S:=St.init (w:=w) (dc k27_heap at27 hr0_2 hc0_2 dn)
 clear hr0_2 hc0_2
 have F:=S.fc
 have H:=h;clear h;unfold impl_besideOf.f at H
 (first | (with_reducible replace H:=ob_ H;obtain ⟨y359,hy359,H⟩:=H;(try dsimp only at H)) | (obtain ⟨y359,hy359⟩:∃ y_:List Int,y_ = (([]:List Int)):=⟨_,rfl⟩;(try rw [← hy359] at H);(try simp only [Option.bind_some] at H)));have Ny359:=Aside0.mk hy359;clear hy359
 replace H:=nn_ H;obtain ⟨c3,H⟩:=H
 replace c3:=cne c3
 go_enter Try.func174,Try.ntmps174
 go_upto_if 18 with (first | ((with_reducible refine gd 2 rfl (L ?_));refine bo 2 (.agg #[_,_,_]) S ?_;clear S F;intro gb358 W S;have F:=S.fc) | ((with_reducible refine gd 8 rfl (L ?_));refine lia 8 (atI .i64) 3 S ([]:List Int) (fun _ _=>(Reps.none _ _)) (by first | (go_simp;done) | (go_simp;rfl)) ?_;clear S F;intro Ay359 cy359 W S;(try rw [← Ny359.out] at S ⊢);have F:=S.fc))
 go_upto_if 18 with (first | ((with_reducible refine gd 2 rfl (L ?_));refine bo 2 (.agg #[_,_,_]) S ?_;clear S F;intro gb358 W S;have F:=S.fc) | ((with_reducible refine gd 8 rfl (L ?_));refine lia 8 (atI .i64) 3 S ([]:List Int) (fun _ _=>(Reps.none _ _)) (by first | (go_simp;done) | (go_simp;rfl)) ?_;clear S F;intro Ay359 cy359 W S;(try rw [← Ny359.out] at S ⊢);have F:=S.fc) | ((with_reducible refine gd 2 rfl (L ?_));refine bo 2 (.agg #[_,_,_]) S ?_;clear S F;intro gb358 W S;have F:=S.fc) | ((with_reducible refine gd 8 rfl (L ?_));refine lia 8 (atI .i64) 3 S ([]:List Int) (fun _ _=>(Reps.none _ _)) (by first | (go_simp;done) | (go_simp;rfl)) ?_;clear S F;intro Ay359 cy359 W S;(try rw [← Ny359.out] at S ⊢);have F:=S.fc) | ((refine rq (id:=2) S [(0,0),(0,1),(0,4),(0,5),(1,2),(0,3),(0,8),(1,6),(0,7),(0,9)] [] (h:=?_);clear S F;intro W S;have S0:=S;have F:=S.fc)) | (refine q0 (h:=?_)) | (refine q1 S0 (h:=?_)) | (refine q0n (h:=?_)) | (refine q1n S0 (h:=?_)) | refine oz ?_)
 (try simp only [Act.put,List.setIfInBounds_toArray,List.set_cons_zero,List.set_cons_succ])
 go_cut [5] (fun v5 wc=>∃ (kq:Nat) (x5_3:List Int) (Ax5_3:Option Addr) (cx5_3:Nat),v5 = .slice Ax5_3 x5_3.length cx5_3∧impl_besideOf.j0 kq a1 x5_3 (wrap64 (Int.tdiv a1 a0_1)) (Int.tmod a1 a0_1) a0_0 a0_1 l0_2 = some r∧kq ≤ k∧St w w (fun _=>False) [bor at27 A0_2 c0_2 l0_2] wc  [row (atI .i64) 3 Ax5_3 x5_3.length cx5_3 x5_3,box gb358 25 [.int .i64 a0_0,.int .i64 a0_1,.slice A0_2 l0_2.length c0_2]])
 case first =>
  replace H:=sp_ H;rcases H with ⟨c9,H⟩ | ⟨c9,H⟩
  · skip
    replace H:=np_ H;obtain ⟨c10,H⟩:=H
    (first | (with_reducible replace H:=ob_ H;obtain ⟨y362,hy362,H⟩:=H;(try dsimp only at H)) | (obtain ⟨y362,hy362⟩:∃ y_:List Int,y_ = (y359 ++ [wrap64 (a1 - a0_1)]):=⟨_,rfl⟩;(try rw [← hy362] at H);(try simp only [Option.bind_some] at H)));have Ny362:=Aside0.mk hy362;clear hy362
    go_wp2_with (first | ((with_reducible refine gd 25 rfl (L ?_));refine apa (A:=Ay359) 25 S Try.underlying35 info3 ?_ (ho:=rfl) (hs:=rfl) (hx:=rfl);clear S F;intro Ay362 cy362 W S;(try rw [← Ny362.out] at S ⊢);have F:=S.fc))
    go_wp2_with (first | ((with_reducible refine gd 25 rfl (L ?_));refine apa (A:=Ay359) 25 S Try.underlying35 info3 ?_ (ho:=rfl) (hs:=rfl) (hx:=rfl);clear S F;intro Ay362 cy362 W S;(try rw [← Ny362.out] at S ⊢);have F:=S.fc) | ((with_reducible refine gd 25 rfl (L ?_));refine apa (A:=Ay359) 25 S Try.underlying35 info3 ?_ (ho:=rfl) (hs:=rfl) (hx:=rfl);clear S F;intro Ay362 cy362 W S;(try rw [← Ny362.out] at S ⊢);have F:=S.fc) | ((refine rq (id:=2) S [(0,0),(0,1),(0,4),(0,5),(1,2),(0,3),(0,8),(1,6),(0,7),(0,9)] [] (h:=?_);clear S F;intro W S;have S0:=S;have F:=S.fc)) | (refine q0 (h:=?_)) | (refine q1 S0 (h:=?_)) | (refine q0n (h:=?_)) | (refine q1n S0 (h:=?_)) | refine oz ?_)
    go_meet
    case rel=>exact ⟨_,y362,_,_,rfl,H,(by first | omega | exact Nat.le_refl _),S⟩
  · skip
    go_wp2
    go_wp2_with (first | ((refine rq (id:=2) S [(0,0),(0,1),(0,4),(0,5),(1,2),(0,3),(0,8),(1,6),(0,7),(0,9)] [] (h:=?_);clear S F;intro W S;have S0:=S;have F:=S.fc)) | (refine q0 (h:=?_)) | (refine q1 S0 (h:=?_)) | (refine q0n (h:=?_)) | (refine q1n S0 (h:=?_)) | refine oz ?_)
    go_meet
    case rel=>exact ⟨_,y359,_,_,rfl,H,(by first | omega | exact Nat.le_refl _),S⟩
 case rest =>
  clear H S F
  obtain ⟨kq,x5_3,Ax5_3,cx5_3,rfl,HA,HJ3,S⟩:=hcut
  have F:=S.fc
  cases kq with
  | zero=>exact absurd HA (by simp [impl_besideOf.j0])
  | succ kj3 =>
   have H:=HA;clear HA;simp only [impl_besideOf.j0,F] at H
   go_upto_if 27 with (fail)
   go_upto_if 27 with (first | ((refine rq (id:=2) S [(0,0),(0,1),(0,4),(0,5),(1,2),(0,3),(0,8),(1,6),(0,7),(0,9)] [] (h:=?_);clear S F;intro W S;have S0:=S;have F:=S.fc)) | (refine q0 (h:=?_)) | (refine q1 S0 (h:=?_)) | (refine q0n (h:=?_)) | (refine q1n S0 (h:=?_)) | refine oz ?_)
   go_cut [5] (fun v5 wc=>∃ (kq:Nat) (x5_12:List Int) (Ax5_12:Option Addr) (cx5_12:Nat),v5 = .slice Ax5_12 x5_12.length cx5_12∧impl_besideOf.j1 kq a1 x5_12 (wrap64 (Int.tdiv a1 a0_1)) (Int.tmod a1 a0_1) a0_0 a0_1 l0_2 = some r∧kq ≤ kj3∧St w w (fun _=>False) [bor at27 A0_2 c0_2 l0_2] wc  [row (atI .i64) 3 Ax5_12 x5_12.length cx5_12 x5_12,box gb358 25 [.int .i64 a0_0,.int .i64 a0_1,.slice A0_2 l0_2.length c0_2]])
   case first =>
    replace H:=sp_ H;rcases H with ⟨c14,H⟩ | ⟨c14,H⟩
    · skip
      replace H:=np_ H;obtain ⟨c15,H⟩:=H
      (first | (with_reducible replace H:=ob_ H;obtain ⟨y365,hy365,H⟩:=H;(try dsimp only at H)) | (obtain ⟨y365,hy365⟩:∃ y_:List Int,y_ = (x5_3 ++ [wrap64 (a1 - 1)]):=⟨_,rfl⟩;(try rw [← hy365] at H);(try simp only [Option.bind_some] at H)));have Ny365:=Aside0.mk hy365;clear hy365
      go_wp2_with (first | ((with_reducible refine gd 32 rfl (L ?_));refine apa (A:=Ax5_3) 32 S Try.underlying35 info3 ?_ (ho:=rfl) (hs:=rfl) (hx:=rfl);clear S F;intro Ay365 cy365 W S;(try rw [← Ny365.out] at S ⊢);have F:=S.fc))
      go_wp2_with (first | ((with_reducible refine gd 32 rfl (L ?_));refine apa (A:=Ax5_3) 32 S Try.underlying35 info3 ?_ (ho:=rfl) (hs:=rfl) (hx:=rfl);clear S F;intro Ay365 cy365 W S;(try rw [← Ny365.out] at S ⊢);have F:=S.fc) | ((with_reducible refine gd 32 rfl (L ?_));refine apa (A:=Ax5_3) 32 S Try.underlying35 info3 ?_ (ho:=rfl) (hs:=rfl) (hx:=rfl);clear S F;intro Ay365 cy365 W S;(try rw [← Ny365.out] at S ⊢);have F:=S.fc) | ((refine rq (id:=2) S [(0,0),(0,1),(0,4),(0,5),(1,2),(0,3),(0,8),(1,6),(0,7),(0,9)] [] (h:=?_);clear S F;intro W S;have S0:=S;have F:=S.fc)) | (refine q0 (h:=?_)) | (refine q1 S0 (h:=?_)) | (refine q0n (h:=?_)) | (refine q1n S0 (h:=?_)) | refine oz ?_)
      go_meet
      case rel=>exact ⟨_,y365,_,_,rfl,H,(by first | omega | exact Nat.le_refl _),S⟩
    · skip
      go_wp2
      go_wp2_with (first | ((refine rq (id:=2) S [(0,0),(0,1),(0,4),(0,5),(1,2),(0,3),(0,8),(1,6),(0,7),(0,9)] [] (h:=?_);clear S F;intro W S;have S0:=S;have F:=S.fc)) | (refine q0 (h:=?_)) | (refine q1 S0 (h:=?_)) | (refine q0n (h:=?_)) | (refine q1n S0 (h:=?_)) | refine oz ?_)
      go_meet
      case rel=>exact ⟨_,x5_3,_,_,rfl,H,(by first | omega | exact Nat.le_refl _),S⟩
   case rest =>
    clear H S F
    obtain ⟨kq,x5_12,Ax5_12,cx5_12,rfl,HA,HJ12,S⟩:=hcut
    have F:=S.fc
    cases kq with
    | zero=>exact absurd HA (by simp [impl_besideOf.j1])
    | succ kj12 =>
     have H:=HA;clear HA;simp only [impl_besideOf.j1,F] at H
     replace H:=sp_ H;rcases H with ⟨c17,H⟩ | ⟨c17,H⟩
     · skip
       replace H:=np_ H;obtain ⟨c18,H⟩:=H
       (first | (with_reducible replace H:=ob_ H;obtain ⟨y368,hy368,H⟩:=H;(try dsimp only at H)) | (obtain ⟨y368,hy368⟩:∃ y_:List Int,y_ = (x5_12 ++ [wrap64 (a1 + 1)]):=⟨_,rfl⟩;(try rw [← hy368] at H);(try simp only [Option.bind_some] at H)));have Ny368:=Aside0.mk hy368;clear hy368
       replace H:=sp_ H;rcases H with ⟨c19,H⟩ | ⟨c19,H⟩
       · skip
         replace H:=np_ H;obtain ⟨c20,H⟩:=H
         (first | (with_reducible replace H:=ob_ H;obtain ⟨y371,hy371,H⟩:=H;(try dsimp only at H)) | (obtain ⟨y371,hy371⟩:∃ y_:List Int,y_ = (y368 ++ [wrap64 (a1 + a0_1)]):=⟨_,rfl⟩;(try rw [← hy371] at H);(try simp only [Option.bind_some] at H)));have Ny371:=Aside0.mk hy371;clear hy371
         obtain rfl:=Option.some.inj H
         go_wp2_with (first | ((with_reducible refine gd 42 rfl (L ?_));refine apa (A:=Ax5_12) 42 S Try.underlying35 info3 ?_ (ho:=rfl) (hs:=rfl) (hx:=rfl);clear S F;intro Ay368 cy368 W S;(try rw [← Ny368.out] at S ⊢);(try rw [← Ny371.out] at S ⊢);have F:=S.fc) | ((with_reducible refine gd 54 rfl (L ?_));refine apa (A:=Ay368) 54 S Try.underlying35 info3 ?_ (ho:=rfl) (hs:=rfl) (hx:=rfl);clear S F;intro Ay371 cy371 W S;(try rw [← Ny368.out] at S ⊢);(try rw [← Ny371.out] at S ⊢);have F:=S.fc))
         go_wp2_with (first | ((with_reducible refine gd 42 rfl (L ?_));refine apa (A:=Ax5_12) 42 S Try.underlying35 info3 ?_ (ho:=rfl) (hs:=rfl) (hx:=rfl);clear S F;intro Ay368 cy368 W S;(try rw [← Ny368.out] at S ⊢);(try rw [← Ny371.out] at S ⊢);have F:=S.fc) | ((with_reducible refine gd 54 rfl (L ?_));refine apa (A:=Ay368) 54 S Try.underlying35 info3 ?_ (ho:=rfl) (hs:=rfl) (hx:=rfl);clear S F;intro Ay371 cy371 W S;(try rw [← Ny368.out] at S ⊢);(try rw [← Ny371.out] at S ⊢);have F:=S.fc) | ((with_reducible refine gd 42 rfl (L ?_));refine apa (A:=Ax5_12) 42 S Try.underlying35 info3 ?_ (ho:=rfl) (hs:=rfl) (hx:=rfl);clear S F;intro Ay368 cy368 W S;(try rw [← Ny368.out] at S ⊢);(try rw [← Ny371.out] at S ⊢);have F:=S.fc) | ((with_reducible refine gd 54 rfl (L ?_));refine apa (A:=Ay368) 54 S Try.underlying35 info3 ?_ (ho:=rfl) (hs:=rfl) (hx:=rfl);clear S F;intro Ay371 cy371 W S;(try rw [← Ny368.out] at S ⊢);(try rw [← Ny371.out] at S ⊢);have F:=S.fc) | ((refine rq (id:=2) S [(0,0),(0,1),(0,4),(0,5),(1,2),(0,3),(0,8),(1,6),(0,7),(0,9)] [] (h:=?_);clear S F;intro W S;have S0:=S;have F:=S.fc)) | (refine q0 (h:=?_)) | (refine q1 S0 (h:=?_)) | (refine q0n (h:=?_)) | (refine q1n S0 (h:=?_)) | refine oz ?_)
         go_ret
         exact ⟨_,(by first | rfl | (simp [e0_,e1_] <;> rfl) | (simp [*,e0_,e1_] <;> rfl)),(by first | exact S.r | exact Kd.R_nil _ _ _ _ _),S.below⟩
       · skip
         obtain rfl:=Option.some.inj H
         go_wp2_with (first | ((with_reducible refine gd 42 rfl (L ?_));refine apa (A:=Ax5_12) 42 S Try.underlying35 info3 ?_ (ho:=rfl) (hs:=rfl) (hx:=rfl);clear S F;intro Ay368 cy368 W S;(try rw [← Ny368.out] at S ⊢);have F:=S.fc))
         go_wp2_with (first | ((with_reducible refine gd 42 rfl (L ?_));refine apa (A:=Ax5_12) 42 S Try.underlying35 info3 ?_ (ho:=rfl) (hs:=rfl) (hx:=rfl);clear S F;intro Ay368 cy368 W S;(try rw [← Ny368.out] at S ⊢);have F:=S.fc) | ((with_reducible refine gd 42 rfl (L ?_));refine apa (A:=Ax5_12) 42 S Try.underlying35 info3 ?_ (ho:=rfl) (hs:=rfl) (hx:=rfl);clear S F;intro Ay368 cy368 W S;(try rw [← Ny368.out] at S ⊢);have F:=S.fc) | ((refine rq (id:=2) S [(0,0),(0,1),(0,4),(0,5),(1,2),(0,3),(0,8),(1,6),(0,7),(0,9)] [] (h:=?_);clear S F;intro W S;have S0:=S;have F:=S.fc)) | (refine q0 (h:=?_)) | (refine q1 S0 (h:=?_)) | (refine q0n (h:=?_)) | (refine q1n S0 (h:=?_)) | refine oz ?_)
         go_ret
         exact ⟨_,(by first | rfl | (simp [e0_,e1_] <;> rfl) | (simp [*,e0_,e1_] <;> rfl)),(by first | exact S.r | exact Kd.R_nil _ _ _ _ _),S.below⟩
     · skip
       replace H:=sp_ H;rcases H with ⟨c28,H⟩ | ⟨c28,H⟩
       · skip
         replace H:=np_ H;obtain ⟨c29,H⟩:=H
         (first | (with_reducible replace H:=ob_ H;obtain ⟨y374,hy374,H⟩:=H;(try dsimp only at H)) | (obtain ⟨y374,hy374⟩:∃ y_:List Int,y_ = (x5_12 ++ [wrap64 (a1 + a0_1)]):=⟨_,rfl⟩;(try rw [← hy374] at H);(try simp only [Option.bind_some] at H)));have Ny374:=Aside0.mk hy374;clear hy374
         obtain rfl:=Option.some.inj H
         go_wp2_with (first | ((with_reducible refine gd 54 rfl (L ?_));refine apa (A:=Ax5_12) 54 S Try.underlying35 info3 ?_ (ho:=rfl) (hs:=rfl) (hx:=rfl);clear S F;intro Ay374 cy374 W S;(try rw [← Ny374.out] at S ⊢);have F:=S.fc))
         go_wp2_with (first | ((with_reducible refine gd 54 rfl (L ?_));refine apa (A:=Ax5_12) 54 S Try.underlying35 info3 ?_ (ho:=rfl) (hs:=rfl) (hx:=rfl);clear S F;intro Ay374 cy374 W S;(try rw [← Ny374.out] at S ⊢);have F:=S.fc) | ((with_reducible refine gd 54 rfl (L ?_));refine apa (A:=Ax5_12) 54 S Try.underlying35 info3 ?_ (ho:=rfl) (hs:=rfl) (hx:=rfl);clear S F;intro Ay374 cy374 W S;(try rw [← Ny374.out] at S ⊢);have F:=S.fc) | ((refine rq (id:=2) S [(0,0),(0,1),(0,4),(0,5),(1,2),(0,3),(0,8),(1,6),(0,7),(0,9)] [] (h:=?_);clear S F;intro W S;have S0:=S;have F:=S.fc)) | (refine q0 (h:=?_)) | (refine q1 S0 (h:=?_)) | (refine q0n (h:=?_)) | (refine q1n S0 (h:=?_)) | refine oz ?_)
         go_ret
         exact ⟨_,(by first | rfl | (simp [e0_,e1_] <;> rfl) | (simp [*,e0_,e1_] <;> rfl)),(by first | exact S.r | exact Kd.R_nil _ _ _ _ _),S.below⟩
       · skip
         obtain rfl:=Option.some.inj H
         go_wp2
         go_wp2_with (first | ((refine rq (id:=2) S [(0,0),(0,1),(0,4),(0,5),(1,2),(0,3),(0,8),(1,6),(0,7),(0,9)] [] (h:=?_);clear S F;intro W S;have S0:=S;have F:=S.fc)) | (refine q0 (h:=?_)) | (refine q1 S0 (h:=?_)) | (refine q0n (h:=?_)) | (refine q1n S0 (h:=?_)) | refine oz ?_)
         go_ret
         exact ⟨_,(by first | rfl | (simp [e0_,e1_] <;> rfl) | (simp [*,e0_,e1_] <;> rfl)),(by first | exact S.r | exact Kd.R_nil _ _ _ _ _),S.below⟩

/-! ### impl_groupNumbers: function 148 -/
mutual
def impl_groupNumbers.l0:Nat→List Int→Int→Int→Int→Int→List (S27)→Option (List Int)
 | 0,_,_,_,_,_,_=>none
 | k + 1,x3,x17,x18,x378000,x378001,x378002=>if x18 < x17 then (if 0 ≤ x18 then (if x18 < (x3.length:Int) then (impl_groupNumbers.l0 k (x3.set (x18:Int).toNat (-1)) x17 (wrap64 (x18 + 1)) x378000 x378001 x378002) else (none)) else (none)) else (impl_groupNumbers.l1 k x3 0 x378002 (x378002.length:Int) 0 x378000 x378001 x378002)
def impl_groupNumbers.l1:Nat→List Int→Int→List (S27)→Int→Int→Int→Int→List (S27)→Option (List Int)
 | 0,_,_,_,_,_,_,_,_=>none
 | k + 1,x3,x5,x26,x27,x28,x378000,x378001,x378002=>if x28 < x27 then (if 0 ≤ x28 then (if x28 < (x26.length:Int) then ((impl_isGeared.f ((rd_T27 x26 x28).f0) ((rd_T27 x26 x28).f1)).bind fun t384=>(if t384 = true then (if x28 < (x3.length:Int) then (impl_groupNumbers.j2 k x3 x5 x28 x26 x27 x28 (decide ((rd x3 x28) ≥ 0)) x378000 x378001 x378002) else (none)) else (impl_groupNumbers.j2 k x3 x5 x28 x26 x27 x28 true x378000 x378001 x378002))) else (none)) else (none)) else (some x3)
def impl_groupNumbers.j2:Nat→List Int→Int→Int→List (S27)→Int→Int→Bool→Int→Int→List (S27)→Option (List Int)
 | 0,_,_,_,_,_,_,_,_,_,_=>none
 | k + 1,x3,x5,x6,x26,x27,x28,x42,x378000,x378001,x378002=>if x42 = true then (impl_groupNumbers.l1 k x3 x5 x26 x27 (wrap64 (x28 + 1)) x378000 x378001 x378002) else (if 0 ≤ x6 then (if x6 < (x3.length:Int) then (impl_groupNumbers.l2 k (x3.set (x6:Int).toNat x5) x5 (([x6]:List Int)) x26 x27 x28 x378000 x378001 x378002) else (none)) else (none))
def impl_groupNumbers.l2:Nat→List Int→Int→List Int→List (S27)→Int→Int→Int→Int→List (S27)→Option (List Int)
 | 0,_,_,_,_,_,_,_,_,_=>none
 | k + 1,x3,x5,x8,x26,x27,x28,x378000,x378001,x378002=>if (x8.length:Int) > 0 then (if 0 < (x8.length:Int) then (if 1 ≤ (x8.length:Int) then ((impl_besideOf.f k x378000 x378001 x378002 (rd x8 0)).bind fun t394=>(impl_groupNumbers.l3 k x3 x5 (x8.drop (1:Int).toNat) x26 x27 x28 t394 (t394.length:Int) 0 x378000 x378001 x378002)) else (none)) else (none)) else (impl_groupNumbers.l1 k x3 (wrap64 (x5 + 1)) x26 x27 (wrap64 (x28 + 1)) x378000 x378001 x378002)
def impl_groupNumbers.l3:Nat→List Int→Int→List Int→List (S27)→Int→Int→List Int→Int→Int→Int→Int→List (S27)→Option (List Int)
 | 0,_,_,_,_,_,_,_,_,_,_,_,_=>none
 | k + 1,x3,x5,x8,x26,x27,x28,x59,x60,x61,x378000,x378001,x378002=>if x61 < x60 then (if 0 ≤ x61 then (if x61 < (x59.length:Int) then (if 0 ≤ (rd x59 x61) then (if (rd x59 x61) < (x378002.length:Int) then ((impl_isGeared.f ((rd_T27 x378002 (rd x59 x61)).f0) ((rd_T27 x378002 (rd x59 x61)).f1)).bind fun t399=>(if t399 = true then (if (rd x59 x61) < (x3.length:Int) then (if (rd x3 (rd x59 x61)) < 0 then (if x8.length < 17592186044416 then (impl_groupNumbers.l3 k (x3.set ((rd x59 x61):Int).toNat x5) x5 (x8 ++ [rd x59 x61]) x26 x27 x28 x59 x60 (wrap64 (x61 + 1)) x378000 x378001 x378002) else (none)) else (impl_groupNumbers.l3 k x3 x5 x8 x26 x27 x28 x59 x60 (wrap64 (x61 + 1)) x378000 x378001 x378002)) else (none)) else (impl_groupNumbers.l3 k x3 x5 x8 x26 x27 x28 x59 x60 (wrap64 (x61 + 1)) x378000 x378001 x378002))) else (none)) else (none)) else (none)) else (none)) else (impl_groupNumbers.l2 k x3 x5 x8 x26 x27 x28 x378000 x378001 x378002)
end
def impl_groupNumbers.f (k:Nat) (a0_0:Int) (a0_1:Int) (l0_2:List (S27)):Option (List Int):=if 0 ≤ (l0_2.length:Int) then (if ((l0_2.length:Int):Int).toNat ≤ 35184372088832 then ((some (List.replicate ((l0_2.length:Int):Int).toNat 0:List Int)).bind fun y378=>(impl_groupNumbers.l0 k y378 (y378.length:Int) 0 a0_0 a0_1 l0_2)) else (none)) else (none)
theorem impl_groupNumbers.calls (k:Nat) (a0_0:Int) (a0_1:Int) (A0_2:Option Addr) (c0_2:Nat) (l0_2:List (S27)) (r:List Int) (w:World) (hr0_2:Kd.C k27 w A0_2 l0_2.length l0_2) (hc0_2:l0_2.length ≤ c0_2) (h:impl_groupNumbers.f k a0_0 a0_1 l0_2 = some r) :
  Calls Try.prog 148 #[.agg #[.int .i64 a0_0,.int .i64 a0_1,.slice A0_2 l0_2.length c0_2]] w fun e w'=>∃ v0_:Value,e = .returned (v0_)∧Kd.R (Kd.int .i64) 3 w' w.heap.size (fun _=>True) v0_ r∧Below w.heap.size w w':=by
 have HR0_2:=Aside0.mk hr0_2;have HC0_2:=Aside0.mk hc0_2;clear hr0_2 hc0_2;have HB:=Aside0.mk (Below.refl w.heap.size w);have H:(if 0 ≤ (l0_2.length:Int) then (if ((l0_2.length:Int):Int).toNat ≤ 35184372088832 then ((some (List.replicate ((l0_2.length:Int):Int).toNat 0:List Int)).bind fun y378=>(impl_groupNumbers.l0 k y378 (y378.length:Int) 0 a0_0 a0_1 l0_2)) else (none)) else (none)) = some r:=h;clear h;replace H:=np_ H;obtain ⟨c2,H⟩:=H;have c2b0:=eq_true c2;have c2b1:decide (0 ≤ (l0_2.length:Int)) = true:=decide_eq_true c2;clear c2;replace H:=np_ H;obtain ⟨c3,H⟩:=H;have c3b0:=eq_true c3;have c3b1:decide (((l0_2.length:Int):Int).toNat ≤ 35184372088832) = true:=decide_eq_true c3;clear c3;obtain ⟨y378,hy378⟩:∃ y_:List Int,y_ = (List.replicate ((l0_2.length:Int):Int).toNat 0):=⟨_,rfl⟩
 replace H:(impl_groupNumbers.l0 k y378 (y378.length:Int) 0 a0_0 a0_1 l0_2) = some r:=by first | (rw [hy378];with_reducible exact H) | (have H2_:=(Option.bind_some _ _).symm.trans H;rw [hy378];with_reducible exact H2_) | (have H2_:=(Option.bind_some _ _).symm.trans H;with_reducible exact H2_) | with_reducible exact H | (rw [hy378];exact H) | exact H
 have Ny378:=Aside0.mk hy378;clear hy378;have H':=Aside0.mk H;clear H;go_enter Try.func148,Try.ntmps148;go_wp2_with (first | ((with_reducible refine gate_dst (N:=1) rfl ?_);refine box_event ?hg (N:=1) ?hd (cs:=#[.int .i64 a0_0,.int .i64 a0_1,.slice A0_2 l0_2.length c0_2]) (t:=25) ?hr ?_;(case hd=>rfl);(case hg=>rfl);(case hr=>first | (go_simp;done) | (go_simp;rfl));intro gb377 hg w4 hbox hb;refine ev4 (bs HB hb) (hbox) (gle hg HB) (gle hg HB) ?_;clear HB;intro HB BK377 GW377 GE377;clear hb hbox hg;obtain ⟨hcz5_0,hcz5_1,hcz5_2,hfz5_0,hfz5_1,hfz5_2⟩:=bt3 BK377) | ((with_reducible refine gate_dst (N:=15) rfl ?_);refine Kd.R_make (Kd.int .i64) _ 3 rfl (N:=15) rfl 35 _ _ rfl (l0_2.length:Int) rfl rfl Try.underlying35 (.int .i64 0) 8 info3 rfl (by decide) (by omega) 0 (ok:=fun _=>True) (okp:=fun _=>True) rfl (fun _ hk=>hk) trivial (of_decide_eq_true (by first | (with_reducible assumption) | assumption)) (Nat.le_trans (Nat.mul_le_mul_right _ (of_decide_eq_true (by first | (with_reducible assumption) | assumption):(l0_2.length:Int).toNat ≤ 35184372088832)) (by omega)) (Below.refl _ _) (Nat.le_refl _) ?_;intro v379 w6 ho7 hb hg_ hnew_;clear hg_ hnew_;(first | rw [← Ny378.out] at ho7 | (simp only [Int.reduceToNat] at ho7;rw [← Ny378.out] at ho7));refine ev3 (Kd.R_lower ho7 (below_size (bm HB))) (kb BK377 hb) (bs HB hb) ?_;clear BK377 HB;intro HO380 BK377 HB;clear hb ho7;obtain ⟨Ao8,co8,eo8⟩:=Kd.R_slice HO380.out;subst eo8))
 go_loopg [18] k (fun kq v18 w'=>∃ (x3_1:List Int) (x18_1:Int),v18 = .int .i64 x18_1∧Aside0 (impl_groupNumbers.l0 kq x3_1 (y378.length:Int) x18_1 a0_0 a0_1 l0_2 = some r)∧Aside0 (kq ≤ k)∧Aside0 (Kd.R (Kd.int .i64) 3 w' w.heap.size (fun _=>True) (.slice Ao8 y378.length co8) x3_1)∧Aside0 (w'.heap[gb377]? = some (.cells #[.int .i64 a0_0,.int .i64 a0_1,(.slice A0_2 l0_2.length c0_2)] 25 (0,0)))∧Aside0 (Below w.heap.size w w'))
 case atStart=>exact ⟨(y378),(0),(by first | rfl | (simp;done) | (simp [*];done)),H',⟨Nat.le_refl _⟩,⟨Kd.R_mv HO380.out⟩,⟨km_ BK377⟩,⟨bm HB⟩⟩
 case round =>
  clear H';(try clear c1);(try clear c2);(try clear c2b0);(try clear c2b1);(try clear p2);(try clear c3);(try clear c3b0);(try clear c3b1);(try clear hcz5_0 hcz5_1 hcz5_2 hfz5_0 hfz5_1 hfz5_2);obtain ⟨x3_1,x18_1,rfl,HA,HK1,HO_3,BK377,HB⟩:=hrel;have hl3_1:=(Kd.R_reads' HO_3.out).1;rw [hl3_1] at HO_3;(try simp only [hl3_1])
  (try simp only [hl3_1] at BK377)
  cases gk with
  | zero=>exact absurd HA.out (by simp [impl_groupNumbers.l0])
  | succ k1 =>
   have H:=HA.out;clear HA;simp only [impl_groupNumbers.l0] at H;by_cases c9:x18_1 < (y378.length:Int)
   ·rw [if_pos c9] at H;have c9b0:decide (x18_1 < (y378.length:Int)) = true:=decide_eq_true c9;(try simp only [hl3_1] at c9b0)
    clear c9;replace H:=np_ H;obtain ⟨c10,H⟩:=H;have c10b0:decide (0 ≤ x18_1) = true:=decide_eq_true c10;clear c10;replace H:=np_ H;obtain ⟨c11,H⟩:=H;have c11b0:decide (x18_1 < (x3_1.length:Int)) = true:=decide_eq_true c11;(try simp only [hl3_1] at c11b0)
    clear c11;obtain ⟨y381,hy381⟩:∃ y_:List Int,y_ = (x3_1.set (x18_1:Int).toNat (-1)):=⟨_,rfl⟩
    replace H:(impl_groupNumbers.l0 k1 y381 (y378.length:Int) (wrap64 (x18_1 + 1)) a0_0 a0_1 l0_2) = some r:=by first | (rw [hy381];with_reducible exact H) | (have H2_:=(Option.bind_some _ _).symm.trans H;rw [hy381];with_reducible exact H2_) | (have H2_:=(Option.bind_some _ _).symm.trans H;with_reducible exact H2_) | with_reducible exact H | (rw [hy381];exact H) | exact H
    have Ny381:=Aside0.mk hy381;clear hy381;have H':=Aside0.mk H;clear H;have p12:0 ≤ (x18_1:Int):=of_decide_eq_true (by first | (with_reducible assumption) | assumption);have q12:(x18_1:Int) < ((x3_1.length:Int):Int):=of_decide_eq_true (by first | (with_reducible assumption) | assumption);obtain ⟨go12,co12,eo12,gb12,gl12,cl12,HG12⟩:=Kd.R_form HO_3.out (by omega);(first | cases eo12 | (injection eo12 with ea_ en_ ec_;(first | subst ea_ | (injection ea_ with ea_;subst ea_));subst ec_;clear en_))
    have GB12:=Aside0.mk gb12;have GG12:=Aside0.mk HG12;clear gb12 gl12 HG12;obtain ⟨hx12_0,hf12_0⟩:=Kd.R_celln 0 HO_3.out (x18_1:Int) p12 q12;replace p12:=eq_true p12;replace q12:=eq_true q12;have HP13:=Kd.R_putg HO_3.out (x18_1:Int) (-1);go_wp2_with (first | ((with_reducible refine gate_store (t:=3) (p:=23) rfl ?_);refine store_event (t:=3) (p:=23) (v:=?vo_w14) (w1:=(wr.setCell ⟨go12,(x18_1:Int).toNat,none⟩ (.int .i64 (-1)))) ?hg ?ho ?hn ?hr ?_;(case ho=>rfl);(case hg=>rfl);(case hn=>rfl);(case hr=>first | (go_simp;done) | (go_simp;rfl));intro w14 hw;have hg:wr.grownBy w14 (some go12):=(by rw [hw];exact HP13.2);have hp_:Kd.R (Kd.int .i64) 3 w14 w.heap.size (fun _=>True) (.slice (some ⟨go12,0,none⟩) x3_1.length co8) y381:=(by rw [hw,Ny381.out];exact HP13.1);clear HP13;refine ev3 (hp_) (blk_grown (km_ BK377) hg (Kd.R_ne HO_3.out BK377.out (by decide))) ((by rw [hw];exact below_set (HB.out) GB12.out:Below w.heap.size w w14)) ?_;clear HO_3 BK377 HB;intro HO_3 BK377 HB;clear hg hw hp_))
    (try simp only [← hl3_1])
    go_roundg k1
    case measure=>have:=HK1.out;omega
    case rel=>exact ⟨(y381),(wrap64 (x18_1 + 1)),(by first | rfl | (simp;done) | (simp [*];done)),H',⟨by have:=HK1.out;omega⟩,⟨by (try simp only [hl3_1]);exact Kd.R_mv HO_3.out⟩,⟨by (try simp only [hl3_1]);exact km_ BK377⟩,⟨bm HB⟩⟩
   ·rw [if_neg c9] at H;have c9b0:decide (x18_1 < (y378.length:Int)) = false:=decide_eq_false c9;(try simp only [hl3_1] at c9b0)
    clear c9;have H':=Aside0.mk H;clear H;obtain ⟨hcz15_0,hcz15_1,hcz15_2,hfz15_0,hfz15_1,hfz15_2⟩:=bt3 BK377;go_wp2;go_loopg [5,28] k1 (fun kq v5 v28 w'=>∃ (x3_2:List Int) (x5_2:Int) (x28_2:Int),v5 = .int .i64 x5_2∧v28 = .int .i64 x28_2∧Aside0 (impl_groupNumbers.l1 kq x3_2 x5_2 l0_2 (l0_2.length:Int) x28_2 a0_0 a0_1 l0_2 = some r)∧Aside0 (kq ≤ k1)∧Aside0 (Kd.R (Kd.int .i64) 3 w' w.heap.size (fun _=>True) (.slice Ao8 x3_1.length co8) x3_2)∧Aside0 (w'.heap[gb377]? = some (.cells #[.int .i64 a0_0,.int .i64 a0_1,(.slice A0_2 l0_2.length c0_2)] 25 (0,0)))∧Aside0 (Below w.heap.size w w'))
    case atStart=>exact ⟨(x3_1),(0),(0),(by first | rfl | (simp;done) | (simp [*];done)),(by first | rfl | (simp;done) | (simp [*];done)),H',⟨Nat.le_refl _⟩,⟨by (try simp only [hl3_1]);exact Kd.R_mv HO_3.out⟩,⟨by (try simp only [hl3_1]);exact km_ BK377⟩,⟨bm HB⟩⟩
    case round =>
     clear H';(try clear c1);(try clear c2);(try clear c2b0);(try clear c2b1);(try clear p2);(try clear c3);(try clear c3b0);(try clear c3b1);(try clear c9);(try clear c9b0);(try clear c14);(try clear hcz15_0 hcz15_1 hcz15_2 hfz15_0 hfz15_1 hfz15_2);(try clear hcz5_0 hcz5_1 hcz5_2 hfz5_0 hfz5_1 hfz5_2);(try clear p2);obtain ⟨x3_2,x5_2,x28_2,rfl,rfl,HA,HK2,HO_3,BK377,HB⟩:=hrel;have hl3_2:=(Kd.R_reads' HO_3.out).1;rw [hl3_2] at HO_3;(try simp only [hl3_2])
     (try simp only [hl3_2] at BK377)
     cases gk with
     | zero=>exact absurd HA.out (by simp [impl_groupNumbers.l1])
     | succ k2 =>
      have H:=HA.out;clear HA;simp only [impl_groupNumbers.l1] at H;by_cases c16:x28_2 < (l0_2.length:Int)
      ·rw [if_pos c16] at H;have c16b0:decide (x28_2 < (l0_2.length:Int)) = true:=decide_eq_true c16;(try simp only [hl3_1] at c16b0)
       (try simp only [hl3_2] at c16b0)
       clear c16;replace H:=np_ H;obtain ⟨c17,H⟩:=H;have c17b0:decide (0 ≤ x28_2) = true:=decide_eq_true c17;clear c17;replace H:=np_ H;obtain ⟨c18,H⟩:=H;have c18b0:decide (x28_2 < (l0_2.length:Int)) = true:=decide_eq_true c18;(try simp only [hl3_1] at c18b0)
       (try simp only [hl3_2] at c18b0)
       clear c18;have HC19:=Aside0.mk H;clear H;have p382:0 ≤ (x28_2:Int):=of_decide_eq_true (by first | (with_reducible assumption) | assumption);have q382:x28_2 < (l0_2.length:Int):=of_decide_eq_true (by first | (with_reducible assumption) | assumption);obtain ⟨ad382,e382,hx382_0,hx382_1⟩:=at_T27 HR0_2.out x28_2 p382 q382;cases e382;replace hx382_0:=(HB.out.cell (World.block_lt_of_cell? w _ hx382_0)).trans hx382_0;replace hx382_1:=(HB.out.cell (World.block_lt_of_cell? w _ hx382_1)).trans hx382_1;replace p382:=eq_true p382;replace q382:=eq_true q382;go_upto_region 11 with (first | ((with_reducible refine gate_dst (N:=7) rfl ?_);refine box_event ?hg (N:=7) ?hd (cs:=#[.int .i64 0,.int .i64 0]) (t:=27) ?hr ?_;(case hd=>rfl);(case hg=>rfl);(case hr=>first | (go_simp;done) | (go_simp;rfl));intro gb383 hg w20 hbox hb;refine ev8 (Kd.R_below (Kd.R_mv HO_3.out) hb) (kb BK377 hb) (bs HB hb) (hbox) (gle hg HB) (gle hg HB) (gnf hg BK377) (gne hg BK377) ?_;clear HO_3 BK377 HB;intro HO_3 BK377 HB BK383 GW383 GE383 NB377_383 NB383_377;clear hb hbox hg;have hnb21:=NB383_377.out;have hnc21:=NB377_383.out;obtain ⟨hcz22_0,hcz22_1,hfz22_0,hfz22_1⟩:=bt2 BK383))
       (try simp only [Act.put,za_,zb_,zc_])
       go_cut [42] (fun v42 wc=>∃ (kq:Nat) (x42_18:Bool),v42 = .bool x42_18∧Aside0 (impl_groupNumbers.j2 kq x3_2 x5_2 x28_2 l0_2 (l0_2.length:Int) x28_2 x42_18 a0_0 a0_1 l0_2 = some r)∧Aside0 (kq ≤ k2)∧Aside0 (Kd.R (Kd.int .i64) 3 wc w.heap.size (fun _=>True) (.slice Ao8 x3_2.length co8) x3_2)∧Aside0 (wc.heap[gb377]? = some (.cells #[.int .i64 a0_0,.int .i64 a0_1,(.slice (some ad382) l0_2.length c0_2)] 25 (0,0)))∧Aside0 (wc.heap[gb383]? = some (.cells #[.int .i64 ((rd_T27 l0_2 x28_2).f0),.int .i64 ((rd_T27 l0_2 x28_2).f1)] 27 (0,0)))∧Aside0 (Below w.heap.size w wc))
       case first =>
        have H:=HC19.out;clear HC19;replace H:=Option.bind_eq_some_iff.mp H;obtain ⟨t384,A230,H⟩:=H;(try dsimp only at H)
        have A23:=Aside0.mk A230;clear A230;by_cases c24:t384 = true
        ·subst c24;have H1:(if x28_2 < (x3_2.length:Int) then (impl_groupNumbers.j2 k2 x3_2 x5_2 x28_2 l0_2 (l0_2.length:Int) x28_2 (decide ((rd x3_2 x28_2) ≥ 0)) a0_0 a0_1 l0_2) else (none)) = some r:=by rw [if_pos rfl] at H;exact H
         clear H;have H:=H1;clear H1;replace H:=np_ H;obtain ⟨c25,H⟩:=H;have c25b0:decide (x28_2 < (x3_2.length:Int)) = true:=decide_eq_true c25;(try simp only [hl3_1] at c25b0)
         (try simp only [hl3_2] at c25b0)
         clear c25;(first | rw [c25b0] | (simp only [i64_w,i32_w];rw [c25b0]) | skip)
         have H':=Aside0.mk H;clear H;have hnb26:=NB383_377.out;have hnc26:=NB377_383.out;obtain ⟨hcz27_0,hcz27_1,hfz27_0,hfz27_1⟩:=bt2 BK383;go_wp2_with (first | ((with_reducible refine gate_callee (f:=173) rfl ?_);refine gL_ (some 34) Try.func173 #[.agg #[.int .i64 ((rd_T27 l0_2 x28_2).f0),.int .i64 ((rd_T27 l0_2 x28_2).f1)]] (h:=?_);(with_reducible refine (impl_isGeared.calls ((rd_T27 l0_2 x28_2).f0) ((rd_T27 l0_2 x28_2).f1) true _ A23.out).mono ?_);rintro e w28 ⟨rfl,hb⟩;refine ⟨_,rfl,?_⟩;refine ev4 (Kd.R_below (Kd.R_ft HO_3.out BK383.out (by decide)) hb) (blk_below (g:=gb377) (o:=.cells #[.int .i64 a0_0,.int .i64 a0_1,.slice (some ad382) l0_2.length c0_2] 25 (0,0)) (fp BK377 rfl) hb) (blk_below (g:=gb383) (o:=.cells #[.int .i64 ((rd_T27 l0_2 x28_2).f0),.int .i64 ((rd_T27 l0_2 x28_2).f1)] 27 (0,0)) (fp BK383 rfl) hb) (bs HB hb) ?_;clear HO_3 BK377 BK383 HB;intro HO_3 BK377 BK383 HB;(try clear hb);have p385:0 ≤ (x28_2:Int):=of_decide_eq_true (by first | (with_reducible assumption) | assumption);have q385:x28_2 < (x3_2.length:Int):=of_decide_eq_true (by first | (with_reducible assumption) | assumption);obtain ⟨ad385,e385,hx385_0⟩:=Kd.at_int (Kd.R_reads' HO_3.out).2.2 x28_2 p385 q385;cases e385;replace p385:=eq_true p385;replace q385:=eq_true q385))
         go_meet
         case rel=>exact ⟨_,(decide ((rd x3_2 x28_2) ≥ 0)),(by first | rfl | (simp;done) | (simp [*];done)),H',⟨by have:=HK1.out;have:=HK2.out;first | omega | exact Nat.le_refl _⟩,⟨by (try simp only [hl3_1]);(try simp only [hl3_2]);exact Kd.R_mv HO_3.out⟩,⟨by (try simp only [hl3_1]);(try simp only [hl3_2]);exact km_ BK377⟩,⟨by (try simp only [hl3_1]);(try simp only [hl3_2]);exact km_ BK383⟩,⟨bm HB⟩⟩
        ·replace c24:=Bool.eq_false_iff.mpr c24;subst c24;have H1:(impl_groupNumbers.j2 k2 x3_2 x5_2 x28_2 l0_2 (l0_2.length:Int) x28_2 true a0_0 a0_1 l0_2) = some r:=by rw [if_neg (show ¬ (false = true) by decide)] at H;exact H
         clear H;have H:=H1;clear H1;have H':=Aside0.mk H;clear H;have hnb29:=NB383_377.out;have hnc29:=NB377_383.out;obtain ⟨hcz30_0,hcz30_1,hfz30_0,hfz30_1⟩:=bt2 BK383;go_wp2_with (first | ((with_reducible refine gate_callee (f:=173) rfl ?_);refine gL_ (some 34) Try.func173 #[.agg #[.int .i64 ((rd_T27 l0_2 x28_2).f0),.int .i64 ((rd_T27 l0_2 x28_2).f1)]] (h:=?_);(with_reducible refine (impl_isGeared.calls ((rd_T27 l0_2 x28_2).f0) ((rd_T27 l0_2 x28_2).f1) false _ A23.out).mono ?_);rintro e w31 ⟨rfl,hb⟩;refine ⟨_,rfl,?_⟩;refine ev4 (Kd.R_below (Kd.R_ft HO_3.out BK383.out (by decide)) hb) (blk_below (g:=gb377) (o:=.cells #[.int .i64 a0_0,.int .i64 a0_1,.slice (some ad382) l0_2.length c0_2] 25 (0,0)) (fp BK377 rfl) hb) (blk_below (g:=gb383) (o:=.cells #[.int .i64 ((rd_T27 l0_2 x28_2).f0),.int .i64 ((rd_T27 l0_2 x28_2).f1)] 27 (0,0)) (fp BK383 rfl) hb) (bs HB hb) ?_;clear HO_3 BK377 BK383 HB;intro HO_3 BK377 BK383 HB;(try clear hb)))
         go_meet
         case rel=>exact ⟨_,(true),(by first | rfl | (simp;done) | (simp [*];done)),H',⟨by have:=HK1.out;have:=HK2.out;first | omega | exact Nat.le_refl _⟩,⟨by (try simp only [hl3_1]);(try simp only [hl3_2]);exact Kd.R_mv HO_3.out⟩,⟨by (try simp only [hl3_1]);(try simp only [hl3_2]);exact km_ BK377⟩,⟨by (try simp only [hl3_1]);(try simp only [hl3_2]);exact km_ BK383⟩,⟨bm HB⟩⟩
       case rest =>
        clear HC19;(try clear c1);(try clear c2);(try clear c2b0);(try clear c2b1);(try clear p2);(try clear c3);(try clear c3b0);(try clear c3b1);(try clear p3);(try clear q3);(try clear hx3);(try clear c9);(try clear c9b0);(try clear c14);(try clear c16);(try clear c16b0);(try clear c17);(try clear c17b0);(try clear c18);(try clear c18b0);(try clear c21);(try clear hcz15_0 hcz15_1 hcz15_2 hfz15_0 hfz15_1 hfz15_2);(try clear hcz22_0 hcz22_1 hfz22_0 hfz22_1);(try clear hcz5_0 hcz5_1 hcz5_2 hfz5_0 hfz5_1 hfz5_2);(try clear hx382_0);(try clear hx382_1);(try clear p2);(try clear p382);(try clear q382);obtain ⟨kq,x42_18,rfl,HA,HJ18,HO_3,BK377,BK383,HB⟩:=hcut;cases kq with
        | zero=>exact absurd HA.out (by simp [impl_groupNumbers.j2])
        | succ kj18 =>
         have H:=HA.out;clear HA;simp only [impl_groupNumbers.j2] at H;by_cases c32:x42_18 = true
         ·subst c32;have H1:(impl_groupNumbers.l1 kj18 x3_2 x5_2 l0_2 (l0_2.length:Int) (wrap64 (x28_2 + 1)) a0_0 a0_1 l0_2) = some r:=by rw [if_pos rfl] at H;exact H
          clear H;have H:=H1;clear H1;have H':=Aside0.mk H;clear H;go_wp2;(try simp only [← hl3_2])
          go_roundg kj18
          case measure=>have:=HK1.out;have:=HK2.out;have:=HJ18.out;omega
          case rel=>exact ⟨(x3_2),(x5_2),(wrap64 (x28_2 + 1)),(by first | rfl | (simp;done) | (simp [*];done)),(by first | rfl | (simp;done) | (simp [*];done)),H',⟨by have:=HK1.out;have:=HK2.out;have:=HJ18.out;omega⟩,⟨by (try simp only [hl3_1]);(try simp only [hl3_2]);exact Kd.R_mv HO_3.out⟩,⟨by (try simp only [hl3_1]);(try simp only [hl3_2]);exact km_ BK377⟩,⟨bm HB⟩⟩
         ·replace c32:=Bool.eq_false_iff.mpr c32;subst c32;have H1:(if 0 ≤ x28_2 then (if x28_2 < (x3_2.length:Int) then (impl_groupNumbers.l2 kj18 (x3_2.set (x28_2:Int).toNat x5_2) x5_2 (([x28_2]:List Int)) l0_2 (l0_2.length:Int) x28_2 a0_0 a0_1 l0_2) else (none)) else (none)) = some r:=by rw [if_neg (show ¬ (false = true) by decide)] at H;exact H
          clear H;have H:=H1;clear H1;replace H:=np_ H;obtain ⟨c33,H⟩:=H;have c33b0:decide (0 ≤ x28_2) = true:=decide_eq_true c33;clear c33;replace H:=np_ H;obtain ⟨c34,H⟩:=H;have c34b0:decide (x28_2 < (x3_2.length:Int)) = true:=decide_eq_true c34;(try simp only [hl3_1] at c34b0)
          (try simp only [hl3_2] at c34b0)
          clear c34;obtain ⟨y386,hy386⟩:∃ y_:List Int,y_ = (x3_2.set (x28_2:Int).toNat x5_2):=⟨_,rfl⟩
          replace H:(impl_groupNumbers.l2 kj18 y386 x5_2 (([x28_2]:List Int)) l0_2 (l0_2.length:Int) x28_2 a0_0 a0_1 l0_2) = some r:=by first | (rw [hy386];with_reducible exact H) | (have H2_:=(Option.bind_some _ _).symm.trans H;rw [hy386];with_reducible exact H2_) | (have H2_:=(Option.bind_some _ _).symm.trans H;with_reducible exact H2_) | with_reducible exact H | (rw [hy386];exact H) | exact H
          have Ny386:=Aside0.mk hy386;clear hy386;obtain ⟨y387,hy387⟩:∃ y_:List Int,y_ = (([x28_2]:List Int)):=⟨_,rfl⟩
          replace H:(impl_groupNumbers.l2 kj18 y386 x5_2 y387 l0_2 (l0_2.length:Int) x28_2 a0_0 a0_1 l0_2) = some r:=by first | (rw [hy387];with_reducible exact H) | (have H2_:=(Option.bind_some _ _).symm.trans H;rw [hy387];with_reducible exact H2_) | (have H2_:=(Option.bind_some _ _).symm.trans H;with_reducible exact H2_) | with_reducible exact H | (rw [hy387];exact H) | exact H
          have Ny387:=Aside0.mk hy387;clear hy387;have H':=Aside0.mk H;clear H;have p35:0 ≤ (x28_2:Int):=of_decide_eq_true (by first | (with_reducible assumption) | assumption);have q35:(x28_2:Int) < ((x3_2.length:Int):Int):=of_decide_eq_true (by first | (with_reducible assumption) | assumption);obtain ⟨go35,co35,eo35,gb35,gl35,cl35,HG35⟩:=Kd.R_form HO_3.out (by omega);(first | cases eo35 | (injection eo35 with ea_ en_ ec_;(first | subst ea_ | (injection ea_ with ea_;subst ea_));subst ec_;clear en_))
          have GB35:=Aside0.mk gb35;have GG35:=Aside0.mk HG35;clear gb35 gl35 HG35;obtain ⟨hx35_0,hf35_0⟩:=Kd.R_celln 0 HO_3.out (x28_2:Int) p35 q35;replace p35:=eq_true p35;replace q35:=eq_true q35;have HP36:=Kd.R_putg HO_3.out (x28_2:Int) x5_2;go_wp2_with (first | ((with_reducible refine gate_store (t:=3) (p:=46) rfl ?_);refine store_event (t:=3) (p:=46) (v:=?vo_w37) (w1:=(wc.setCell ⟨go35,(x28_2:Int).toNat,none⟩ (.int .i64 x5_2))) ?hg ?ho ?hn ?hr ?_;(case ho=>rfl);(case hg=>rfl);(case hn=>rfl);(case hr=>first | (go_simp;done) | (go_simp;rfl));intro w37 hw;have hg:wc.grownBy w37 (some go35):=(by rw [hw];exact HP36.2);have hp_:Kd.R (Kd.int .i64) 3 w37 w.heap.size (fun _=>True) (.slice (some ⟨go35,0,none⟩) x3_2.length co8) y386:=(by rw [hw,Ny386.out];exact HP36.1);clear HP36;refine ev4 (hp_) (blk_grown (km_ BK377) hg (Kd.R_ne HO_3.out BK377.out (by decide))) (blk_grown (km_ BK383) hg (Kd.R_ne HO_3.out BK383.out (by decide))) ((by rw [hw];exact below_set (HB.out) GB35.out:Below w.heap.size w w37)) ?_;clear HO_3 BK377 BK383 HB;intro HO_3 BK377 BK383 HB;clear hg hw hp_) | ((with_reducible refine gate_dst (N:=48) rfl ?_);refine Kd.R_lit (Kd.int .i64) _ 3 ?hg (N:=48) ?hd (xs:=([x28_2]:List Int)) (inner:=[.int .i64 x28_2]) (ok:=fun _=>True) (okp:=fun _=>True) ?hr ?hp (fun _ hk=>hk) trivial (Below.refl _ _) (Nat.le_refl _) (by simp) ?_;(case hd=>rfl);(case hg=>rfl);(case hr=>first | (go_simp;done) | (go_simp;rfl));(case hp=>exact (Reps.one (show Kd.M (Kd.int .i64) _ _ _ x28_2 [.int .i64 x28_2] from rfl) (Reps.none _ _)));intro v388 w38 ho39 hb hg_ hnew_;clear hg_ hnew_;(first | rw [← Ny387.out] at ho39 | (simp only [Int.reduceToNat] at ho39;rw [← Ny387.out] at ho39));refine ev5 (Kd.R_elder' (Kd.R_mv HO_3.out) (Kd.R_base ho39) hb) (Kd.R_lower (Kd.R_new' ho39 (Kd.R_lt (Kd.R_mv HO_3.out))) (below_size (bm HB))) (kb BK377 hb) (kb BK383 hb) (bs HB hb) ?_;clear HO_3 BK377 BK383 HB;intro HO_3 HO389 BK377 BK383 HB;clear hb ho39))
          go_loopg [8] kj18 (fun kq v8 w'=>∃ (x3_4:List Int) (x8_4:List Int),Aside0 (impl_groupNumbers.l2 kq x3_4 x5_2 x8_4 l0_2 (l0_2.length:Int) x28_2 a0_0 a0_1 l0_2 = some r)∧Aside0 (kq ≤ kj18)∧Aside0 (Kd.R (Kd.int .i64) 3 w' w.heap.size (fun k_=>some k_ ≠ (v8:Value).ownBlock) (.slice (some ⟨go35,0,none⟩) x3_2.length co8) x3_4)∧Aside0 (Kd.Q (Kd.int .i64) 3 w' w.heap.size (fun k_=>some k_ ≠ ((.slice (some ⟨go35,0,none⟩) x3_2.length co8):Value).ownBlock) v8 x8_4)∧Aside0 (w'.heap[gb377]? = some (.cells #[.int .i64 a0_0,.int .i64 a0_1,(.slice (some ad382) l0_2.length c0_2)] 25 (0,0)))∧Aside0 (w'.heap[gb383]? = some (.cells #[.int .i64 ((rd_T27 l0_2 x28_2).f0),.int .i64 ((rd_T27 l0_2 x28_2).f1)] 27 (0,0)))∧Aside0 (Below w.heap.size w w'))
          case atStart=>exact ⟨(y386),(y387),H',⟨Nat.le_refl _⟩,⟨by (try simp only [hl3_1]);(try simp only [hl3_2]);exact Kd.R_mv (Kd.R_mono HO_3.out (fun _ hk=>hk.2))⟩,⟨Kd.Q_of_R (by (try simp only [hl3_1]);(try simp only [hl3_2]);exact Kd.R_mv (Kd.R_mono HO389.out (fun _ hk=>hk.2)))⟩,⟨by (try simp only [hl3_1]);(try simp only [hl3_2]);exact km_ BK377⟩,⟨by (try simp only [hl3_1]);(try simp only [hl3_2]);exact km_ BK383⟩,⟨bm HB⟩⟩
          case round =>
           clear H';(try clear c1);(try clear c2);(try clear c2b0);(try clear c2b1);(try clear p2);(try clear c3);(try clear c3b0);(try clear c3b1);(try clear p3);(try clear q3);(try clear hx3);(try clear hf3);(try clear c9);(try clear c9b0);(try clear c14);(try clear c16);(try clear c16b0);(try clear c17);(try clear c17b0);(try clear c18);(try clear c18b0);(try clear c21);(try clear c32);(try clear c33);(try clear c33b0);(try clear c34);(try clear c34b0);(try clear p35);(try clear q35);(try clear hx35);(try clear hf35);(try clear p38);(try clear q38);(try clear hx38);(try clear hcz15_0 hcz15_1 hcz15_2 hfz15_0 hfz15_1 hfz15_2);(try clear hcz22_0 hcz22_1 hfz22_0 hfz22_1);(try clear hcz5_0 hcz5_1 hcz5_2 hfz5_0 hfz5_1 hfz5_2);(try clear hx35_0);(try clear hx382_0);(try clear hx382_1);(try clear p2);(try clear p3);(try clear p35);(try clear p382);(try clear q3);(try clear q35);(try clear q382);obtain ⟨x3_4,x8_4,HA,HK4,HO_3,HO_8,BK377,BK383,HB⟩:=hrel;have hl3_4:=(Kd.R_reads' HO_3.out).1;rw [hl3_4] at HO_3;(try simp only [hl3_4])
           (try simp only [hl3_4] at BK377)
           (try simp only [hl3_4] at BK383)
           (try simp only [hl3_4] at HO_8)
           cases gk with
           | zero=>exact absurd HA.out (by simp [impl_groupNumbers.l2])
           | succ k4 =>
            have H:=HA.out;clear HA;simp only [impl_groupNumbers.l2] at H;by_cases c40:(x8_4.length:Int) > 0
            ·rw [if_pos c40] at H;have c40b0:decide (0 < (x8_4.length:Int)) = true:=decide_eq_true c40;have c40b1:decide (0 < x8_4.length) = true:=decide_eq_true (by omega);(try simp only [hl3_1] at c40b0 c40b1)
             (try simp only [hl3_2] at c40b0 c40b1)
             (try simp only [hl3_4] at c40b0 c40b1)
             clear c40;replace H:=np_ H;obtain ⟨c41,H⟩:=H;have c41b0:decide (0 < (x8_4.length:Int)) = true:=decide_eq_true c41;have c41b1:decide (0 < x8_4.length) = true:=decide_eq_true (by omega);(try simp only [hl3_1] at c41b0 c41b1)
             (try simp only [hl3_2] at c41b0 c41b1)
             (try simp only [hl3_4] at c41b0 c41b1)
             clear c41;replace H:=np_ H;obtain ⟨c42,H⟩:=H;have c42b0:=eq_true c42;have c42b1:decide (1 ≤ (x8_4.length:Int)) = true:=decide_eq_true c42;clear c42;obtain ⟨y391,hy391⟩:∃ y_:List Int,y_ = (x8_4.drop (1:Int).toNat):=⟨_,rfl⟩
             replace H:((impl_besideOf.f k4 a0_0 a0_1 l0_2 (rd x8_4 0)).bind fun t394=>(impl_groupNumbers.l3 k4 x3_4 x5_2 y391 l0_2 (l0_2.length:Int) x28_2 t394 (t394.length:Int) 0 a0_0 a0_1 l0_2)) = some r:=by first | (rw [hy391];with_reducible exact H) | (have H2_:=(Option.bind_some _ _).symm.trans H;rw [hy391];with_reducible exact H2_) | (have H2_:=(Option.bind_some _ _).symm.trans H;with_reducible exact H2_) | with_reducible exact H | (rw [hy391];exact H) | exact H
             have Ny391:=Aside0.mk hy391;clear hy391;replace H:=Option.bind_eq_some_iff.mp H;obtain ⟨t394,A430,H⟩:=H;(try dsimp only at H)
             have A43:=Aside0.mk A430;clear A430;have H':=Aside0.mk H;clear H;obtain ⟨Ao44,co44,eo44,_⟩:=Kd.Q_slice HO_8.out;subst eo44;have p390:0 ≤ (0:Int):=(by omega)
             have q390:0 < (x8_4.length:Int):=of_decide_eq_true (by first | (with_reducible assumption) | assumption);obtain ⟨ad390,e390,hx390_0⟩:=Kd.at_int (Kd.Q_reads' HO_8.out).2.2 0 p390 q390;cases e390;have qi390:(0 < x8_4.length) = True:=eq_true (by omega);(try rw [show ((0:Int)).toNat = 0 from rfl] at hx390_0)
             (try rw [Addr.add_zero'] at hx390_0)
             replace p390:=eq_true p390;replace q390:=eq_true q390;have q45:(1:Int) ≤ ((x8_4.length:Int):Int):=of_decide_eq_true (by first | (with_reducible assumption) | assumption);obtain ⟨i045,hi045,_,hsz45,_⟩:=info_parts info3;have hcut45:=cut_from (P:=Try.prog) 35 3 .i64 Try.underlying35 hi045 1 hsz45 (some ad390) x8_4.length co44 1 (by omega) q45;have hr45:=Kd.Q_drop (k:=(1:Int).toNat) HO_8.out (by omega);obtain ⟨A45,hA45⟩:∃ A1,A1 = (if co44 = (1:Int).toNat then (some ad390) else ((some ad390):Option Addr).map (·.add ((1:Int).toNat * 1))):=⟨_,rfl⟩
             obtain ⟨c45,hc45⟩:∃ c1,c1 = co44 - (1:Int).toNat:=⟨_,rfl⟩
             have hy45:y391.length = x8_4.length - (1:Int).toNat:=(by rw [Ny391.out,List.length_drop])
             rw [← Ny391.out] at hr45;rw [← hy45,← hA45,← hc45] at hcut45;replace hr45:Kd.Q (Kd.int .i64) 3 wr w.heap.size (fun k_=>some k_ ≠ (.slice (some ⟨go35,0,none⟩) x3_4.length co8:Value).ownBlock) (.slice A45 y391.length c45) y391:=(by rw [hA45,hc45,hy45];exact hr45)
             have HE45:Aside0 ((Value.slice A45 y391.length c45).ownBlock = (.slice (some ad390) x8_4.length co44:Value).ownBlock):=⟨by rw [hA45];split <;> (cases ((some ad390):Option Addr) <;> rfl)⟩
             clear hy45 hi045 hsz45 HO_8 hA45 hc45;have HO393:=Aside0.mk hr45;clear hr45;replace q45:=eq_true q45;have n_:=Aside0.mk (Kd.R_mono (ok':=fun k_=>some k_ ≠ (.slice A45 y391.length c45:Value).ownBlock) HO_3.out (fun k_ hk=>(by rw [HE45.out];exact hk)));clear HO_3;have HO_3:=n_;clear n_;have hnb46:=NB377_383.out;have hnc46:=NB383_377.out;obtain ⟨hcz47_0,hcz47_1,hcz47_2,hfz47_0,hfz47_1,hfz47_2⟩:=bt3 BK377;go_wp2_with (first | ((with_reducible refine gate_callee (f:=174) rfl ?_);refine gL_ (some 59) Try.func174 #[.agg #[.int .i64 a0_0,.int .i64 a0_1,.slice (some ad382) l0_2.length c0_2],.int .i64 (rd x8_4 0)] (h:=?_);(with_reducible refine (impl_besideOf.calls k4 a0_0 a0_1 _ _ l0_2 (rd x8_4 0) t394 _ (Kd.C_mv (Kd.C_below HR0_2.out HB.out)) HC0_2.out A43.out).mono ?_);rintro e w48 ⟨v395,rfl,ho0,hb⟩;refine ⟨_,rfl,?_⟩;refine ev6 (Kd.R_elder' (Kd.R_mv HO_3.out) (Kd.R_base ho0) hb) (Kd.Q_elder' (Kd.Q_mv HO393.out) (Kd.R_base ho0) hb) (Kd.R_lower (Kd.R_new' (Kd.R_new' ho0 (Kd.R_lt (Kd.R_mv HO_3.out))) (Kd.Q_lt (Kd.Q_mv HO393.out))) (below_size (bm HB))) (kb BK377 hb) (kb BK383 hb) (bs HB hb) ?_;clear HO_3 HO393 BK377 BK383 HB;intro HO_3 HO393 HO396 BK377 BK383 HB;(try clear hb);(try clear ho0);obtain ⟨Ao49,co49,eo49⟩:=Kd.R_slice HO396.out;subst eo49))
             go_loopg [8,61] k4 (fun kq v8 v61 w'=>∃ (x3_5:List Int) (x8_5:List Int) (x61_5:Int),v61 = .int .i64 x61_5∧Aside0 (impl_groupNumbers.l3 kq x3_5 x5_2 x8_5 l0_2 (l0_2.length:Int) x28_2 t394 (t394.length:Int) x61_5 a0_0 a0_1 l0_2 = some r)∧Aside0 (kq ≤ k4)∧Aside0 (Kd.R (Kd.int .i64) 3 w' w.heap.size (fun k_=>some k_ ≠ (v8:Value).ownBlock∧some k_ ≠ ((.slice Ao49 t394.length co49):Value).ownBlock) (.slice (some ⟨go35,0,none⟩) x3_4.length co8) x3_5)∧Aside0 (Kd.Q (Kd.int .i64) 3 w' w.heap.size (fun k_=>some k_ ≠ ((.slice (some ⟨go35,0,none⟩) x3_4.length co8):Value).ownBlock∧some k_ ≠ ((.slice Ao49 t394.length co49):Value).ownBlock) v8 x8_5)∧Aside0 (Kd.R (Kd.int .i64) 3 w' w.heap.size (fun k_=>some k_ ≠ ((.slice (some ⟨go35,0,none⟩) x3_4.length co8):Value).ownBlock∧some k_ ≠ (v8:Value).ownBlock) (.slice Ao49 t394.length co49) t394)∧Aside0 (w'.heap[gb377]? = some (.cells #[.int .i64 a0_0,.int .i64 a0_1,(.slice (some ad382) l0_2.length c0_2)] 25 (0,0)))∧Aside0 (w'.heap[gb383]? = some (.cells #[.int .i64 ((rd_T27 l0_2 x28_2).f0),.int .i64 ((rd_T27 l0_2 x28_2).f1)] 27 (0,0)))∧Aside0 (Below w.heap.size w w'))
             case atStart=>exact ⟨(x3_4),(y391),(0),(by first | rfl | (simp;done) | (simp [*];done)),H',⟨Nat.le_refl _⟩,⟨by (try simp only [hl3_1]);(try simp only [hl3_2]);(try simp only [hl3_4]);exact Kd.R_mv HO_3.out⟩,⟨by (try simp only [hl3_1]);(try simp only [hl3_2]);(try simp only [hl3_4]);exact Kd.Q_mv HO393.out⟩,⟨by (try simp only [hl3_1]);(try simp only [hl3_2]);(try simp only [hl3_4]);exact Kd.R_mv (Kd.R_mono HO396.out (fun _ hk=>⟨hk.1.2,hk.2⟩))⟩,⟨by (try simp only [hl3_1]);(try simp only [hl3_2]);(try simp only [hl3_4]);exact km_ BK377⟩,⟨by (try simp only [hl3_1]);(try simp only [hl3_2]);(try simp only [hl3_4]);exact km_ BK383⟩,⟨bm HB⟩⟩
             case round =>
              clear H';(try clear c1);(try clear c2);(try clear c2b0);(try clear c2b1);(try clear p2);(try clear c3);(try clear c3b0);(try clear c3b1);(try clear p3);(try clear q3);(try clear hx3);(try clear qi3);(try clear hf3);(try clear c4);(try clear q4);(try clear c9);(try clear c9b0);(try clear c14);(try clear c16);(try clear c16b0);(try clear c17);(try clear c17b0);(try clear c18);(try clear c18b0);(try clear c21);(try clear c32);(try clear c33);(try clear c33b0);(try clear c34);(try clear c34b0);(try clear p35);(try clear q35);(try clear hx35);(try clear hf35);(try clear p38);(try clear q38);(try clear hx38);(try clear p39);(try clear q39);(try clear hx39);(try clear qi39);(try clear c40);(try clear c40b0);(try clear c40b1);(try clear c41);(try clear c41b0);(try clear c41b1);(try clear c42);(try clear c42b0);(try clear c42b1);(try clear c45);(try clear q45);(try clear c46);(try clear hcz15_0 hcz15_1 hcz15_2 hfz15_0 hfz15_1 hfz15_2);(try clear hcz22_0 hcz22_1 hfz22_0 hfz22_1);(try clear hcz47_0 hcz47_1 hcz47_2 hfz47_0 hfz47_1 hfz47_2);(try clear hcz5_0 hcz5_1 hcz5_2 hfz5_0 hfz5_1 hfz5_2);(try clear hx35_0);(try clear hx382_0);(try clear hx382_1);(try clear hx390_0);(try clear p2);(try clear p3);(try clear p35);(try clear p38);(try clear p382);(try clear p390);(try clear q3);(try clear q35);(try clear q38);(try clear q382);(try clear q390);(try clear q45);obtain ⟨x3_5,x8_5,x61_5,rfl,HA,HK5,HO_3,HO_8,HO_59,BK377,BK383,HB⟩:=hrel;have hl3_5:=(Kd.R_reads' HO_3.out).1;rw [hl3_5] at HO_3;(try simp only [hl3_5])
              (try simp only [hl3_5] at BK377)
              (try simp only [hl3_5] at BK383)
              (try simp only [hl3_5] at HO_8)
              (try simp only [hl3_5] at HO_59)
              cases gk with
              | zero=>exact absurd HA.out (by simp [impl_groupNumbers.l3])
              | succ k5 =>
               have H:=HA.out;clear HA;simp only [impl_groupNumbers.l3] at H;by_cases c50:x61_5 < (t394.length:Int)
               ·rw [if_pos c50] at H;have c50b0:decide (x61_5 < (t394.length:Int)) = true:=decide_eq_true c50;(try simp only [hl3_1] at c50b0)
                (try simp only [hl3_2] at c50b0)
                (try simp only [hl3_4] at c50b0)
                (try simp only [hl3_5] at c50b0)
                clear c50;replace H:=np_ H;obtain ⟨c51,H⟩:=H;have c51b0:decide (0 ≤ x61_5) = true:=decide_eq_true c51;clear c51;replace H:=np_ H;obtain ⟨c52,H⟩:=H;have c52b0:decide (x61_5 < (t394.length:Int)) = true:=decide_eq_true c52;(try simp only [hl3_1] at c52b0)
                (try simp only [hl3_2] at c52b0)
                (try simp only [hl3_4] at c52b0)
                (try simp only [hl3_5] at c52b0)
                clear c52;replace H:=np_ H;obtain ⟨c53,H⟩:=H;have c53b0:decide (0 ≤ (rd t394 x61_5)) = true:=decide_eq_true c53;clear c53;replace H:=np_ H;obtain ⟨c54,H⟩:=H;have c54b0:decide ((rd t394 x61_5) < (l0_2.length:Int)) = true:=decide_eq_true c54;(try simp only [hl3_1] at c54b0)
                (try simp only [hl3_2] at c54b0)
                (try simp only [hl3_4] at c54b0)
                (try simp only [hl3_5] at c54b0)
                clear c54;replace H:=Option.bind_eq_some_iff.mp H;obtain ⟨t399,A550,H⟩:=H;(try dsimp only at H)
                have A55:=Aside0.mk A550;clear A550;by_cases c56:t399 = true
                ·subst c56;have H1:(if (rd t394 x61_5) < (x3_5.length:Int) then (if (rd x3_5 (rd t394 x61_5)) < 0 then (if x8_5.length < 17592186044416 then (impl_groupNumbers.l3 k5 (x3_5.set ((rd t394 x61_5):Int).toNat x5_2) x5_2 (x8_5 ++ [rd t394 x61_5]) l0_2 (l0_2.length:Int) x28_2 t394 (t394.length:Int) (wrap64 (x61_5 + 1)) a0_0 a0_1 l0_2) else (none)) else (impl_groupNumbers.l3 k5 x3_5 x5_2 x8_5 l0_2 (l0_2.length:Int) x28_2 t394 (t394.length:Int) (wrap64 (x61_5 + 1)) a0_0 a0_1 l0_2)) else (none)) = some r:=by rw [if_pos rfl] at H;exact H
                 clear H;have H:=H1;clear H1;replace H:=np_ H;obtain ⟨c57,H⟩:=H;have c57b0:decide ((rd t394 x61_5) < (x3_5.length:Int)) = true:=decide_eq_true c57;(try simp only [hl3_1] at c57b0)
                 (try simp only [hl3_2] at c57b0)
                 (try simp only [hl3_4] at c57b0)
                 (try simp only [hl3_5] at c57b0)
                 clear c57;by_cases c58:(rd x3_5 (rd t394 x61_5)) < 0
                 ·rw [if_pos c58] at H;have c58b0:decide ((rd x3_5 (rd t394 x61_5)) < 0) = true:=decide_eq_true c58;clear c58;obtain ⟨y401,hy401⟩:∃ y_:List Int,y_ = (x3_5.set ((rd t394 x61_5):Int).toNat x5_2):=⟨_,rfl⟩
                  replace H:(if x8_5.length < 17592186044416 then (impl_groupNumbers.l3 k5 y401 x5_2 (x8_5 ++ [rd t394 x61_5]) l0_2 (l0_2.length:Int) x28_2 t394 (t394.length:Int) (wrap64 (x61_5 + 1)) a0_0 a0_1 l0_2) else (none)) = some r:=by first | (rw [hy401];with_reducible exact H) | (have H2_:=(Option.bind_some _ _).symm.trans H;rw [hy401];with_reducible exact H2_) | (have H2_:=(Option.bind_some _ _).symm.trans H;with_reducible exact H2_) | with_reducible exact H | (rw [hy401];exact H) | exact H
                  have Ny401:=Aside0.mk hy401;clear hy401;replace H:=np_ H;obtain ⟨c60,H⟩:=H;have LMc60:=Aside0.mk c60;clear c60;obtain ⟨y402,hy402⟩:∃ y_:List Int,y_ = (x8_5 ++ [rd t394 x61_5]):=⟨_,rfl⟩
                  replace H:(impl_groupNumbers.l3 k5 y401 x5_2 y402 l0_2 (l0_2.length:Int) x28_2 t394 (t394.length:Int) (wrap64 (x61_5 + 1)) a0_0 a0_1 l0_2) = some r:=by first | (rw [hy402];with_reducible exact H) | (have H2_:=(Option.bind_some _ _).symm.trans H;rw [hy402];with_reducible exact H2_) | (have H2_:=(Option.bind_some _ _).symm.trans H;with_reducible exact H2_) | with_reducible exact H | (rw [hy402];exact H) | exact H
                  have Ny402:=Aside0.mk hy402;clear hy402;have H':=Aside0.mk H;clear H;have p397:0 ≤ (x61_5:Int):=of_decide_eq_true (by first | (with_reducible assumption) | assumption);have q397:x61_5 < (t394.length:Int):=of_decide_eq_true (by first | (with_reducible assumption) | assumption);obtain ⟨ad397,e397,hx397_0⟩:=Kd.at_int (Kd.R_reads' HO_59.out).2.2 x61_5 p397 q397;cases e397;replace p397:=eq_true p397;replace q397:=eq_true q397;have hnb61:=NB377_383.out;have hnc61:=NB383_377.out;obtain ⟨hcz62_0,hcz62_1,hcz62_2,hfz62_0,hfz62_1,hfz62_2⟩:=bt3 BK377;have p398:0 ≤ ((rd t394 x61_5):Int):=of_decide_eq_true (by first | (with_reducible assumption) | assumption);have q398:(rd t394 x61_5) < (l0_2.length:Int):=of_decide_eq_true (by first | (with_reducible assumption) | assumption);obtain ⟨ad398,e398,hx398_0,hx398_1⟩:=at_T27 HR0_2.out (rd t394 x61_5) p398 q398;obtain rfl:ad382 = ad398:=(by injection e398)
                  replace hx398_0:=(HB.out.cell (World.block_lt_of_cell? w _ hx398_0)).trans hx398_0;replace hx398_1:=(HB.out.cell (World.block_lt_of_cell? w _ hx398_1)).trans hx398_1;replace p398:=eq_true p398;replace q398:=eq_true q398;go_wp2_with (first | ((with_reducible refine gate_callee (f:=173) rfl ?_);refine gL_ (some 70) Try.func173 #[.agg #[.int .i64 ((rd_T27 l0_2 (rd t394 x61_5)).f0),.int .i64 ((rd_T27 l0_2 (rd t394 x61_5)).f1)]] (h:=?_);(with_reducible refine (impl_isGeared.calls ((rd_T27 l0_2 (rd t394 x61_5)).f0) ((rd_T27 l0_2 (rd t394 x61_5)).f1) true _ A55.out).mono ?_);rintro e w63 ⟨rfl,hb⟩;refine ⟨_,rfl,?_⟩;refine ev6 (Kd.R_below (Kd.R_mv HO_3.out) hb) (Kd.Q_below (Kd.Q_mv HO_8.out) hb) (Kd.R_below (Kd.R_mv HO_59.out) hb) (kb BK377 hb) (kb BK383 hb) (bs HB hb) ?_;clear HO_3 HO_8 HO_59 BK377 BK383 HB;intro HO_3 HO_8 HO_59 BK377 BK383 HB;(try clear hb);have p400:0 ≤ ((rd t394 x61_5):Int):=of_decide_eq_true (by first | (with_reducible assumption) | assumption);have q400:(rd t394 x61_5) < (x3_5.length:Int):=of_decide_eq_true (by first | (with_reducible assumption) | assumption);obtain ⟨ad400,e400,hx400_0⟩:=Kd.at_int (Kd.R_reads' HO_3.out).2.2 (rd t394 x61_5) p400 q400;obtain rfl:(⟨go35,0,none⟩:Addr) = ad400:=(by injection e400);(first | simp only [add_plain] at hx400_0 | simp only [add_at] at hx400_0 | simp only [Addr.add,Nat.zero_add] at hx400_0 | skip);replace p400:=eq_true p400;replace q400:=eq_true q400;have p59:0 ≤ ((rd t394 x61_5):Int):=of_decide_eq_true (by first | (with_reducible assumption) | assumption);have q59:((rd t394 x61_5):Int) < ((x3_5.length:Int):Int):=of_decide_eq_true (by first | (with_reducible assumption) | assumption);obtain ⟨hx59_0,hf59_0⟩:=Kd.R_celln 0 HO_3.out ((rd t394 x61_5):Int) p59 q59;replace p59:=eq_true p59;replace q59:=eq_true q59;obtain ⟨hy64_,hz64_⟩:=Kd.R_celln 0 HO_3.out ((rd t394 x61_5):Int) (of_decide_eq_true (by first | (with_reducible assumption) | assumption)) (of_decide_eq_true (by first | (with_reducible assumption) | assumption));have HP64:=Kd.R_putg HO_3.out ((rd t394 x61_5):Int) x5_2) | ((with_reducible refine gate_store (t:=3) (p:=81) rfl ?_);refine store_event (t:=3) (p:=81) (v:=?vo_w65) (w1:=(w63.setCell ⟨go35,((rd t394 x61_5):Int).toNat,none⟩ (.int .i64 x5_2))) ?hg ?ho ?hn ?hr ?_;(case ho=>rfl);(case hg=>rfl);(case hn=>rfl);(case hr=>first | (go_simp;done) | (go_simp;rfl));intro w65 hw;have hg:w63.grownBy w65 (some go35):=(by rw [hw];exact HP64.2);have hp_:Kd.R (Kd.int .i64) 3 w65 w.heap.size (fun k_=>some k_ ≠ (u8:Value).ownBlock∧some k_ ≠ (.slice (some ad397) t394.length co49:Value).ownBlock) (.slice (some ⟨go35,0,none⟩) x3_5.length co8) y401:=(by rw [hw,Ny401.out];exact HP64.1);clear HP64;refine ev6 (hp_) (Kd.Q_after (v:=(.slice (some ⟨go35,0,none⟩) x3_5.length co8)) (v1:=(.slice (some ⟨go35,0,none⟩) x3_5.length co8)) (ok:=(fun k_=>some k_ ≠ (.slice (some ad397) t394.length co49:Value).ownBlock)) (Kd.Q_mv (Kd.Q_mono HO_8.out (fun _ hk=>⟨hk.2,hk.1⟩))) hg (.inl rfl)) (Kd.R_after (v:=(.slice (some ⟨go35,0,none⟩) x3_5.length co8)) (v1:=(.slice (some ⟨go35,0,none⟩) x3_5.length co8)) (ok:=(fun k_=>some k_ ≠ (u8:Value).ownBlock)) (Kd.R_mv (Kd.R_mono HO_59.out (fun _ hk=>⟨hk.2,hk.1⟩))) hg (.inl rfl)) (blk_grown (km_ BK377) hg (Kd.R_ne HO_3.out BK377.out (by decide))) (blk_grown (km_ BK383) hg (Kd.R_ne HO_3.out BK383.out (by decide))) ((by rw [hw];exact below_set (HB.out) GB35.out:Below w.heap.size w w65)) ?_;clear HO_3 HO_8 HO_59 BK377 BK383 HB;intro HO_3 HO_8 HO_59 BK377 BK383 HB;clear hg hw hp_) | ((with_reducible refine gate_builtin (b:=.append) (xs:=#[.tmp 82,.tmp 84]) rfl ?_);at_builtin;refine Kd.Q_append (Kd.int .i64) (w0:=w) w.heap.size rfl (.tmp 82) (.tmp 84) 35 3 (.int .i64 0) 8 rfl Try.underlying35 info3 rfl (by decide) (by omega) u8 x8_5 (rd t394 x61_5) [.int .i64 (rd t394 x61_5)] (fun k_=>some k_ ≠ (.slice (some ⟨go35,0,none⟩) x3_5.length co8:Value).ownBlock∧some k_ ≠ (.slice (some ad397) t394.length co49:Value).ownBlock) (fun _=>False) rfl rfl ?aP (fun _ hk=>hk.elim) ?aF ?aO ?aB ?aS ?aL ?_;(case aP=>exact rfl);(case aB=>exact (bm HB));(case aF=>exact (fun k_ hk=>⟨Kd.fresh' (Kd.R_lt (Kd.R_mv HO_3.out)) k_ hk,Kd.fresh' (Kd.R_lt (Kd.R_mv HO_59.out)) k_ hk⟩));(case aO=>exact (Kd.Q_mv (Kd.Q_mono HO_8.out (fun _ hk=>⟨hk.2,hk.1⟩))));(case aS=>exact (below_size (bm HB)));(case aL=>have:=LMc60.out;omega);intro v403 w66 ho hb hg hat;rw [← Ny402.out] at ho;refine ev6 (Kd.R_after (ok:=(fun k_=>some k_ ≠ (.slice (some ad397) t394.length co49:Value).ownBlock)) (Kd.R_mv (Kd.R_mono HO_3.out (fun _ hk=>⟨hk.2,hk.1⟩))) hg hat) (Kd.R_after (ok:=(fun k_=>some k_ ≠ (.slice (some ⟨go35,0,none⟩) x3_5.length co8:Value).ownBlock)) (Kd.R_mv (Kd.R_mono HO_59.out (fun _ hk=>⟨hk.2,hk.1⟩))) hg hat) (blk_grown (km_ BK377) hg (Kd.Q_ne HO_8.out BK377.out (by decide))) (blk_grown (km_ BK383) hg (Kd.Q_ne HO_8.out BK383.out (by decide))) (hb) (ho) ?_;clear HO_3 HO_59 BK377 BK383 HB HO_8;intro HO_3 HO_59 BK377 BK383 HB HO404;clear ho hb hg hat))
                  (try simp only [← hl3_5])
                  go_roundg k5
                  case measure=>have:=HK1.out;have:=HK2.out;have:=HJ18.out;have:=HK4.out;have:=HK5.out;omega
                  case rel=>exact ⟨(y401),(y402),(wrap64 (x61_5 + 1)),(by first | rfl | (simp;done) | (simp [*];done)),H',⟨by have:=HK1.out;have:=HK2.out;have:=HJ18.out;have:=HK4.out;have:=HK5.out;omega⟩,⟨by (try simp only [hl3_1]);(try simp only [hl3_2]);(try simp only [hl3_4]);(try simp only [hl3_5]);exact Kd.R_mv (Kd.R_mono HO_3.out (fun _ hk=>⟨hk.2,hk.1⟩))⟩,⟨by (try simp only [hl3_1]);(try simp only [hl3_2]);(try simp only [hl3_4]);(try simp only [hl3_5]);exact Kd.Q_mv HO404.out⟩,⟨by (try simp only [hl3_1]);(try simp only [hl3_2]);(try simp only [hl3_4]);(try simp only [hl3_5]);exact Kd.R_mv HO_59.out⟩,⟨by (try simp only [hl3_1]);(try simp only [hl3_2]);(try simp only [hl3_4]);(try simp only [hl3_5]);exact km_ BK377⟩,⟨by (try simp only [hl3_1]);(try simp only [hl3_2]);(try simp only [hl3_4]);(try simp only [hl3_5]);exact km_ BK383⟩,⟨bm HB⟩⟩
                 ·rw [if_neg c58] at H;have c58b0:decide ((rd x3_5 (rd t394 x61_5)) < 0) = false:=decide_eq_false c58;clear c58;have H':=Aside0.mk H;clear H;have p397:0 ≤ (x61_5:Int):=of_decide_eq_true (by first | (with_reducible assumption) | assumption);have q397:x61_5 < (t394.length:Int):=of_decide_eq_true (by first | (with_reducible assumption) | assumption);obtain ⟨ad397,e397,hx397_0⟩:=Kd.at_int (Kd.R_reads' HO_59.out).2.2 x61_5 p397 q397;cases e397;replace p397:=eq_true p397;replace q397:=eq_true q397;have hnb67:=NB377_383.out;have hnc67:=NB383_377.out;obtain ⟨hcz68_0,hcz68_1,hcz68_2,hfz68_0,hfz68_1,hfz68_2⟩:=bt3 BK377;have p398:0 ≤ ((rd t394 x61_5):Int):=of_decide_eq_true (by first | (with_reducible assumption) | assumption);have q398:(rd t394 x61_5) < (l0_2.length:Int):=of_decide_eq_true (by first | (with_reducible assumption) | assumption);obtain ⟨ad398,e398,hx398_0,hx398_1⟩:=at_T27 HR0_2.out (rd t394 x61_5) p398 q398;obtain rfl:ad382 = ad398:=(by injection e398)
                  replace hx398_0:=(HB.out.cell (World.block_lt_of_cell? w _ hx398_0)).trans hx398_0;replace hx398_1:=(HB.out.cell (World.block_lt_of_cell? w _ hx398_1)).trans hx398_1;replace p398:=eq_true p398;replace q398:=eq_true q398;go_wp2_with (first | ((with_reducible refine gate_callee (f:=173) rfl ?_);refine gL_ (some 70) Try.func173 #[.agg #[.int .i64 ((rd_T27 l0_2 (rd t394 x61_5)).f0),.int .i64 ((rd_T27 l0_2 (rd t394 x61_5)).f1)]] (h:=?_);(with_reducible refine (impl_isGeared.calls ((rd_T27 l0_2 (rd t394 x61_5)).f0) ((rd_T27 l0_2 (rd t394 x61_5)).f1) true _ A55.out).mono ?_);rintro e w69 ⟨rfl,hb⟩;refine ⟨_,rfl,?_⟩;refine ev6 (Kd.R_below (Kd.R_mv HO_3.out) hb) (Kd.Q_below (Kd.Q_mv HO_8.out) hb) (Kd.R_below (Kd.R_mv HO_59.out) hb) (kb BK377 hb) (kb BK383 hb) (bs HB hb) ?_;clear HO_3 HO_8 HO_59 BK377 BK383 HB;intro HO_3 HO_8 HO_59 BK377 BK383 HB;(try clear hb);have p400:0 ≤ ((rd t394 x61_5):Int):=of_decide_eq_true (by first | (with_reducible assumption) | assumption);have q400:(rd t394 x61_5) < (x3_5.length:Int):=of_decide_eq_true (by first | (with_reducible assumption) | assumption);obtain ⟨ad400,e400,hx400_0⟩:=Kd.at_int (Kd.R_reads' HO_3.out).2.2 (rd t394 x61_5) p400 q400;obtain rfl:(⟨go35,0,none⟩:Addr) = ad400:=(by injection e400);(first | simp only [add_plain] at hx400_0 | simp only [add_at] at hx400_0 | simp only [Addr.add,Nat.zero_add] at hx400_0 | skip);replace p400:=eq_true p400;replace q400:=eq_true q400))
                  (try simp only [← hl3_5])
                  go_roundg k5
                  case measure=>have:=HK1.out;have:=HK2.out;have:=HJ18.out;have:=HK4.out;have:=HK5.out;omega
                  case rel=>exact ⟨(x3_5),(x8_5),(wrap64 (x61_5 + 1)),(by first | rfl | (simp;done) | (simp [*];done)),H',⟨by have:=HK1.out;have:=HK2.out;have:=HJ18.out;have:=HK4.out;have:=HK5.out;omega⟩,⟨by (try simp only [hl3_1]);(try simp only [hl3_2]);(try simp only [hl3_4]);(try simp only [hl3_5]);exact Kd.R_mv HO_3.out⟩,⟨by (try simp only [hl3_1]);(try simp only [hl3_2]);(try simp only [hl3_4]);(try simp only [hl3_5]);exact Kd.Q_mv HO_8.out⟩,⟨by (try simp only [hl3_1]);(try simp only [hl3_2]);(try simp only [hl3_4]);(try simp only [hl3_5]);exact Kd.R_mv HO_59.out⟩,⟨by (try simp only [hl3_1]);(try simp only [hl3_2]);(try simp only [hl3_4]);(try simp only [hl3_5]);exact km_ BK377⟩,⟨by (try simp only [hl3_1]);(try simp only [hl3_2]);(try simp only [hl3_4]);(try simp only [hl3_5]);exact km_ BK383⟩,⟨bm HB⟩⟩
                ·replace c56:=Bool.eq_false_iff.mpr c56;subst c56;have H1:(impl_groupNumbers.l3 k5 x3_5 x5_2 x8_5 l0_2 (l0_2.length:Int) x28_2 t394 (t394.length:Int) (wrap64 (x61_5 + 1)) a0_0 a0_1 l0_2) = some r:=by rw [if_neg (show ¬ (false = true) by decide)] at H;exact H
                 clear H;have H:=H1;clear H1;have H':=Aside0.mk H;clear H;have p397:0 ≤ (x61_5:Int):=of_decide_eq_true (by first | (with_reducible assumption) | assumption);have q397:x61_5 < (t394.length:Int):=of_decide_eq_true (by first | (with_reducible assumption) | assumption);obtain ⟨ad397,e397,hx397_0⟩:=Kd.at_int (Kd.R_reads' HO_59.out).2.2 x61_5 p397 q397;cases e397;replace p397:=eq_true p397;replace q397:=eq_true q397;have hnb70:=NB377_383.out;have hnc70:=NB383_377.out;obtain ⟨hcz71_0,hcz71_1,hcz71_2,hfz71_0,hfz71_1,hfz71_2⟩:=bt3 BK377;have p398:0 ≤ ((rd t394 x61_5):Int):=of_decide_eq_true (by first | (with_reducible assumption) | assumption);have q398:(rd t394 x61_5) < (l0_2.length:Int):=of_decide_eq_true (by first | (with_reducible assumption) | assumption);obtain ⟨ad398,e398,hx398_0,hx398_1⟩:=at_T27 HR0_2.out (rd t394 x61_5) p398 q398;obtain rfl:ad382 = ad398:=(by injection e398)
                 replace hx398_0:=(HB.out.cell (World.block_lt_of_cell? w _ hx398_0)).trans hx398_0;replace hx398_1:=(HB.out.cell (World.block_lt_of_cell? w _ hx398_1)).trans hx398_1;replace p398:=eq_true p398;replace q398:=eq_true q398;go_wp2_with (first | ((with_reducible refine gate_callee (f:=173) rfl ?_);refine gL_ (some 70) Try.func173 #[.agg #[.int .i64 ((rd_T27 l0_2 (rd t394 x61_5)).f0),.int .i64 ((rd_T27 l0_2 (rd t394 x61_5)).f1)]] (h:=?_);(with_reducible refine (impl_isGeared.calls ((rd_T27 l0_2 (rd t394 x61_5)).f0) ((rd_T27 l0_2 (rd t394 x61_5)).f1) false _ A55.out).mono ?_);rintro e w72 ⟨rfl,hb⟩;refine ⟨_,rfl,?_⟩;refine ev6 (Kd.R_below (Kd.R_mv HO_3.out) hb) (Kd.Q_below (Kd.Q_mv HO_8.out) hb) (Kd.R_below (Kd.R_mv HO_59.out) hb) (kb BK377 hb) (kb BK383 hb) (bs HB hb) ?_;clear HO_3 HO_8 HO_59 BK377 BK383 HB;intro HO_3 HO_8 HO_59 BK377 BK383 HB;(try clear hb)))
                 (try simp only [← hl3_5])
                 go_roundg k5
                 case measure=>have:=HK1.out;have:=HK2.out;have:=HJ18.out;have:=HK4.out;have:=HK5.out;omega
                 case rel=>exact ⟨(x3_5),(x8_5),(wrap64 (x61_5 + 1)),(by first | rfl | (simp;done) | (simp [*];done)),H',⟨by have:=HK1.out;have:=HK2.out;have:=HJ18.out;have:=HK4.out;have:=HK5.out;omega⟩,⟨by (try simp only [hl3_1]);(try simp only [hl3_2]);(try simp only [hl3_4]);(try simp only [hl3_5]);exact Kd.R_mv HO_3.out⟩,⟨by (try simp only [hl3_1]);(try simp only [hl3_2]);(try simp only [hl3_4]);(try simp only [hl3_5]);exact Kd.Q_mv HO_8.out⟩,⟨by (try simp only [hl3_1]);(try simp only [hl3_2]);(try simp only [hl3_4]);(try simp only [hl3_5]);exact Kd.R_mv HO_59.out⟩,⟨by (try simp only [hl3_1]);(try simp only [hl3_2]);(try simp only [hl3_4]);(try simp only [hl3_5]);exact km_ BK377⟩,⟨by (try simp only [hl3_1]);(try simp only [hl3_2]);(try simp only [hl3_4]);(try simp only [hl3_5]);exact km_ BK383⟩,⟨bm HB⟩⟩
               ·rw [if_neg c50] at H;have c50b0:decide (x61_5 < (t394.length:Int)) = false:=decide_eq_false c50;(try simp only [hl3_1] at c50b0)
                (try simp only [hl3_2] at c50b0)
                (try simp only [hl3_4] at c50b0)
                (try simp only [hl3_5] at c50b0)
                clear c50;have H':=Aside0.mk H;clear H;go_wp2;(try simp only [← hl3_4,← hl3_5])
                go_roundg k5
                case measure=>have:=HK1.out;have:=HK2.out;have:=HJ18.out;have:=HK4.out;have:=HK5.out;omega
                case rel=>exact ⟨(x3_5),(x8_5),H',⟨by have:=HK1.out;have:=HK2.out;have:=HJ18.out;have:=HK4.out;have:=HK5.out;omega⟩,⟨by (try simp only [hl3_1]);(try simp only [hl3_2]);(try simp only [hl3_4]);(try simp only [hl3_5]);exact Kd.R_mv (Kd.R_mono HO_3.out (fun _ hk=>hk.1))⟩,⟨by (try simp only [hl3_1]);(try simp only [hl3_2]);(try simp only [hl3_4]);(try simp only [hl3_5]);exact Kd.Q_mv (Kd.Q_mono HO_8.out (fun _ hk=>hk.1))⟩,⟨by (try simp only [hl3_1]);(try simp only [hl3_2]);(try simp only [hl3_4]);(try simp only [hl3_5]);exact km_ BK377⟩,⟨by (try simp only [hl3_1]);(try simp only [hl3_2]);(try simp only [hl3_4]);(try simp only [hl3_5]);exact km_ BK383⟩,⟨bm HB⟩⟩
            ·rw [if_neg c40] at H;have c40b0:decide (0 < (x8_4.length:Int)) = false:=decide_eq_false c40;have c40b1:decide (0 < x8_4.length) = false:=decide_eq_false (by omega);(try simp only [hl3_1] at c40b0 c40b1)
             (try simp only [hl3_2] at c40b0 c40b1)
             (try simp only [hl3_4] at c40b0 c40b1)
             clear c40;have H':=Aside0.mk H;clear H;obtain ⟨Ao73,co73,eo73,_⟩:=Kd.Q_slice HO_8.out;subst eo73;go_wp2;(try simp only [← hl3_2,← hl3_4])
             go_roundg k4
             case measure=>have:=HK1.out;have:=HK2.out;have:=HJ18.out;have:=HK4.out;omega
             case rel=>exact ⟨(x3_4),(wrap64 (x5_2 + 1)),(wrap64 (x28_2 + 1)),(by first | rfl | (simp;done) | (simp [*];done)),(by first | rfl | (simp;done) | (simp [*];done)),H',⟨by have:=HK1.out;have:=HK2.out;have:=HJ18.out;have:=HK4.out;omega⟩,⟨by (try simp only [hl3_1]);(try simp only [hl3_2]);(try simp only [hl3_4]);exact Kd.R_mv (Kd.R_mono (ok':=fun k_=>True) HO_3.out (fun _ hk=>trivial))⟩,⟨by (try simp only [hl3_1]);(try simp only [hl3_2]);(try simp only [hl3_4]);exact km_ BK377⟩,⟨bm HB⟩⟩
      ·rw [if_neg c16] at H;have c16b0:decide (x28_2 < (l0_2.length:Int)) = false:=decide_eq_false c16;(try simp only [hl3_1] at c16b0)
       (try simp only [hl3_2] at c16b0)
       clear c16;obtain rfl:=Option.some.inj H;go_wp2;go_ret;exact ⟨_,by first | rfl | (simp [e0_,e1_] <;> rfl) | (simp [*,e0_,e1_] <;> rfl),Kd.R_mv HO_3.out,bm HB⟩

/-! ### impl_unitsOf: function 147 -/
def impl_unitsOf.l0:Nat→List Int→List Int→List (List Int)→List (S27)→Int→Int→Option ((List (List Int)))
  | 0,_,_,_,_,_,_=>none
  | k + 1,g,x4,x6,x25,x26,x27=>if x27 < x26 then (if 0 ≤ x27 then (if x27 < (x25.length:Int) then (if ((rd_T27 x25 x27).f0) = 3 then (if x6.length < 1000000 then (impl_unitsOf.l0 k g x4 (x6 ++ [(([x27]:List Int))]) x25 x26 (wrap64 (x27 + 1))) else (none)) else (if ((rd_T27 x25 x27).f0) = 6 then (if x27 < (g.length:Int) then (if 0 ≤ rd g x27 then (if rd g x27 < (x4.length:Int) then (if rd x4 (rd g x27) < 0 then (if x6.length < 1000000 then (impl_unitsOf.l0 k g (x4.set (rd g x27).toNat (x6.length:Int)) (x6 ++ [(([x27]:List Int))]) x25 x26 (wrap64 (x27 + 1))) else (none)) else (if rd x4 (rd g x27) < (x6.length:Int) then (if (rd_L3 x6 (rd x4 (rd g x27))).length < 1000000 then (impl_unitsOf.l0 k g x4 (x6.set (rd x4 (rd g x27)).toNat ((rd_L3 x6 (rd x4 (rd g x27))) ++ [x27])) x25 x26 (wrap64 (x27 + 1))) else (none)) else (none))) else (none)) else (none)) else (none)) else (impl_unitsOf.l0 k g x4 x6 x25 x26 (wrap64 (x27 + 1))))) else (none)) else (none)) else (some x6)
def impl_unitsOf.f (k:Nat) (a0_0:Int) (a0_1:Int) (l0_2:List (S27)):Option ((List (List Int))):=(impl_groupNumbers.f k a0_0 a0_1 l0_2).bind fun t159=>(if l0_2.length ≤ 35184372088832 then (impl_unitsOf.l0 k t159 (List.replicate l0_2.length (-1)) ([]:List (List Int)) l0_2 (l0_2.length:Int) 0) else (none))
theorem impl_unitsOf.calls (k:Nat) (a0_0:Int) (a0_1:Int) (A0_2:Option Addr) (c0_2:Nat) (l0_2:List (S27)) (r:List (List Int)) (w:World) (hr0_2:Kd.C k27 w A0_2 l0_2.length l0_2) (hc0_2:l0_2.length ≤ c0_2) (h:impl_unitsOf.f k a0_0 a0_1 l0_2 = some r) :
    Calls Try.prog 147 #[.agg #[.int .i64 a0_0,.int .i64 a0_1,.slice A0_2 l0_2.length c0_2]] w fun e w'=>∃ v0_:Value,e = .returned (v0_)∧Kd.R (Kd.slice 3 (Kd.int .i64)) 35 w' w.heap.size (fun _=>True) v0_ r∧Below w.heap.size w w':=by
 haveI:MapT Try.prog 160 3 3 (.int .i64 0):=⟨by kernel_rfl,by kernel_rfl,fun w=>by kernel_rfl⟩
 haveI:TyIs Try.prog 3 (.int .i64):=⟨by kernel_rfl⟩
 have S:=St.init (w:=w) (dc k27_heap at27 hr0_2 hc0_2 dn)
 clear hr0_2 hc0_2
 have F:=S.fc
 have H:=h;clear h;unfold impl_unitsOf.f at H
 replace H:=Option.bind_eq_some_iff.mp H;obtain ⟨t159,A2,H⟩:=H;(try dsimp only at H)
 replace H:=np_ H;obtain ⟨c3,H⟩:=H
 go_enter Try.func147,Try.ntmps147
 go_wp2_with (first | ((with_reducible refine gd 1 rfl (L ?_));refine bo 1 (.agg #[_,_,_]) S ?_;clear S F;intro gb158 W S;have F:=S.fc) | ((with_reducible refine gate_callee (f:=148) rfl (L ?_));refine cl (some 11) Try.func148 (impl_groupNumbers.calls _ _ _ _ _ _ _ _ S.c S.n A2) (hargs:=by (simp only [ma_,mb_,mc_,F] <;> rfl)) (h:=?_);rintro e W ⟨v160,rfl,ho0,hb⟩;refine ⟨_,rfl,?_⟩;replace S:=S.got (atI .i64) hb ho0;obtain ⟨At159,ct159,rfl,S⟩:=S;clear F hb ho0;have F:=S.fc) | ((with_reducible refine gd 12 rfl (L ?_));refine mkm 12 S 3 3 (numR l0_2.length (List.replicate l0_2.length (-1))) (numR_nil (by omega)) ?_;clear S F;intro gm W S;have F:=S.fc) | ((with_reducible refine gd 13 rfl (L ?_));refine lia 13 (atU (d:=Kd.slice 3 (Kd.int .i64))) 35 S ([]:List (List Int)) (fun _ _=>(Reps.none _ _)) (by first | (go_simp;done) | (go_simp;rfl)) ?_;clear S F;intro A0 c0 W S;have F:=S.fc))
 obtain ⟨A0s,c0s,hA0,S⟩:∃ A c,Value.slice A0 ([]:List (List Int)).length c0 = .slice A 0 c∧St w w (fun _=>False) [bor at27 A0_2 c0_2 l0_2] _ [srow (Kd.slice 3 (Kd.int .i64)) 35 A 0 c [],imap Try.prog 160 3 3 gm l0_2.length (List.replicate l0_2.length (-1)),row (atI .i64) 3 At159 t159.length ct159 t159,box gb158 25 [.int .i64 a0_0,.int .i64 a0_1,.slice A0_2 l0_2.length c0_2]]:=⟨A0,c0,rfl,S.rs0⟩
 clear F;have F:=S.fc
 go_loopg [5,17] k (fun kq v6 v27 w'=>∃ (x4:List Int) (x6:List (List Int)) (i:Int) (A6:Option Addr) (c6:Nat),v27 = .int .i64 i∧v6 = .slice A6 x6.length c6∧impl_unitsOf.l0 kq t159 x4 x6 l0_2 (l0_2.length:Int) i = some r∧kq ≤ k∧St w w (fun _=>False) [bor at27 A0_2 c0_2 l0_2] w'  [srow (Kd.slice 3 (Kd.int .i64)) 35 A6 x6.length c6 x6,imap Try.prog 160 3 3 gm l0_2.length x4,row (atI .i64) 3 At159 t159.length ct159 t159,box gb158 25 [.int .i64 a0_0,.int .i64 a0_1,.slice A0_2 l0_2.length c0_2]])
 case atStart=>exact ⟨_,[],0,A0s,c0s,(by first | rfl | (simp;done) | (simp [*];done) | (rw [w6_ (by omega) (by omega)])),hA0,(by first | exact H | (simp only [F];exact H)),Nat.le_refl _,S⟩
 case round =>
  clear H S F
  obtain ⟨x4,x6,i,A6,c6,rfl,rfl,HA,HK2,S⟩:=hrel
  have F:=S.fc
  cases gk with
  | zero=>exact absurd HA (by simp [impl_unitsOf.l0])
  | succ k2 =>
   have H:=HA;clear HA;simp only [impl_unitsOf.l0,F] at H
   replace H:=sp_ H;rcases H with ⟨c19,H⟩ | ⟨c19,H⟩
   · skip
     replace H:=np_ H;obtain ⟨c20,H⟩:=H
     replace H:=np_ H;obtain ⟨c21,H⟩:=H
     replace H:=sp_ H;rcases H with ⟨c22,H⟩ | ⟨c22,H⟩
     · skip
       replace c22:=ceq c22
       replace H:=np_ H;obtain ⟨c23,H⟩:=H
       go_wp2_with (first | ((with_reducible refine gd 7 rfl (L ?_));refine al 7 S zi27 ?_;clear S F;intro gb167 W S;have F:=S.fc) | ((with_reducible refine gd 28 rfl (L ?_));refine lia 28 (atI .i64) 3 S ([i]:List Int) (fun _ _=>(Reps.one (show Kd.M (Kd.int .i64) _ _ _ i [.int .i64 i] from rfl) (Reps.none _ _))) (by first | (go_simp;done) | (go_simp;rfl)) ?_;clear S F;intro Ay168 cy168 W S;have F:=S.fc) | ((with_reducible refine gd 30 rfl (L ?_));refine aps (A:=A6) (A2:=Ay168) 30 S Try.underlying114 info35 ?_ (ho:=rfl) (hs:=rfl) (hx:=rfl);clear S F;intro Ay171 cy171 W S;have F:=S.fc) | ((with_reducible refine gs (t:=27) rfl (L ?_));(first | refine sb (.agg #[_,_]) S sz27 ?_ | refine ro (.agg #[_,_]) S sz27 ?_ (ho:=rfl) (hx:=rfl) (hy:=rfl));clear S F;intro W S;have F:=S.fc))
       go_roundg k2
       case measure=>omega
       case rel=>exact ⟨x4,_,(wrap64 (i + 1)),_,_,(by first | rfl | (simp;done) | (simp [*];done) | (rw [w6_ (by omega) (by omega)])),(by first | rfl | simp),(by first | exact H | (simp only [F];exact H)),(by first | omega | exact Nat.le_refl _),S.tl.tl⟩
     · skip
       replace c22:=cne c22
       replace H:=sp_ H;rcases H with ⟨c24,H⟩ | ⟨c24,H⟩
       · skip
         replace c24:=ceq c24
         replace H:=np_ H;obtain ⟨c25,H⟩:=H
         replace H:=np_ H;obtain ⟨c26,H⟩:=H
         replace H:=np_ H;obtain ⟨c27,H⟩:=H
         replace H:=sp_ H;rcases H with ⟨c28,H⟩ | ⟨c28,H⟩
         · skip
           replace H:=np_ H;obtain ⟨c29,H⟩:=H
           obtain ⟨y8,hy8⟩:∃ y8:List Int,y8 = [] ++ [i]:=⟨_,rfl⟩
           obtain ⟨x9,hx9⟩:∃ x9:List (List Int),x9 = x6 ++ [[]]:=⟨_,rfl⟩
           have Ny8:=Aside0.mk hy8;have Nx9:=Aside0.mk hx9;have l9:x9.length = x6.length + 1:=by rw [hx9];simp
           have g9:x9.getD (x6.length:Int).toNat [] = []:=by rw [hx9];simp
           have k9:(x6.length:Int) < (x9.length:Int):=by omega
           have k9':(0:Int) ≤ (x6.length:Int):=by omega
           have L9:=Aside0.mk l9;clear hy8 hx9 l9
           go_wp2_with (first | ((with_reducible refine gd 7 rfl (L ?_));refine al 7 S zi27 ?_;clear S F;intro gb167 W S;have F:=S.fc) | (at_mapUpdate;refine L ?_;refine mu (g:=gm) (numR l0_2.length (x4.set (rd t159 i).toNat (x6.length:Int))) S (plainElem_int (e:=3) (q:=.i64) (by kernel_rfl) (wf_lk (by omega) (by omega))) (numR_put c26 c27 c28 (by omega)) ?_;clear S F;intro W S;have F:=S.fc) | ((with_reducible refine gd 54 rfl (L ?_));refine apsn (A:=A6) 54 S Try.underlying114 info35 ?_ (ho:=rfl) (hs:=rfl) (hx:=rfl);clear S F;intro A9 c9 W S;rw [← Nx9.out] at S ⊢;replace S:=S.spl A9 (atI .i64) (x6.length:Int) ([]:List Int) g9 k9' k9;obtain ⟨A7,c7,S⟩:=S;have F:=S.fc;simp only [Int.toNat_natCast] at F) | ((with_reducible refine gd 63 rfl (L ?_));refine apa (A:=A7) 63 S Try.underlying35 info3 ?_ (ho:=rfl) (hs:=rfl) (hx:=rfl) (hl:=by decide);clear S F;intro A8 c8 W S;rw [← Ny8.out] at S ⊢;have F:=S.fc) | ((with_reducible refine gs (t:=35) rfl (L ?_));refine sh (A:=A9) (.slice A8 _ _) S sz35 ?_;clear S F;intro W S;replace S:=S.joi A9 A8;have F:=S.fc) | ((with_reducible refine gs (t:=27) rfl (L ?_));(first | refine sb (.agg #[_,_]) S sz27 ?_ | refine ro (.agg #[_,_]) S sz27 ?_ (ho:=rfl) (hx:=rfl) (hy:=rfl));clear S F;intro W S;have F:=S.fc))
           have l9:=L9.out
           have hw:x9.set (x6.length:Int).toNat y8 = x6 ++ [[i]]:=by rw [Nx9.out,Ny8.out];simp
           have S2:=S.tl.tl
           rw [hw,show x9.length = (x6 ++ [[i]]).length by rw [l9];simp] at S2
           go_roundg k2
           case measure=>omega
           case rel=>exact ⟨_,_,(wrap64 (i + 1)),_,_,(by first | rfl | (simp;done) | (simp [*];done) | (rw [w6_ (by omega) (by omega)])),(by simp [l9]),(by first | exact H | (simp only [F];exact H)),(by first | omega | exact Nat.le_refl _),S2⟩
         · skip
           replace H:=np_ H;obtain ⟨c30,H⟩:=H
           replace H:=np_ H;obtain ⟨c31,H⟩:=H
           have c32:0 ≤ rd x4 (rd t159 i):=by omega
           obtain ⟨A7,c7,S⟩:=S.spl A6 (atI .i64) (rd x4 (rd t159 i)) (rd_L3 x6 (rd x4 (rd t159 i)))
           obtain ⟨y8,hy8⟩:∃ y8:List Int,y8 = rd_L3 x6 (rd x4 (rd t159 i)) ++ [i]:=⟨_,rfl⟩
           have Ny8:=Aside0.mk hy8;clear hy8
           clear F;have F:=S.fc
           go_wp2_with (first | ((with_reducible refine gd 7 rfl (L ?_));refine al 7 S zi27 ?_;clear S F;intro gb167 W S;have F:=S.fc) | ((with_reducible refine gd 63 rfl (L ?_));refine apa (A:=A7) 63 S Try.underlying35 info3 ?_ (ho:=rfl) (hs:=rfl) (hx:=rfl);clear S F;intro A8 c8 W S;rw [← Ny8.out] at S ⊢;have F:=S.fc) | ((with_reducible refine gs (t:=35) rfl (L ?_));refine sh (A:=A6) (.slice A8 _ _) S sz35 ?_;clear S F;intro W S;replace S:=S.joi A6 A8;have F:=S.fc) | ((with_reducible refine gs (t:=27) rfl (L ?_));(first | refine sb (.agg #[_,_]) S sz27 ?_ | refine ro (.agg #[_,_]) S sz27 ?_ (ho:=rfl) (hx:=rfl) (hy:=rfl));clear S F;intro W S;have F:=S.fc))
           rw [Ny8.out] at S
           obtain ⟨y6,hy6⟩:∃ y6,y6 = x6.set (rd x4 (rd t159 i)).toNat (rd_L3 x6 (rd x4 (rd t159 i)) ++ [i]):=⟨_,rfl⟩
           have hl:x6.length = y6.length:=by rw [hy6,List.length_set]
           rw [← hy6,hl] at S;rw [← hy6] at H
           go_roundg k2
           case measure=>omega
           case rel=>exact ⟨x4,y6,(wrap64 (i + 1)),_,_,(by first | rfl | (simp;done) | (simp [*];done) | (rw [w6_ (by omega) (by omega)])),(by rw [hl]),(by first | exact H | (simp only [F];exact H)),(by first | omega | exact Nat.le_refl _),S.tl.tl⟩
       · skip
         replace c24:=cne c24
         go_wp2_with (first | ((with_reducible refine gd 7 rfl (L ?_));refine al 7 S zi27 ?_;clear S F;intro gb167 W S;have F:=S.fc) | ((with_reducible refine gs (t:=27) rfl (L ?_));(first | refine sb (.agg #[_,_]) S sz27 ?_ | refine ro (.agg #[_,_]) S sz27 ?_ (ho:=rfl) (hx:=rfl) (hy:=rfl));clear S F;intro W S;have F:=S.fc))
         go_roundg k2
         case measure=>omega
         case rel=>exact ⟨x4,x6,(wrap64 (i + 1)),_,_,(by first | rfl | (simp;done) | (simp [*];done) | (rw [w6_ (by omega) (by omega)])),rfl,(by first | exact H | (simp only [F];exact H)),(by first | omega | exact Nat.le_refl _),S.tl⟩
   · skip
     obtain rfl:=Option.some.inj H
     go_wp2
     go_ret
     exact ⟨_,(by first | rfl | (simp [e0_,e1_] <;> rfl) | (simp [*,e0_,e1_] <;> rfl)),(S.sr A6 (atU (d:=Kd.slice 3 (Kd.int .i64)))).r,S.below⟩

/-! ### impl_goesBack: function 104 -/
def impl_goesBack.f (k:Nat) (a0_0:Int) (a0_1:Int) (l0_2:List (S27)) (a1:Int):Option (Bool):=(impl_validEntry.f k a0_0 a0_1 l0_2 a1).bind fun t421=>(if t421 = true then ((impl_unitsOf.f k a0_0 a0_1 l0_2).bind fun t422=>(some (decide ((t422.length:Int) ≤ 10)))) else (some false))
theorem impl_goesBack.calls (k:Nat) (a0_0:Int) (a0_1:Int) (A0_2:Option Addr) (c0_2:Nat) (l0_2:List (S27)) (a1:Int) (r:Bool) (w:World) (hr0_2:Kd.C k27 w A0_2 l0_2.length l0_2) (hc0_2:l0_2.length ≤ c0_2) (h:impl_goesBack.f k a0_0 a0_1 l0_2 a1 = some r) :
    Calls Try.prog 104 #[.agg #[.int .i64 a0_0,.int .i64 a0_1,.slice A0_2 l0_2.length c0_2],.int .i64 a1] w fun e w'=>e = .returned (.bool r)∧Below w.heap.size w w':=by
 have S:=St.init (w:=w) (dc k27_heap at27 hr0_2 hc0_2 dn)
 clear hr0_2 hc0_2
 have F:=S.fc
 have H:=h;clear h;unfold impl_goesBack.f at H
 replace H:=Option.bind_eq_some_iff.mp H;obtain ⟨t421,A3,H⟩:=H;(try dsimp only at H)
 replace H:=sp_ H;rcases H with ⟨c4,H⟩ | ⟨c4,H⟩
 · skip
   subst c4
   replace H:=Option.bind_eq_some_iff.mp H;obtain ⟨t422,A5,H⟩:=H;(try dsimp only at H)
   obtain rfl:=Option.some.inj H
   go_enter Try.func104,Try.ntmps104
   go_wp2_with (first | ((with_reducible refine gd 2 rfl (L ?_));refine bo 2 (.agg #[_,_,_]) S ?_;clear S F;intro gb420 W S;have F:=S.fc) | ((with_reducible refine gate_callee (f:=146) rfl (L ?_));refine cl (some 7) Try.func146 (impl_validEntry.calls _ _ _ _ _ _ _ _ _ S.c S.n A3) (hargs:=by (simp only [ma_,mb_,mc_,F] <;> rfl)) (h:=?_);rintro e W ⟨rfl,hb⟩;refine ⟨_,rfl,?_⟩;replace S:=S.go hb;clear F hb;have F:=S.fc) | (go_at_call 147;(try simp only [F]);refine (impl_unitsOf.calls _ _ _ _ _ _ _ _ S.c S.n A5).mono ?_;rintro e W ⟨v423,rfl,ho0,hb⟩;replace S:=S.got (atU (d:=Kd.slice 3 (Kd.int .i64))) hb ho0;obtain ⟨At422,ct422,rfl,S⟩:=S;clear F hb ho0;replace S:=S.fzr At422 rfl;have F:=S.fc))
   go_ret
   exact ⟨(by first | rfl | (simp [e0_,e1_] <;> rfl) | (simp [*,e0_,e1_] <;> rfl)),S.below⟩
 · skip
   replace c4:=cbf c4;subst c4
   obtain rfl:=Option.some.inj H
   go_enter Try.func104,Try.ntmps104
   go_wp2_with (first | ((with_reducible refine gd 2 rfl (L ?_));refine bo 2 (.agg #[_,_,_]) S ?_;clear S F;intro gb420 W S;have F:=S.fc) | ((with_reducible refine gate_callee (f:=146) rfl (L ?_));refine cl (some 7) Try.func146 (impl_validEntry.calls _ _ _ _ _ _ _ _ _ S.c S.n A3) (hargs:=by (simp only [ma_,mb_,mc_,F] <;> rfl)) (h:=?_);rintro e W ⟨rfl,hb⟩;refine ⟨_,rfl,?_⟩;replace S:=S.go hb;clear F hb;have F:=S.fc))
   go_ret
   exact ⟨(by first | rfl | (simp [e0_,e1_] <;> rfl) | (simp [*,e0_,e1_] <;> rfl)),S.below⟩

/-! ### impl_copyBoard: function 80 -/
def impl_copyBoard.f (a0_0:Int) (a0_1:Int) (l0_2:List (S27)):Option (Int × Int × (List (S27))):=(some (([]:List (S27)):List (S27))).bind fun y433=>(if y433.length + l0_2.length < 8796093022208 then (some (a0_0,a0_1,(y433 ++ l0_2))) else (none))
theorem impl_copyBoard.calls (a0_0:Int) (a0_1:Int) (A0_2:Option Addr) (c0_2:Nat) (l0_2:List (S27)) (r1:Int) (r2:Int) (r3:List (S27)) (w:World) (hr0_2:Kd.C k27 w A0_2 l0_2.length l0_2) (hc0_2:l0_2.length ≤ c0_2) (h:impl_copyBoard.f a0_0 a0_1 l0_2 = some (r1,r2,r3)) :
    Calls Try.prog 80 #[.agg #[.int .i64 a0_0,.int .i64 a0_1,.slice A0_2 l0_2.length c0_2]] w fun e w'=>∃ v2_:Value,e = .returned (.agg #[.int .i64 r1,.int .i64 r2,v2_])∧Kd.R k27 27 w' w.heap.size (fun _=>True) v2_ r3∧Below w.heap.size w w':=by
 have S:=St.init (w:=w) (dc k27_heap at27 hr0_2 hc0_2 dn)
 clear hr0_2 hc0_2
 have F:=S.fc
 have H:=h;clear h;unfold impl_copyBoard.f at H
 (first | (with_reducible replace H:=ob_ H;obtain ⟨y433,hy433,H⟩:=H;(try dsimp only at H)) | (obtain ⟨y433,hy433⟩:∃ y_:List (S27),y_ = (([]:List (S27))):=⟨_,rfl⟩;(try rw [← hy433] at H);(try simp only [Option.bind_some] at H)));have Ny433:=Aside0.mk hy433;clear hy433
 replace H:=np_ H;obtain ⟨c2,H⟩:=H
 (first | (with_reducible replace H:=ob_ H;obtain ⟨y436,hy436,H⟩:=H;(try dsimp only at H)) | (obtain ⟨y436,hy436⟩:∃ y_:List (S27),y_ = (y433 ++ l0_2):=⟨_,rfl⟩;(try rw [← hy436] at H);(try simp only [Option.bind_some] at H)));have Ny436:=Aside0.mk hy436;clear hy436
 simp only [Option.some.injEq,Prod.mk.injEq] at H
 obtain ⟨rfl,rfl,rfl⟩:=H
 go_enter Try.func80,Try.ntmps80
 go_wp2_with (first | ((with_reducible refine gd 1 rfl (L ?_));refine bo 1 (.agg #[_,_,_]) S ?_;clear S F;intro gb431 W S;have F:=S.fc) | ((with_reducible refine gd 2 rfl (L ?_));refine al 2 S zi25 ?_;clear S F;intro gb432 W S;have F:=S.fc) | ((with_reducible refine gs (t:=25) rfl (L ?_));(first | refine sb (.agg #[_,_,_]) S sz25 ?_ | refine ro (.agg #[_,_,_]) S sz25 ?_ (ho:=rfl) (hx:=rfl) (hy:=rfl));clear S F;intro W S;(try rw [← Ny436.out] at S);have F:=S.fc))
 refine rgP S (fun _ S=>S.tl) [(0,0),(0,2),(0,5),(1,1),(1,3),(1,6),(2,4),(2,7),(0,8),(2,9)] [] (by kernel_rfl) (by kernel_rfl) (fun _ d _ _ _ h=>by cases d <;> exact h) ?_;clear S F;intro W S;have S0:=S.tl;have F:=S.fc
 repeat (first | (refine q0 (h:=?_)) | (refine q1 S0 (h:=?_)) | (refine q0n (h:=?_)) | (refine q1n S0 (h:=?_)))
 refine lk2 (by rfl) (by exact (Eq.refl true)) ?_;refine lia 7 at27 27 S ([]:List (S27)) (fun _ _=>(Reps.none _ _)) (by first | (go_simp;done) | (go_simp;rfl)) ?_;clear S F;intro Ay433 cy433 W S;(try rw [← Ny433.out] at S ⊢);(try rw [← Ny436.out] at S ⊢);have F:=S.fc
 clear S0;have S0:=S.tl.tl;refine ⟨S0,?_⟩
 refine lk2 (by rfl) (by exact (Eq.refl true)) ?_;refine apr (A:=Ay433) (ys:=l0_2) 10 S Try.underlying23 info27 S.c ?_ (ho:=rfl) (hs:=rfl) (hx:=rfl);clear S F;intro Ay436 cy436 W S;(try rw [← Ny436.out] at S ⊢);have F:=S.fc
 clear S0;have S0:=S.tl.tl;refine ⟨S0,?_⟩
 repeat (first | (refine q0 (h:=?_)) | (refine q1 S0 (h:=?_)) | (refine q0n (h:=?_)) | (refine q1n S0 (h:=?_)))
 refine lk2 (by rfl) (by exact (Eq.refl true)) ?_;(first | refine sb (.agg #[_,_,_]) S sz25 ?_ | refine ro (.agg #[_,_,_]) S sz25 ?_ (ho:=rfl) (hx:=rfl) (hy:=rfl));clear S F;intro W S;(try rw [← Ny436.out] at S);have F:=S.fc
 clear S0;have S0:=S.tl.tl;refine ⟨S0,?_⟩
 refine oz ?_
 try clear S0
 go_wp2_with (first | ((with_reducible refine gs (t:=25) rfl (L ?_));(first | refine sb (.agg #[_,_,_]) S sz25 ?_ | refine ro (.agg #[_,_,_]) S sz25 ?_ (ho:=rfl) (hx:=rfl) (hy:=rfl));clear S F;intro W S;(try rw [← Ny436.out] at S);have F:=S.fc))
 refine bodyPost_ret (results_cell_row rfl _ _ gb432 25 #[.int .i64 a0_0,.int .i64 a0_1,.slice Ay436 y436.length cy436] (0,0) _ rfl S.hb Try.underlying25 rfl (by kernel_rfl)) rfl ?_
 exact ⟨_,(by first | rfl | (simp [e0_,e1_] <;> rfl) | (simp [*,e0_,e1_] <;> rfl)),(by first | exact S.r | exact Kd.R_nil _ _ _ _ _),S.below⟩

/-! ### impl_numberOf: function 110 -/
def impl_numberOf.l0:Nat→Int→List Int→Int→Int→Option (Int)
 | 0,_,_,_,_=>none
 | k + 1,x3,x6,x7,x8=>if x8 < x7 then (if 0 ≤ x8 then (if x8 < (x6.length:Int) then (impl_numberOf.l0 k (Go.bits .or .i64 x3 (shl .i64 (rd x6 x8) x8)) x6 x7 (wrap64 (x8 + 1))) else (none)) else (none)) else (some x3)
def impl_numberOf.f (k:Nat) (l0:List Int):Option (Int):=impl_numberOf.l0 k 0 l0 (l0.length:Int) 0
theorem impl_numberOf.calls (k:Nat) (A0:Option Addr) (c0:Nat) (l0:List Int) (r:Int) (w:World) (hr0:Kd.C (Kd.int .i64) w A0 l0.length l0) (hc0:l0.length ≤ c0) (h:impl_numberOf.f k l0 = some r) :
  Calls Try.prog 110 #[.slice A0 l0.length c0] w fun e w'=>e = .returned (.int .i64 r)∧Drawn0 w w':=by
 have HR0:=Aside0.mk hr0;have HC0:=Aside0.mk hc0;clear hr0 hc0;have H:(impl_numberOf.l0 k 0 l0 (l0.length:Int) 0) = some r:=h;clear h;have H':=Aside0.mk H;clear H;go_enter Try.func110,Try.ntmps110;go_wp2;go_loopg [3,8] k (fun kq v3 v8 w'=>∃ (x3_1:Int) (x8_1:Int),v3 = .int .i64 x3_1∧v8 = .int .i64 x8_1∧Aside0 (impl_numberOf.l0 kq x3_1 l0 (l0.length:Int) x8_1 = some r)∧Aside0 (kq ≤ k)∧Drawn0 w w')
 case atStart=>exact ⟨(0),(0),(by first | rfl | (simp;done) | (simp [*];done)),(by first | rfl | (simp;done) | (simp [*];done)),H',⟨Nat.le_refl _⟩,by repeat (first | exact Drawn0.refl _ | apply Drawn0.step)⟩
 case round =>
  clear H';(try clear c1);obtain ⟨x3_1,x8_1,rfl,rfl,HA,HK1,⟨m1,rfl⟩⟩:=hrel;cases gk with
  | zero=>exact absurd HA.out (by simp [impl_numberOf.l0])
  | succ k1 =>
   have H:=HA.out;clear HA;simp only [impl_numberOf.l0] at H;by_cases c2:x8_1 < (l0.length:Int)
   ·rw [if_pos c2] at H;have c2b0:decide (x8_1 < (l0.length:Int)) = true:=decide_eq_true c2;clear c2;replace H:=np_ H;obtain ⟨c3,H⟩:=H;have c3b0:decide (0 ≤ x8_1) = true:=decide_eq_true c3;clear c3;replace H:=np_ H;obtain ⟨c4,H⟩:=H;have c4b0:decide (x8_1 < (l0.length:Int)) = true:=decide_eq_true c4;clear c4;have c5b0:=eq_true (of_decide_eq_true (by first | (with_reducible assumption) | assumption):0 ≤ x8_1);obtain ⟨ji6,hji6⟩:∃ j_:Int,(shl .i64 (rd l0 x8_1) x8_1) = j_:=⟨_,rfl⟩
    replace H:(impl_numberOf.l0 k1 (Go.bits .or .i64 x3_1 (ji6)) l0 (l0.length:Int) (wrap64 (x8_1 + 1))) = some r:=by first | (rw [hji6] at H;exact H) | (simp only [hji6] at H ⊢;exact H)
    have hji6_:(IntKind.i64.wrap ((rd l0 x8_1) * 2 ^ min x8_1.toNat 64)) = ji6:=hji6;have hji6z:x8_1 ≤ 64→(IntKind.i64.wrap ((rd l0 x8_1) * 2 ^ x8_1.toNat)) = ji6:=shl_small hji6;have hji6y:(wrap64 ((rd l0 x8_1) * 2 ^ min x8_1.toNat 64)) = ji6:=(i64_w _).symm.trans hji6_;have hji6x:x8_1 ≤ 64→(wrap64 ((rd l0 x8_1) * 2 ^ x8_1.toNat)) = ji6:=fun h_=>(i64_w _).symm.trans (hji6z h_);have H':=Aside0.mk H;clear H;have p439:0 ≤ (x8_1:Int):=of_decide_eq_true (by first | (with_reducible assumption) | assumption);have q439:x8_1 < (l0.length:Int):=of_decide_eq_true (by first | (with_reducible assumption) | assumption);obtain ⟨ad439,e439,hx439_0⟩:=Kd.at_int HR0.out x8_1 p439 q439;cases e439;replace p439:=eq_true p439;replace q439:=eq_true q439;go_wp2;go_roundg k1
    case measure=>have:=HK1.out;omega
    case rel=>exact ⟨(Go.bits .or .i64 x3_1 (ji6)),(wrap64 (x8_1 + 1)),(by first | rfl | (simp;done) | (simp only [← hji6] <;> (first | rfl | simp)) | (simp [*];done)),(by first | rfl | (simp;done) | (simp [*];done)),H',⟨by have:=HK1.out;omega⟩,by repeat (first | exact Drawn0.refl _ | apply Drawn0.step)⟩
   ·rw [if_neg c2] at H;have c2b0:decide (x8_1 < (l0.length:Int)) = false:=decide_eq_false c2;clear c2;obtain rfl:=Option.some.inj H;go_wp2;go_ret;exact ⟨by first | rfl | (simp;done) | (simp [*];done),by repeat (first | exact Drawn0.refl _ | apply Drawn0.step)⟩

/-! ### impl_setBits: function 149 -/
mutual
def impl_setBits.l0:Nat→List Int→List (List Int)→Int→Int→Int→Int→List (S27)→Option ((List (S27)))
  | 0,_,_,_,_,_,_,_=>none
  | k + 1,x2,x10,x11,x12,x441000,x441001,x441002=>if x12 < x11 then (if 0 ≤ x12 then (if x12 < (x10.length:Int) then (if 0 < ((rd_L3 x10 x12).length:Int) then (if 0 ≤ (rd (rd_L3 x10 x12) 0) then (if (rd (rd_L3 x10 x12) 0) < (x441002.length:Int) then (if x12 < (x2.length:Int) then (if ((rd_T27 x441002 (rd (rd_L3 x10 x12) 0)).f1) = (rd x2 x12) then (impl_setBits.l0 k x2 x10 x11 (wrap64 (x12 + 1)) x441000 x441001 x441002) else (impl_setBits.l1 k x2 x10 x11 x12 (rd_L3 x10 x12) ((rd_L3 x10 x12).length:Int) 0 x441000 x441001 x441002)) else (none)) else (none)) else (none)) else (none)) else (none)) else (none)) else (some x441002)
def impl_setBits.l1:Nat→List Int→List (List Int)→Int→Int→List Int→Int→Int→Int→Int→List (S27)→Option ((List (S27)))
  | 0,_,_,_,_,_,_,_,_,_,_=>none
  | k + 1,x2,x10,x11,x12,u,n,j,x441000,x441001,x441002=>if j < n then (if 0 ≤ j then (if j < (u.length:Int) then (if 0 ≤ rd u j then (if rd u j < (x441002.length:Int) then (impl_setBits.l1 k x2 x10 x11 x12 u n (wrap64 (j + 1)) x441000 x441001 (x441002.set (rd u j).toNat (⟨(rd_T27 x441002 (rd u j)).f0,wrap64 (1 - ((rd_T27 x441002 (rd u j)).f1))⟩:S27))) else (none)) else (none)) else (none)) else (none)) else (impl_setBits.l0 k x2 x10 x11 (wrap64 (x12 + 1)) x441000 x441001 x441002)
end
def impl_setBits.f (k:Nat) (a0_0:Int) (a0_1:Int) (l0_2:List (S27)) (l1:List (List Int)) (l2:List Int):Option ((List (S27))):=impl_setBits.l0 k l2 l1 (l1.length:Int) 0 a0_0 a0_1 l0_2
theorem impl_setBits.calls (k:Nat) (a0_0:Int) (a0_1:Int) (P0_2_:Nat→Prop) (u9000_:Value) (l0_2:List (S27)) (A1:Option Addr) (c1:Nat) (l1:List (List Int)) (A2:Option Addr) (c2:Nat) (l2:List Int) (r:List (S27)) (w0 w:World) (hB:Below w0.heap.size w0 w) (ho0_2:Kd.R k27 27 w w0.heap.size P0_2_ u9000_ l0_2) (hr1:∀ W_,Kept w W_ (fun k_=>P0_2_ k_)→Kd.C (Kd.slice 3 (Kd.int .i64)) W_ A1 l1.length l1) (hc1:l1.length ≤ c1) (hr2:∀ W_,Kept w W_ (fun k_=>P0_2_ k_)→Kd.C (Kd.int .i64) W_ A2 l2.length l2) (hc2:l2.length ≤ c2) (h:impl_setBits.f k a0_0 a0_1 l0_2 l1 l2 = some r) :
    Calls Try.prog 149 #[.agg #[.int .i64 a0_0,.int .i64 a0_1,u9000_],.slice A1 l1.length c1,.slice A2 l2.length c2] w fun e w'=>e = .returned (.tuple #[])∧Kd.R k27 27 w' w0.heap.size (fun k_=>(P0_2_ k_∨w.heap.size ≤ k_)) u9000_ r∧Below w0.heap.size w0 w'∧Kept w w' (fun k_=>P0_2_ k_):=by
 obtain ⟨Al0_2,cl0_2,rfl⟩:=Kd.R_slice ho0_2
 have S:=St.own1 at27 hB ho0_2 (dk (atU (d:=Kd.slice 3 (Kd.int .i64))) hr1 hc1 (dk (atI .i64) hr2 hc2 dn))
 clear hB ho0_2 hr1 hc1 hr2 hc2
 have F:=S.fc
 have H:=h;clear h;unfold impl_setBits.f at H
 go_enter Try.func149,Try.ntmps149
 go_wp2_with (first | ((with_reducible refine gd 3 rfl (L ?_));refine bo 3 (.agg #[_,_,_]) S ?_;clear S F;intro gb440 W S;have F:=S.fc))
 go_loopg [12] k (fun kq v12 w'=>∃ (x12_1:Int) (x441002_1:List (S27)),v12 = .int .i64 x12_1∧impl_setBits.l0 kq l2 l1 (l1.length:Int) x12_1 a0_0 a0_1 x441002_1 = some r∧kq ≤ k∧St w0 w P0_2_ [bor (atU (d:=Kd.slice 3 (Kd.int .i64))) A1 c1 l1,bor (atI .i64) A2 c2 l2] w'  [box gb440 25 [.int .i64 a0_0,.int .i64 a0_1,.slice Al0_2 l0_2.length cl0_2],row at27 27 Al0_2 l0_2.length cl0_2 x441002_1])
 case atStart=>exact ⟨0,l0_2,(by first | rfl | (simp;done) | (simp [*];done) | (rw [w6_ (by omega) (by omega)])),(by first | exact H | (simp only [F];exact H)),Nat.le_refl _,S⟩
 case round =>
  clear H S F
  obtain ⟨x12_1,x441002_1,rfl,HA,HK1,S⟩:=hrel
  have F:=S.fc
  cases gk with
  | zero=>exact absurd HA (by simp [impl_setBits.l0])
  | succ k1 =>
   have H:=HA;clear HA;simp only [impl_setBits.l0,F] at H
   replace H:=sp_ H;rcases H with ⟨c6,H⟩ | ⟨c6,H⟩
   · skip
     replace H:=np_ H;obtain ⟨c7,H⟩:=H
     replace H:=np_ H;obtain ⟨c8,H⟩:=H
     replace H:=np_ H;obtain ⟨c9,H⟩:=H
     have m0_:0 < (rd_L3 l1 x12_1).length:=by omega
     replace H:=np_ H;obtain ⟨c10,H⟩:=H
     replace H:=np_ H;obtain ⟨c11,H⟩:=H
     replace H:=np_ H;obtain ⟨c12,H⟩:=H
     obtain ⟨A5,c5,S⟩:=S.inn l1 (atZ .i64) x12_1 (rd_L3 l1 x12_1)
     clear F;have F:=S.fc
     replace H:=sp_ H;rcases H with ⟨c13,H⟩ | ⟨c13,H⟩
     · skip
       replace c13:=ceq c13
       go_wp2
       refine rq S [(0,0),(0,2),(0,3),(0,8),(0,9),(0,10),(1,1),(1,4),(0,5),(0,6),(1,7),(1,11),(0,12)] [] (h:=?_);clear S F;intro W S;have S0:=S;have F:=S.fc
       repeat (first | (refine q0 (h:=?_)) | (refine q1 S0 (h:=?_)) | (refine q0n (h:=?_)) | (refine q1n S0 (h:=?_)))
       refine oz ?_
       try clear S0
       go_wp2
       go_roundg k1
       case measure=>omega
       case rel=>exact ⟨(wrap64 (x12_1 + 1)),x441002_1,(by first | rfl | (simp;done) | (simp [*];done) | (rw [w6_ (by omega) (by omega)])),(by first | exact H | (simp only [F];exact H)),(by first | omega | exact Nat.le_refl _),(S.dk [2,3])⟩
     · skip
       replace c13:=cne c13
       go_wp2
       refine rq S [(0,0),(0,2),(0,3),(0,8),(0,9),(0,10),(1,1),(1,4),(0,5),(0,6),(1,7),(1,11),(0,12)] [] (h:=?_);clear S F;intro W S;have S0:=S;have F:=S.fc
       repeat (first | (refine q0 (h:=?_)) | (refine q1 S0 (h:=?_)) | (refine q0n (h:=?_)) | (refine q1n S0 (h:=?_)))
       refine oz ?_
       try clear S0
       go_wp2
       go_loopg [32] k1 (fun kq v32 w'=>∃ (j:Int) (ys:List (S27)),v32 = .int .i64 j∧impl_setBits.l1 kq l2 l1 (l1.length:Int) x12_1 (rd_L3 l1 x12_1) ((rd_L3 l1 x12_1).length:Int) j a0_0 a0_1 ys = some r∧kq ≤ k1∧St w0 w P0_2_ [bcell ((adr A1).add (x12_1).toNat) (.slice A5 (rd_L3 l1 x12_1).length c5),bor (atZ .i64) A5 c5 (rd_L3 l1 x12_1),bor (atU (d:=Kd.slice 3 (Kd.int .i64))) A1 c1 l1,bor (atI .i64) A2 c2 l2] w'  [box gb440 25 [.int .i64 a0_0,.int .i64 a0_1,.slice Al0_2 l0_2.length cl0_2],row at27 27 Al0_2 l0_2.length cl0_2 ys])
       case atStart=>exact ⟨0,_,(by first | rfl | (simp;done) | (simp [*];done) | (rw [w6_ (by omega) (by omega)])),(by first | exact H | (simp only [F];exact H)),Nat.le_refl _,S⟩
       case round =>
        clear H S F
        obtain ⟨j,ys,rfl,HA,HK2,S⟩:=hrel
        have F:=S.fc
        cases gk with
        | zero=>exact absurd HA (by simp [impl_setBits.l1])
        | succ k2 =>
         have H:=HA;clear HA;simp only [impl_setBits.l1,F] at H
         replace H:=sp_ H;rcases H with ⟨c14,H⟩ | ⟨c14,H⟩
         · skip
           replace H:=np_ H;obtain ⟨c15,H⟩:=H
           replace H:=np_ H;obtain ⟨c16,H⟩:=H
           replace H:=np_ H;obtain ⟨c17,H⟩:=H
           replace H:=np_ H;obtain ⟨c18,H⟩:=H
           obtain ⟨y446,hy446⟩:∃ y_:List (S27),y_ = (ys.set (rd (rd_L3 l1 x12_1) j).toNat (⟨(rd_T27 ys (rd (rd_L3 l1 x12_1) j)).f0,wrap64 (1 - ((rd_T27 ys (rd (rd_L3 l1 x12_1) j)).f1))⟩:S27)):=⟨_,rfl⟩
           rw [← hy446] at H;have Ny446:=Aside0.mk hy446;clear hy446
           go_wp2
           refine rq S [(0,0),(0,2),(0,3),(0,5),(1,1),(1,4),(0,6),(0,7),(1,8),(0,9),(0,10),(0,11),(3,12)] [12] (h:=?_);clear S F;intro W S;have S0:=S;have F:=S.fc
           repeat (first | (refine q0 (h:=?_)) | (refine q1 S0 (h:=?_)) | (refine q0n (h:=?_)) | (refine q1n S0 (h:=?_)))
           refine lk3 (by rfl) (by exact (Eq.refl true)) ?_;(first | refine sb (.int _ _) S sz3 ?_ | refine ro (.int _ _) S sz3 ?_ (ho:=rfl) (hx:=rfl) (hy:=rfl));clear S F;intro W S;(try simp only [gd27] at S);rw [← Ny446.out] at S;have F:=S.fc
           refine oz ?_
           try clear S0
           go_wp2
           go_roundg k2
           case measure=>omega
           case rel=>exact ⟨(wrap64 (j + 1)),y446,(by first | rfl | (simp;done) | (simp [*];done) | (rw [w6_ (by omega) (by omega)])),(by first | exact H | (simp only [F];exact H)),(by first | omega | exact Nat.le_refl _),S⟩
         · skip
           go_wp2
           go_roundg k2
           case measure=>omega
           case rel=>exact ⟨(wrap64 (x12_1 + 1)),ys,(by first | rfl | (simp;done) | (simp [*];done) | (rw [w6_ (by omega) (by omega)])),(by first | exact H | (simp only [F];exact H)),(by first | omega | exact Nat.le_refl _),(S.dk [2,3])⟩
   · skip
     obtain rfl:=Option.some.inj H
     go_wp2
     first | go_end0 | ((try simp only [Exit.inBlock,Exit.then]);refine bodyPost_ret (results_none rfl _ _ _) rfl ?_)
     exact ⟨(by first | rfl | (simp [e0_,e1_] <;> rfl) | (simp [*,e0_,e1_] <;> rfl)),(by first | exact S.rp | exact Kd.R_nil _ _ _ _ _),S.below,S.kept⟩
end Go.Proofs.Ytimeepcpgjnajaa.F
