-- Printed by a program; checked here.
import Derived.Test.YtnmffpfiichjgaaF0
import Derived.Test.YtnmffpfiichjgaaF1
import Derived.Test.YtnmffpfiichjgaaF2
namespace Go.Proofs.Ytnmffpfiichjgaa.F
open Go.RowKit Go.Proofs.YtnmffpfiichjgaaV.PrintWords Go.Proofs.YtnmffpfiichjgaaV.PrintLast Go.Proofs.YtnmffpfiichjgaaV.PrintMore Go.Proofs.YtnmffpfiichjgaaV.Sl Go.Proofs.YtnmffpfiichjgaaV.Rf
attribute [local go_sem] max2_int min2_int max_two min_two max_three min_three max_four min_four ia_opt it_opt
attribute [local go_sem] Try.underlying4 Try.underlying23 Try.underlying24 Try.underlying25 Try.underlying27 Try.underlying30 Try.underlying42 Try.underlying68 Try.underlying80 Try.underlying111
set_option maxHeartbeats 8000000
set_option maxRecDepth 100000
set_option linter.unusedVariables false
set_option linter.unusedSimpArgs false

attribute [local go_sem high] eqA42
/-! ### spec_l1Cur_challenge: function 186 -/
mutual
def spec_l1Cur_challenge.l0:Nat→List (S42)→Int→Int→List Int→Int→Int→Int→Int→List (S42)→Option (Int × Int × (List (S42)) × List Int × List Int × Int × Int)
  | 0,_,_,_,_,_,_,_,_,_=>none
  | k + 1,x4,x5,x6,x1000,x1001,x1002,x244000,x244001,x244002=>if (x244002.length:Int) < x5 then (if (x4.length:Int) = 0 then (none) else (if 0 ≤ (Int.tmod x6 (x4.length:Int)) then (if (Int.tmod x6 (x4.length:Int)) < (x4.length:Int) then (if x244002.length < 8796093022208 then (spec_l1Cur_challenge.l0 k x4 x5 (wrap64 (x6 + 1)) x1000 x1001 x1002 x244000 x244001 (x244002 ++ [(⟨(rd_T42 x4 (Int.tmod x6 (x4.length:Int))).f0,(rd_T42 x4 (Int.tmod x6 (x4.length:Int))).f1⟩:S42)])) else (none)) else (none)) else (none))) else ((spec_l1Cur_pick.f x1000 x1001 x1002 4).bind fun bt257=>(spec_l1Cur_challenge.l1 k (wrap64 (1 + bt257.1)) x1000 bt257.2.1 bt257.2.2 x244000 x244001 x244002 ([]:List Int)))
def spec_l1Cur_challenge.l1:Nat→Int→List Int→Int→Int→Int→Int→List (S42)→List Int→Option (Int × Int × (List (S42)) × List Int × List Int × Int × Int)
  | 0,_,_,_,_,_,_,_,_=>none
  | k + 1,x7,x1000,x1001,x1002,x244000,x244001,x244002,x244003=>if x7 > 0 then ((spec_l1Cur_pick.f x1000 x1001 x1002 x244001).bind fun bt260=>(if x244003.length < 17592186044416 then (spec_l1Cur_challenge.l1 k (wrap64 (x7 - 1)) x1000 bt260.2.1 bt260.2.2 x244000 x244001 x244002 (x244003 ++ [bt260.1])) else (none))) else ((spec_syTried.f k x244000 x244001 x244002 x244003 ([]:List Int)).bind fun t266=>((spec_l1Least.f 7000 t266).bind fun t267=>((spec_l1Cur_pick.f x1000 x1001 x1002 t267).bind fun bt268=>((spec_syBoard.f k x244000 x244001 x244002 x244003 ([]:List Int) bt268.1).bind fun bt271=>(spec_l1Cur_challenge.l2 k (x244003.length:Int) 0 x1000 bt268.2.1 bt268.2.2 x244000 x244001 x244002 x244003 ([]:List Int) bt271.1 bt271.2.1 bt271.2.2 bt271.1 bt271.2.1 bt271.2.2)))))
def spec_l1Cur_challenge.l2:Nat→Int→Int→List Int→Int→Int→Int→Int→List (S42)→List Int→List Int→Int→Int→List (S42)→Int→Int→List (S42)→Option (Int × Int × (List (S42)) × List Int × List Int × Int × Int)
  | 0,_,_,_,_,_,_,_,_,_,_,_,_,_,_,_,_=>none
  | k + 1,x82,x83,x1000,x1001,x1002,x244000,x244001,x244002,x244003,x244004,x277000,x277001,x277002,x278000,x278001,x278002=>if x83 < x82 then (if 0 ≤ x83 then (if x83 < (x244003.length:Int) then ((spec_flRun.f k x278000 x278001 x278002 (rd x244003 x83)).bind fun bt279=>((spec_syEnd.f x277000 x277001 x277002 bt279.1 bt279.2.1 bt279.2.2.1).bind fun t289=>(if x244004.length < 17592186044416 then (spec_l1Cur_challenge.l2 k x82 (wrap64 (x83 + 1)) x1000 x1001 x1002 x244000 x244001 x244002 x244003 (x244004 ++ [t289]) x277000 x277001 x277002 bt279.2.2.2.1 bt279.2.2.2.2.1 bt279.2.2.2.2.2) else (none)))) else (none)) else (none)) else ((spec_l1Cur_one.f x1000 x1001 x1002 6).bind fun bt293=>(if bt293.1 = true then ((spec_l1Cur_pick.f x1000 bt293.2.1 bt293.2.2 (wrap64 (x244001 + 2))).bind fun bt296=>(if 0 < (x244004.length:Int) then (some (x244000,x244001,x244002,x244003,(x244004.set (0:Int).toNat bt296.1),bt296.2.1,bt296.2.2)) else (none))) else (some (x244000,x244001,x244002,x244003,x244004,bt293.2.1,bt293.2.2))))
end
def spec_l1Cur_challenge.f (k:Nat) (s0_0:List Int) (s0_1:Int) (s0_2:Int):Option (Int × Int × (List (S42)) × List Int × List Int × Int × Int):=(spec_l1Cur_pick.f s0_0 s0_1 s0_2 2).bind fun bt237=>((spec_l1Cur_pick.f s0_0 bt237.2.1 bt237.2.2 3).bind fun bt240=>((some (([(⟨1,0⟩:S42),(⟨2,0⟩:S42),(⟨3,0⟩:S42),(⟨3,1⟩:S42),(⟨4,0⟩:S42),(⟨5,0⟩:S42),(⟨6,0⟩:S42),(⟨7,0⟩:S42)]:List (S42)):List (S42))).bind fun y244=>((spec_l1Cur_pick.f s0_0 bt240.2.1 bt240.2.2 3).bind fun bt247=>((spec_l1Cur_pick.f s0_0 bt247.2.1 bt247.2.2 (y244.length:Int)).bind fun bt250=>(spec_l1Cur_challenge.l0 k y244 (wrap64 (1 + bt247.1)) bt250.1 s0_0 bt250.2.1 bt250.2.2 (wrap64 (1 + bt237.1)) (wrap64 (1 + bt240.1)) ([]:List (S42)))))))
theorem spec_l1Cur_challenge.calls (k:Nat) (g:Nat) (s0_0:List Int) (s0_1:Int) (s0_2:Int) (r1:Int) (r2:Int) (r3:List (S42)) (r4:List Int) (r5:List Int) (r6:Int) (r7:Int) (As0_0:Option Addr) (cs0_0:Nat) (w0 w:World) (hI:w.heap[g]? = some (.cells #[.slice As0_0 s0_0.length cs0_0,.int .i64 s0_1,.int .u64 s0_2] 111 (0,0))) (hG:w0.heap.size ≤ g) (hS0_0:Kd.C (Kd.int .u8) w0 As0_0 s0_0.length s0_0) (hB:Below w0.heap.size w0 w) (h:spec_l1Cur_challenge.f k s0_0 s0_1 s0_2 = some (r1,r2,r3,r4,r5,r6,r7)) :
    Calls Try.prog 186 #[.pointer (some ⟨g,0,none⟩)] w fun e w'=>∃ v2_ v3_ v4_:Value,e = .returned (.agg #[.int .i64 r1,.int .i64 r2,v2_,v3_,v4_])∧Kd.R k42 42 w' w.heap.size (fun _=>True) v2_ r3∧Kd.R (Kd.int .i64) 3 w' w.heap.size (fun k_=>some k_ ≠ (v4_:Value).ownBlock) v3_ r4∧Kd.R (Kd.int .i64) 3 w' w.heap.size (fun k_=>some k_ ≠ (v3_:Value).ownBlock) v4_ r5∧w'.heap[g]? = some (.cells #[.slice As0_0 s0_0.length cs0_0,.int .i64 r6,.int .u64 r7] 111 (0,0))∧Below w0.heap.size w0 w'∧Kept w w' (fun k_=>k_ = g):=by
 have S:=St.boxed hB hG hI (dg (Kd.heap_int .u8) (atI .u8) hS0_0 hB hG dn)
 clear hI hB
 have F:=S.fc
 have H:=h;clear h;unfold spec_l1Cur_challenge.f at H
 replace H:=Option.bind_eq_some_iff.mp H;obtain ⟨⟨t237,t238,t239⟩,A2,H⟩:=H;(try dsimp only at H)
 replace H:=Option.bind_eq_some_iff.mp H;obtain ⟨⟨t240,t241,t242⟩,A3,H⟩:=H;(try dsimp only at H)
 (first | (with_reducible replace H:=ob_ H;obtain ⟨y244,hy244,H⟩:=H;(try dsimp only at H)) | (obtain ⟨y244,hy244⟩:∃ y_:List (S42),y_ = (([(⟨1,0⟩:S42),(⟨2,0⟩:S42),(⟨3,0⟩:S42),(⟨3,1⟩:S42),(⟨4,0⟩:S42),(⟨5,0⟩:S42),(⟨6,0⟩:S42),(⟨7,0⟩:S42)]:List (S42))):=⟨_,rfl⟩;(try rw [← hy244] at H);(try simp only [Option.bind_some] at H)));have Ny244:=Aside0.mk hy244;clear hy244
 replace H:=Option.bind_eq_some_iff.mp H;obtain ⟨⟨t247,t248,t249⟩,A4,H⟩:=H;(try dsimp only at H)
 replace H:=Option.bind_eq_some_iff.mp H;obtain ⟨⟨t250,t251,t252⟩,A5,H⟩:=H;(try dsimp only at H)
 go_enter Try.func186,Try.ntmps186
 go_wp2_with (first | ((with_reducible refine gd 2 rfl (L ?_));refine al 2 S zi27 ?_;clear S F;intro gb236 W S;have F:=S.fc) | ((with_reducible refine gate_callee (f:=114) rfl (L ?_));refine cl (some 15) Try.func114 (spec_l1Cur_pick.calls g _ _ _ _ _ _ _ _ _ _ _ S.hb (S.hge g) hS0_0 S.below A2) (hargs:=by (simp only [ma_,mb_,mc_,F] <;> rfl)) (h:=?_);rintro e W ⟨rfl,hi,hb,hk⟩;refine ⟨_,rfl,?_⟩;obtain ⟨W_,hs_,hm_,S⟩:=S.mid g hi hb hk;replace S:=S.go hm_;clear F hi hb hk hs_ hm_ ;(try rw [← Ny244.out] at S);have F:=S.fc) | ((with_reducible refine gate_callee (f:=114) rfl (L ?_));refine cl (some 18) Try.func114 (spec_l1Cur_pick.calls g _ _ _ _ _ _ _ _ _ _ _ S.hb (S.hge g) hS0_0 S.below A3) (hargs:=by (simp only [ma_,mb_,mc_,F] <;> rfl)) (h:=?_);rintro e W ⟨rfl,hi,hb,hk⟩;refine ⟨_,rfl,?_⟩;obtain ⟨W_,hs_,hm_,S⟩:=S.mid g hi hb hk;replace S:=S.go hm_;clear F hi hb hk hs_ hm_ ;(try rw [← Ny244.out] at S);have F:=S.fc) | ((with_reducible refine gd 3 rfl (L ?_));refine al 3 S zi27 ?_;clear S F;intro gb243 W S;have F:=S.fc) | ((with_reducible refine gd 29 rfl (L ?_));refine lia 29 at42 42 S ([(⟨1,0⟩:S42),(⟨2,0⟩:S42),(⟨3,0⟩:S42),(⟨3,1⟩:S42),(⟨4,0⟩:S42),(⟨5,0⟩:S42),(⟨6,0⟩:S42),(⟨7,0⟩:S42)]:List (S42)) (fun _ _=>(Reps.c2 (show Kd.M k42 _ _ _ (⟨1,0⟩:S42) [.int .i64 1,.int .i64 0] from (k42_mkM _ _ _ (⟨1,0⟩:S42) )) (Reps.c2 (show Kd.M k42 _ _ _ (⟨2,0⟩:S42) [.int .i64 2,.int .i64 0] from (k42_mkM _ _ _ (⟨2,0⟩:S42) )) (Reps.c2 (show Kd.M k42 _ _ _ (⟨3,0⟩:S42) [.int .i64 3,.int .i64 0] from (k42_mkM _ _ _ (⟨3,0⟩:S42) )) (Reps.c2 (show Kd.M k42 _ _ _ (⟨3,1⟩:S42) [.int .i64 3,.int .i64 1] from (k42_mkM _ _ _ (⟨3,1⟩:S42) )) (Reps.c2 (show Kd.M k42 _ _ _ (⟨4,0⟩:S42) [.int .i64 4,.int .i64 0] from (k42_mkM _ _ _ (⟨4,0⟩:S42) )) (Reps.c2 (show Kd.M k42 _ _ _ (⟨5,0⟩:S42) [.int .i64 5,.int .i64 0] from (k42_mkM _ _ _ (⟨5,0⟩:S42) )) (Reps.c2 (show Kd.M k42 _ _ _ (⟨6,0⟩:S42) [.int .i64 6,.int .i64 0] from (k42_mkM _ _ _ (⟨6,0⟩:S42) )) (Reps.c2 (show Kd.M k42 _ _ _ (⟨7,0⟩:S42) [.int .i64 7,.int .i64 0] from (k42_mkM _ _ _ (⟨7,0⟩:S42) )) (Reps.none _ _)))))))))) (by first | (go_simp;done) | (go_simp;rfl)) ?_;clear S F;intro Ay244 cy244 W S;(try rw [← Ny244.out] at S ⊢);have F:=S.fc) | ((with_reducible refine gate_callee (f:=114) rfl (L ?_));refine cl (some 31) Try.func114 (spec_l1Cur_pick.calls g _ _ _ _ _ _ _ _ _ _ _ S.hb (S.hge g) hS0_0 S.below A4) (hargs:=by (simp only [ma_,mb_,mc_,F] <;> rfl)) (h:=?_);rintro e W ⟨rfl,hi,hb,hk⟩;refine ⟨_,rfl,?_⟩;obtain ⟨W_,hs_,hm_,S⟩:=S.mid g hi hb hk;replace S:=S.go hm_;clear F hi hb hk hs_ hm_ ;(try rw [← Ny244.out] at S);have F:=S.fc) | ((with_reducible refine gate_callee (f:=114) rfl (L ?_));refine cl (some 36) Try.func114 (spec_l1Cur_pick.calls g _ _ _ _ _ _ _ _ _ _ _ S.hb (S.hge g) hS0_0 S.below A5) (hargs:=by (simp only [ma_,mb_,mc_,F] <;> rfl)) (h:=?_);rintro e W ⟨rfl,hi,hb,hk⟩;refine ⟨_,rfl,?_⟩;obtain ⟨W_,hs_,hm_,S⟩:=S.mid g hi hb hk;replace S:=S.go hm_;clear F hi hb hk hs_ hm_ ;(try rw [← Ny244.out] at S);have F:=S.fc) | ((with_reducible refine gs (t:=27) rfl (L ?_));refine sb (.agg #[_,_,_,_,_]) S sz27 ?_;clear S F;intro W S;(try simp only [gd42] at S);(try rw [← Ny244.out] at S);have F:=S.fc))
 go_loopg [6] k (fun kq v6 w'=>∃ (x6_1:Int) (x244002_1:List (S42)) (Ax244002_1:Option Addr) (cx244002_1:Nat),v6 = .int .i64 x6_1∧spec_l1Cur_challenge.l0 kq y244 (wrap64 (1 + t247)) x6_1 s0_0 t251 t252 (wrap64 (1 + t237)) (wrap64 (1 + t240)) x244002_1 = some (r1,r2,r3,r4,r5,r6,r7)∧kq ≤ k∧St w0 w (fun k=>k = g) [bor (atI .u8) As0_0 s0_0.length s0_0] w'  [row at42 42 Ax244002_1 x244002_1.length cx244002_1 x244002_1,row at42 42 Ay244 y244.length cy244 y244,box gb243 27 [.int .i64 (wrap64 (1 + t237)),.int .i64 (wrap64 (1 + t240)),.slice Ax244002_1 x244002_1.length cx244002_1,.slice none 0 0,.slice none 0 0],box gb236 27 [.int .i64 0,.int .i64 0,.slice none 0 0,.slice none 0 0,.slice none 0 0],box g 111 [.slice As0_0 s0_0.length cs0_0,.int .i64 t251,.int .u64 t252]])
 case atStart=>exact ⟨t250,_,_,_,(by first | rfl | (simp;done) | (simp [*];done) | (rw [w6_ (by omega) (by omega)])),H,Nat.le_refl _,(S.nl (e:=42) at42)⟩
 case round =>
  clear H S F
  obtain ⟨x6_1,x244002_1,Ax244002_1,cx244002_1,rfl,HA,HK1,S⟩:=hrel
  have F:=S.fc
  cases gk with
  | zero=>exact absurd HA (by simp [spec_l1Cur_challenge.l0])
  | succ k1 =>
   have H:=HA;clear HA;simp only [spec_l1Cur_challenge.l0,F] at H
   replace H:=sp_ H;rcases H with ⟨c18,H⟩ | ⟨c18,H⟩
   · skip
     replace H:=nn_ H;obtain ⟨c19,H⟩:=H
     replace c19:=cne c19
     (try have c19z:¬ y244 = []:=fun e_=>c19.2.2 (by rw [e_];rfl))
     obtain ⟨ji20,hji20⟩:∃ j_:Int,(Int.tmod x6_1 (y244.length:Int)) = j_:=⟨_,rfl⟩;simp only [hji20] at H
     replace H:=np_ H;obtain ⟨c21,H⟩:=H
     replace H:=np_ H;obtain ⟨c22,H⟩:=H
     replace H:=np_ H;obtain ⟨c23,H⟩:=H
     (first | (with_reducible replace H:=ob_ H;obtain ⟨y254,hy254,H⟩:=H;(try dsimp only at H)) | (obtain ⟨y254,hy254⟩:∃ y_:List (S42),y_ = (x244002_1 ++ [(⟨(rd_T42 y244 (ji20)).f0,(rd_T42 y244 (ji20)).f1⟩:S42)]):=⟨_,rfl⟩;(try rw [← hy254] at H);(try simp only [Option.bind_some] at H)));have Ny254:=Aside0.mk hy254;clear hy254
     go_wp2
     refine rq S [(0,0),(0,2),(0,3),(0,4),(0,5),(0,6),(0,7),(1,1),(1,8),(2,9),(3,10),(0,11),(3,12)] [10,12] (h:=?_);clear S F;intro W S;have S0:=S;have F:=S.fc
     repeat (first | (refine q0 (h:=?_)) | (refine q1 S0 (h:=?_)))
     refine lk2 (by rfl) (by exact (Eq.refl true)) ?_;refine lv 53 (cs:=[.int .i64 ((rd_T42 y244 (ji20)).f0),.int .i64 ((rd_T42 y244 (ji20)).f1)]) (e:=42) (by first | (go_simp;done) | (go_simp;rfl)) ?_
     clear S0;have S0:=St.al1 S (.cells (List.toArray [.int .i64 ((rd_T42 y244 (ji20)).f0),.int .i64 ((rd_T42 y244 (ji20)).f1)]) 42);refine ⟨S0,?_⟩
     refine lk3 (by rfl) (by exact (Eq.refl true)) ?_;refine apa (A:=Ax244002_1) 54 S Try.underlying24 info42 ?_ (ho:=rfl) (hs:=rfl) (hx:=rfl);clear S F;intro Ay254 cy254 W S;(try rw [← Ny244.out] at S ⊢);(try rw [← Ny254.out] at S ⊢);have F:=S.fc
     repeat ((refine q0 (h:=?_)))
     refine lk3 (by rfl) (by exact (Eq.refl true)) ?_;(first | refine sb (.int _ _) S sz3 ?_ | refine ro (.int _ _) S sz3 ?_ (ho:=rfl) (hx:=rfl) (hy:=rfl) | refine sb (.slice _ _ _) S sz24 ?_ | refine ro (.slice _ _ _) S sz24 ?_ (ho:=rfl) (hx:=rfl) (hy:=rfl) | refine sb (.slice _ _ _) S sz25 ?_ | refine ro (.slice _ _ _) S sz25 ?_ (ho:=rfl) (hx:=rfl) (hy:=rfl) | refine sb (.agg #[_,_,_,_,_]) S sz27 ?_ | refine ro (.agg #[_,_,_,_,_]) S sz27 ?_ (ho:=rfl) (hx:=rfl) (hy:=rfl) | refine sb (.agg #[_,_,_]) S sz30 ?_ | refine ro (.agg #[_,_,_]) S sz30 ?_ (ho:=rfl) (hx:=rfl) (hy:=rfl) | refine sb (.agg #[_,_,_]) S sz80 ?_ | refine ro (.agg #[_,_,_]) S sz80 ?_ (ho:=rfl) (hx:=rfl) (hy:=rfl));clear S F;intro W S;(try simp only [gd42] at S);(try rw [← Ny244.out] at S);(try rw [← Ny254.out] at S);have F:=S.fc
     refine oz ?_
     try clear S0
     go_wp2
     go_roundg k1
     case measure=>omega
     case rel=>exact ⟨(wrap64 (x6_1 + 1)),y254,_,_,(by first | rfl | (simp;done) | (simp [*];done) | (rw [w6_ (by omega) (by omega)])),H,(by first | omega | exact Nat.le_refl _),S⟩
   · skip
     replace H:=Option.bind_eq_some_iff.mp H;obtain ⟨⟨t257,t258,t259⟩,A32,H⟩:=H;(try dsimp only at H)
     go_wp2_with ((with_reducible refine gate_callee (f:=114) rfl (L ?_));refine cl (some 57) Try.func114 (spec_l1Cur_pick.calls g _ _ _ _ _ _ _ _ _ _ _ S.hb (S.hge g) hS0_0 S.below A32) (hargs:=by (simp only [ma_,mb_,mc_,F] <;> rfl)) (h:=?_);rintro e W ⟨rfl,hi,hb,hk⟩;refine ⟨_,rfl,?_⟩;obtain ⟨W_,hs_,hm_,S⟩:=S.mid g hi hb hk;replace S:=S.go hm_;clear F hi hb hk hs_ hm_ ;(try rw [← Ny244.out] at S);have F:=S.fc)
     go_loopg [7] k1 (fun kq v7 w'=>∃ (x7_2:Int) (x1001_2:Int) (x1002_2:Int) (x244003_2:List Int) (Ax244003_2:Option Addr) (cx244003_2:Nat),v7 = .int .i64 x7_2∧spec_l1Cur_challenge.l1 kq x7_2 s0_0 x1001_2 x1002_2 (wrap64 (1 + t237)) (wrap64 (1 + t240)) x244002_1 x244003_2 = some (r1,r2,r3,r4,r5,r6,r7)∧kq ≤ k1∧St w0 w (fun k=>k = g) [bor (atI .u8) As0_0 s0_0.length s0_0] w'  [row (atI .i64) 3 Ax244003_2 x244003_2.length cx244003_2 x244003_2,row at42 42 Ax244002_1 x244002_1.length cx244002_1 x244002_1,box gb243 27 [.int .i64 (wrap64 (1 + t237)),.int .i64 (wrap64 (1 + t240)),.slice Ax244002_1 x244002_1.length cx244002_1,.slice Ax244003_2 x244003_2.length cx244003_2,.slice none 0 0],box gb236 27 [.int .i64 0,.int .i64 0,.slice none 0 0,.slice none 0 0,.slice none 0 0],box g 111 [.slice As0_0 s0_0.length cs0_0,.int .i64 x1001_2,.int .u64 x1002_2]])
     case atStart=>exact ⟨(wrap64 (1 + t257)),t258,t259,_,_,_,(by first | rfl | (simp;done) | (simp [*];done) | (rw [w6_ (by omega) (by omega)])),H,Nat.le_refl _,((S.nl (e:=3) (atI .i64)).pm [0,1,3,4,5])⟩
     case round =>
      clear H S F
      obtain ⟨x7_2,x1001_2,x1002_2,x244003_2,Ax244003_2,cx244003_2,rfl,HA,HK2,S⟩:=hrel
      have F:=S.fc
      cases gk with
      | zero=>exact absurd HA (by simp [spec_l1Cur_challenge.l1])
      | succ k2 =>
       have H:=HA;clear HA;simp only [spec_l1Cur_challenge.l1,F] at H
       replace H:=sp_ H;rcases H with ⟨c38,H⟩ | ⟨c38,H⟩
       · skip
         replace H:=Option.bind_eq_some_iff.mp H;obtain ⟨⟨t260,t261,t262⟩,A39,H⟩:=H;(try dsimp only at H)
         replace H:=np_ H;obtain ⟨c40,H⟩:=H
         (first | (with_reducible replace H:=ob_ H;obtain ⟨y263,hy263,H⟩:=H;(try dsimp only at H)) | (obtain ⟨y263,hy263⟩:∃ y_:List Int,y_ = (x244003_2 ++ [t260]):=⟨_,rfl⟩;(try rw [← hy263] at H);(try simp only [Option.bind_some] at H)));have Ny263:=Aside0.mk hy263;clear hy263
         go_wp2
         refine rgP S (fun _ S=>(S.pm [1,2,3])) [(0,0),(0,2),(0,3),(1,1),(1,4),(2,5),(2,6),(2,7),(0,8),(3,9)] [9] (by kernel_rfl) (by kernel_rfl) (fun _ d _ _ _ h=>by cases d <;> exact h) ?_;clear S F;intro W S;have S0:=(S.pm [1,2,3]);have F:=S.fc
         repeat (first | (refine q0 (h:=?_)) | (refine q1 S0 (h:=?_)))
         refine lk2 (by rfl) (by exact (Eq.refl true)) ?_;refine cl (some 68) Try.func114 (spec_l1Cur_pick.calls g _ _ _ _ _ _ _ _ _ _ _ S.hb (S.hge g) hS0_0 S.below A39) (hargs:=by (simp only [ma_,mb_,mc_,F] <;> rfl)) (h:=?_);rintro e W ⟨rfl,hi,hb,hk⟩;refine ⟨_,rfl,?_⟩;obtain ⟨W_,hs_,hm_,S⟩:=S.mid g hi hb hk;replace S:=S.go hm_;clear F hi hb hk hs_ hm_ ;(try rw [← Ny244.out] at S);(try rw [← Ny263.out] at S);have F:=S.fc
         clear S0;have S0:=(S.pm [1,2,3]);refine ⟨S0,?_⟩
         refine lk2 (by rfl) (by exact (Eq.refl true)) ?_;refine lv 69 (cs:=[.int .i64 t260]) (e:=3) (by first | (go_simp;done) | (go_simp;rfl)) ?_
         clear S0;have S0:=St.al1 (S.pm [1,2,3]) (.cells (List.toArray [.int .i64 t260]) 3);refine ⟨S0,?_⟩
         refine lk2 (by rfl) (by exact (Eq.refl true)) ?_;refine apa (A:=Ax244003_2) 70 S Try.underlying25 info3 ?_ (ho:=rfl) (hs:=rfl) (hx:=rfl);clear S F;intro Ay263 cy263 W S;(try rw [← Ny244.out] at S ⊢);(try rw [← Ny263.out] at S ⊢);have F:=S.fc
         clear S0;have S0:=(S.pm [1,2,3]);refine ⟨S0,?_⟩
         repeat ((refine q0 (h:=?_)))
         refine lk3 (by rfl) (by exact (Eq.refl true)) ?_;(first | refine sb (.int _ _) S sz3 ?_ | refine ro (.int _ _) S sz3 ?_ (ho:=rfl) (hx:=rfl) (hy:=rfl) | refine sb (.slice _ _ _) S sz24 ?_ | refine ro (.slice _ _ _) S sz24 ?_ (ho:=rfl) (hx:=rfl) (hy:=rfl) | refine sb (.slice _ _ _) S sz25 ?_ | refine ro (.slice _ _ _) S sz25 ?_ (ho:=rfl) (hx:=rfl) (hy:=rfl) | refine sb (.agg #[_,_,_,_,_]) S sz27 ?_ | refine ro (.agg #[_,_,_,_,_]) S sz27 ?_ (ho:=rfl) (hx:=rfl) (hy:=rfl) | refine sb (.agg #[_,_,_]) S sz30 ?_ | refine ro (.agg #[_,_,_]) S sz30 ?_ (ho:=rfl) (hx:=rfl) (hy:=rfl) | refine sb (.agg #[_,_,_]) S sz80 ?_ | refine ro (.agg #[_,_,_]) S sz80 ?_ (ho:=rfl) (hx:=rfl) (hy:=rfl));clear S F;intro W S;(try simp only [gd42] at S);(try rw [← Ny244.out] at S);(try rw [← Ny263.out] at S);have F:=S.fc
         refine oz ?_
         try clear S0
         go_wp2
         go_roundg k2
         case measure=>omega
         case rel=>exact ⟨(wrap64 (x7_2 - 1)),t261,t262,y263,_,_,(by first | rfl | (simp;done) | (simp [*];done) | (rw [w6_ (by omega) (by omega)])),H,(by first | omega | exact Nat.le_refl _),S⟩
       · skip
         replace H:=Option.bind_eq_some_iff.mp H;obtain ⟨t266,A46,H⟩:=H;(try dsimp only at H)
         replace H:=Option.bind_eq_some_iff.mp H;obtain ⟨t267,A47,H⟩:=H;(try dsimp only at H)
         replace H:=Option.bind_eq_some_iff.mp H;obtain ⟨⟨t268,t269,t270⟩,A48,H⟩:=H;(try dsimp only at H)
         replace H:=Option.bind_eq_some_iff.mp H;obtain ⟨⟨t271,t272,t273⟩,A49,H⟩:=H;(try dsimp only at H)
         go_wp2
         refine rgF S (fun _ S=>(S.pm [0,1,2,3])) (fkc 7 8 zi30 fk0) [(0,1),(1,0),(1,2),(2,3),(2,4),(2,5),(2,6)] [(3,8)] [8] (id:=12) (h:=?_);clear S F;intro W S;have S0:=(S.pm [0,1,2,3]);have F:=S.fc
         repeat (first | (refine f0 (h:=?_)) | (refine f1 S0 (h:=?_)))
         refine fe2 S (by rfl) ?_;intro x8_ X W S;simp only [List.cons_append,List.nil_append,putF,Act.put,za_,zb_,zc_] at S ⊢;clear F;have F:=S.fc;refine ⟨rfl,?_⟩;refine cl (some 75) Try.func129 (spec_syTried.calls _ _ _ _ _ _ _ _ _ _ _ _ _ _ S.c S.n S.c S.n (Kd.C_nil _ _) (Nat.le_refl _) A46) (hargs:=by (simp only [ma_,mb_,mc_,F] <;> rfl)) (h:=?_);rintro e W ⟨rfl,hb⟩;refine ⟨_,rfl,?_⟩;replace S:=S.go hb;clear F hb;have F:=S.fc
         clear S0;have S0:=((S.nx X).pm [0,1,2,3]);refine ⟨S0,?_⟩
         refine fe2 S (by rfl) ?_;intro x8_ X W S;simp only [List.cons_append,List.nil_append,putF,Act.put,za_,zb_,zc_] at S ⊢;clear F;have F:=S.fc;refine ⟨rfl,?_⟩;refine cl (some 76) Try.func156 (spec_l1Least.calls _ _ _ _ A47) (hargs:=by (simp only [ma_,mb_,mc_,F] <;> rfl)) (h:=?_);rintro e W ⟨rfl,hb⟩;refine ⟨_,rfl,?_⟩;replace S:=S.gw hb;clear F hb;have F:=S.fc
         clear S0;have S0:=((S.nx X).pm [0,1,2,3]);refine ⟨S0,?_⟩
         refine fe2 S (by rfl) ?_;intro x8_ X W S;simp only [List.cons_append,List.nil_append,putF,Act.put,za_,zb_,zc_] at S ⊢;clear F;have F:=S.fc;refine ⟨rfl,?_⟩;refine cl (some 77) Try.func114 (spec_l1Cur_pick.calls g _ _ _ _ _ _ _ _ _ _ _ S.hb (S.hge g) hS0_0 S.below A48) (hargs:=by (simp only [ma_,mb_,mc_,F] <;> rfl)) (h:=?_);rintro e W ⟨rfl,hi,hb,hk⟩;refine ⟨_,rfl,?_⟩;obtain ⟨W_,hs_,hm_,S⟩:=S.mid g hi hb hk;replace S:=S.go hm_;clear F hi hb hk hs_ hm_ ;(try rw [← Ny244.out] at S);have F:=S.fc
         clear S0;have S0:=((S.nx X).pm [0,1,2,3]);refine ⟨S0,?_⟩
         refine fe2 S (by rfl) ?_;intro x8_ X W S;simp only [List.cons_append,List.nil_append,putF,Act.put,za_,zb_,zc_] at S ⊢;clear F;have F:=S.fc;refine ⟨rfl,?_⟩;refine cl (some 78) Try.func95 (spec_syBoard.calls _ _ _ _ _ _ _ _ _ _ _ _ _ _ _ _ _ S.c S.n S.c S.n (Kd.C_nil _ _) (Nat.le_refl _) A49) (hargs:=by (simp only [ma_,mb_,mc_,F] <;> rfl)) (h:=?_);rintro e W ⟨v274,rfl,ho0,hb⟩;refine ⟨_,rfl,?_⟩;replace S:=S.got at42 hb ho0;obtain ⟨At273,ct273,rfl,S⟩:=S;clear F hb ho0;(try rw [← Ny244.out] at S);have F:=S.fc
         clear S0;have S0:=((S.nx X).pm [1,2,3,4]);refine ⟨S0,?_⟩
         refine fz S ?_;intro gb276 W S;simp only [bxs,fbox,ptr,List.map_cons,List.map_nil,List.cons_append,List.nil_append,putF,Act.put,za_,zb_,zc_] at S ⊢;clear F S0;have S0:=(S.ms [0,0,1,1,1,1,0]);have F:=S.fc
         refine lk3 (by rfl) (by exact (Eq.refl true)) ?_;(first | refine sb (.int _ _) S sz3 ?_ | refine ro (.int _ _) S sz3 ?_ (ho:=rfl) (hx:=rfl) (hy:=rfl) | refine sb (.slice _ _ _) S sz24 ?_ | refine ro (.slice _ _ _) S sz24 ?_ (ho:=rfl) (hx:=rfl) (hy:=rfl) | refine sb (.slice _ _ _) S sz25 ?_ | refine ro (.slice _ _ _) S sz25 ?_ (ho:=rfl) (hx:=rfl) (hy:=rfl) | refine sb (.agg #[_,_,_,_,_]) S sz27 ?_ | refine ro (.agg #[_,_,_,_,_]) S sz27 ?_ (ho:=rfl) (hx:=rfl) (hy:=rfl) | refine sb (.agg #[_,_,_]) S sz30 ?_ | refine ro (.agg #[_,_,_]) S sz30 ?_ (ho:=rfl) (hx:=rfl) (hy:=rfl) | refine sb (.agg #[_,_,_]) S sz80 ?_ | refine ro (.agg #[_,_,_]) S sz80 ?_ (ho:=rfl) (hx:=rfl) (hy:=rfl));clear S F;intro W S;(try simp only [gd42] at S);(try rw [← Ny244.out] at S);have F:=S.fc
         refine oz ?_
         try clear S0
         replace S:=S.fzrg At273 rfl;clear F;have F:=S.fc
         go_wp2_with (first | ((with_reducible refine gd 9 rfl (L ?_));refine al 9 S zi30 ?_;clear S F;intro gb277 W S;have F:=S.fc) | ((with_reducible refine gs (t:=30) rfl (L ?_));refine sb (.agg #[_,_,_]) S sz30 ?_;clear S F;intro W S;(try simp only [gd42] at S);(try rw [← Ny244.out] at S);have F:=S.fc))
         go_loopg [83] k2 (fun kq v83 w'=>∃ (x83_3:Int) (x244004_3:List Int) (x278000_3:Int) (x278001_3:Int) (x278002_3:List (S42)) (Ax244004_3:Option Addr) (cx244004_3:Nat) (Ax278002_3:Option Addr) (cx278002_3:Nat),v83 = .int .i64 x83_3∧spec_l1Cur_challenge.l2 kq (x244003_2.length:Int) x83_3 s0_0 t269 t270 (wrap64 (1 + t237)) (wrap64 (1 + t240)) x244002_1 x244003_2 x244004_3 t271 t272 t273 x278000_3 x278001_3 x278002_3 = some (r1,r2,r3,r4,r5,r6,r7)∧kq ≤ k2∧St w0 w (fun k=>k = g) [bor at42 Ax278002_3 cx278002_3 x278002_3,bor at42 At273 ct273 t273,bor (atI .u8) As0_0 s0_0.length s0_0] w'  [row (atI .i64) 3 Ax244004_3 x244004_3.length cx244004_3 x244004_3,box gb277 30 [.int .i64 x278000_3,.int .i64 x278001_3,.slice Ax278002_3 x278002_3.length cx278002_3],box gb276 30 [.int .i64 t271,.int .i64 t272,.slice At273 t273.length ct273],row (atI .i64) 3 Ax244003_2 x244003_2.length cx244003_2 x244003_2,row at42 42 Ax244002_1 x244002_1.length cx244002_1 x244002_1,box gb243 27 [.int .i64 (wrap64 (1 + t237)),.int .i64 (wrap64 (1 + t240)),.slice Ax244002_1 x244002_1.length cx244002_1,.slice Ax244003_2 x244003_2.length cx244003_2,.slice Ax244004_3 x244004_3.length cx244004_3],box gb236 27 [.int .i64 0,.int .i64 0,.slice none 0 0,.slice none 0 0,.slice none 0 0],box g 111 [.slice As0_0 s0_0.length cs0_0,.int .i64 t269,.int .u64 t270]])
         case atStart=>exact ⟨0,_,t271,t272,t273,_,_,_,_,(by first | rfl | (simp;done) | (simp [*];done) | (rw [w6_ (by omega) (by omega)])),H,Nat.le_refl _,(((S.nl (e:=3) (atI .i64)).dk [0,0,1]).ms [1,1,1,0])⟩
         case round =>
          clear H S F
          obtain ⟨x83_3,x244004_3,x278000_3,x278001_3,x278002_3,Ax244004_3,cx244004_3,Ax278002_3,cx278002_3,rfl,HA,HK3,S⟩:=hrel
          have F:=S.fc
          cases gk with
          | zero=>exact absurd HA (by simp [spec_l1Cur_challenge.l2])
          | succ k3 =>
           have H:=HA;clear HA;simp only [spec_l1Cur_challenge.l2,F] at H
           replace H:=sp_ H;rcases H with ⟨c74,H⟩ | ⟨c74,H⟩
           · skip
             replace H:=np_ H;obtain ⟨c75,H⟩:=H
             replace H:=np_ H;obtain ⟨c76,H⟩:=H
             replace H:=Option.bind_eq_some_iff.mp H;obtain ⟨⟨t279,t280,t281,t282,t283,t284⟩,A77,H⟩:=H;(try dsimp only at H)
             replace H:=Option.bind_eq_some_iff.mp H;obtain ⟨t289,A78,H⟩:=H;(try dsimp only at H)
             replace H:=np_ H;obtain ⟨c79,H⟩:=H
             (first | (with_reducible replace H:=ob_ H;obtain ⟨y290,hy290,H⟩:=H;(try dsimp only at H)) | (obtain ⟨y290,hy290⟩:∃ y_:List Int,y_ = (x244004_3 ++ [t289]):=⟨_,rfl⟩;(try rw [← hy290] at H);(try simp only [Option.bind_some] at H)));have Ny290:=Aside0.mk hy290;clear hy290
             go_wp2_with (first | ((with_reducible refine gate_callee (f:=141) rfl (L ?_));refine cl (some 90) Try.func141 (spec_flRun.calls _ _ _ _ _ _ _ _ _ _ _ _ _ _ S.c S.n A77) (hargs:=by (simp only [ma_,mb_,mc_,F] <;> rfl)) (h:=?_);rintro e W ⟨v285,rfl,ho0,hb⟩;refine ⟨_,rfl,?_⟩;replace S:=S.got at42 hb ho0;obtain ⟨At284,ct284,rfl,S⟩:=S;clear F hb ho0;(try rw [← Ny244.out] at S);(try rw [← Ny290.out] at S);have F:=S.fc) | ((with_reducible refine gd 12 rfl (L ?_));refine al 12 S zi80 ?_;clear S F;intro gb287 W S;have F:=S.fc) | ((with_reducible refine gd 13 rfl (L ?_));refine al 13 S zi30 ?_;clear S F;intro gb288 W S;have F:=S.fc) | ((with_reducible refine gs (t:=30) rfl (L ?_));refine sb (.agg #[_,_,_]) S sz30 ?_;clear S F;intro W S;(try simp only [gd42] at S);(try rw [← Ny244.out] at S);(try rw [← Ny290.out] at S);have F:=S.fc) | ((with_reducible refine gs (t:=80) rfl (L ?_));refine sb (.agg #[_,_,_]) S sz80 ?_;clear S F;intro W S;(try simp only [gd42] at S);(try rw [← Ny244.out] at S);(try rw [← Ny290.out] at S);have F:=S.fc))
             refine rgP S (fun _ S=>(S.ms [1,1,1,0])) [(0,0),(1,1),(1,2),(1,3),(2,4),(2,5),(2,6),(0,7),(3,8)] [8] (by kernel_rfl) (by kernel_rfl) (fun _ d _ _ _ h=>by cases d <;> exact h) ?_;clear S F;intro W S;have S0:=(S.ms [1,1,1,0]);have F:=S.fc
             repeat (first | (refine q0 (h:=?_)) | (refine q1 S0 (h:=?_)))
             refine lk2 (by rfl) (by exact (Eq.refl true)) ?_;refine cl (some 97) Try.func142 (spec_syEnd.calls _ _ _ _ _ _ _ _ _ _ S.c S.n A78) (hargs:=by (simp only [ma_,mb_,mc_,F] <;> rfl)) (h:=?_);rintro e W ⟨rfl,hb⟩;refine ⟨_,rfl,?_⟩;replace S:=S.go hb;clear F hb;have F:=S.fc
             clear S0;have S0:=(S.ms [1,1,1,0]);refine ⟨S0,?_⟩
             refine lk2 (by rfl) (by exact (Eq.refl true)) ?_;refine lv 98 (cs:=[.int .i64 t289]) (e:=3) (by first | (go_simp;done) | (go_simp;rfl)) ?_
             clear S0;have S0:=St.al1 (S.ms [1,1,1,0]) (.cells (List.toArray [.int .i64 t289]) 3);refine ⟨S0,?_⟩
             refine lk2 (by rfl) (by exact (Eq.refl true)) ?_;refine apa (A:=Ax244004_3) 99 S Try.underlying25 info3 ?_ (ho:=rfl) (hs:=rfl) (hx:=rfl);clear S F;intro Ay290 cy290 W S;(try rw [← Ny244.out] at S ⊢);(try rw [← Ny290.out] at S ⊢);have F:=S.fc
             clear S0;have S0:=(S.ms [1,1,1,0]);refine ⟨S0,?_⟩
             repeat ((refine q0 (h:=?_)))
             refine lk3 (by rfl) (by exact (Eq.refl true)) ?_;(first | refine sb (.int _ _) S sz3 ?_ | refine ro (.int _ _) S sz3 ?_ (ho:=rfl) (hx:=rfl) (hy:=rfl) | refine sb (.slice _ _ _) S sz24 ?_ | refine ro (.slice _ _ _) S sz24 ?_ (ho:=rfl) (hx:=rfl) (hy:=rfl) | refine sb (.slice _ _ _) S sz25 ?_ | refine ro (.slice _ _ _) S sz25 ?_ (ho:=rfl) (hx:=rfl) (hy:=rfl) | refine sb (.agg #[_,_,_,_,_]) S sz27 ?_ | refine ro (.agg #[_,_,_,_,_]) S sz27 ?_ (ho:=rfl) (hx:=rfl) (hy:=rfl) | refine sb (.agg #[_,_,_]) S sz30 ?_ | refine ro (.agg #[_,_,_]) S sz30 ?_ (ho:=rfl) (hx:=rfl) (hy:=rfl) | refine sb (.agg #[_,_,_]) S sz80 ?_ | refine ro (.agg #[_,_,_]) S sz80 ?_ (ho:=rfl) (hx:=rfl) (hy:=rfl));clear S F;intro W S;(try simp only [gd42] at S);(try rw [← Ny244.out] at S);(try rw [← Ny290.out] at S);have F:=S.fc
             refine oz ?_
             try clear S0
             go_wp2_with ((with_reducible refine gs (t:=30) rfl (L ?_));refine sb (.agg #[_,_,_]) S sz30 ?_;clear S F;intro W S;(try simp only [gd42] at S);(try rw [← Ny244.out] at S);(try rw [← Ny290.out] at S);have F:=S.fc)
             go_roundg k3
             case measure=>omega
             case rel=>exact ⟨(wrap64 (x83_3 + 1)),y290,t282,t283,t284,_,_,_,_,(by first | rfl | (simp;done) | (simp [*];done) | (rw [w6_ (by omega) (by omega)])),H,(by first | omega | exact Nat.le_refl _),((S.fzrg At284 rfl).dk [0,2,3]).tl.tl.tl⟩
           · skip
             replace H:=Option.bind_eq_some_iff.mp H;obtain ⟨⟨t293,t294,t295⟩,A111,H⟩:=H;(try dsimp only at H)
             replace H:=sp_ H;rcases H with ⟨c112,H⟩ | ⟨c112,H⟩
             · skip
               subst c112
               replace H:=Option.bind_eq_some_iff.mp H;obtain ⟨⟨t296,t297,t298⟩,A113,H⟩:=H;(try dsimp only at H)
               replace H:=np_ H;obtain ⟨c114,H⟩:=H;(try have m_x244004_3:0 < x244004_3.length:=by omega)
               (first | (with_reducible replace H:=ob_ H;obtain ⟨y299,hy299,H⟩:=H;(try dsimp only at H)) | (obtain ⟨y299,hy299⟩:∃ y_:List Int,y_ = (x244004_3.set (0:Int).toNat t296):=⟨_,rfl⟩;(try rw [← hy299] at H);(try simp only [Option.bind_some] at H)));have Ny299:=Aside0.mk hy299;clear hy299
               simp only [Option.some.injEq,Prod.mk.injEq] at H
               obtain ⟨rfl,rfl,rfl,rfl,rfl,rfl,rfl⟩:=H
               go_wp2_with ((with_reducible refine gate_callee (f:=123) rfl (L ?_));refine cl (some 104) Try.func123 (spec_l1Cur_one.calls g _ _ _ _ _ _ _ _ _ _ _ S.hb (S.hge g) hS0_0 S.below A111) (hargs:=by (simp only [ma_,mb_,mc_,F] <;> rfl)) (h:=?_);rintro e W ⟨rfl,hi,hb,hk⟩;refine ⟨_,rfl,?_⟩;obtain ⟨W_,hs_,hm_,S⟩:=S.mid g hi hb hk;replace S:=S.go hm_;clear F hi hb hk hs_ hm_ ;(try rw [← Ny244.out] at S);(try rw [← Ny299.out] at S);have F:=S.fc)
               refine rgP S (fun _ S=>(S.ms [1,1,1,1,1,1,1,0])) [(0,0),(0,2),(0,3),(1,1),(1,4),(0,5),(2,6),(0,7),(3,8)] [8] (by kernel_rfl) (by kernel_rfl) (fun _ d _ _ _ h=>by cases d <;> exact h) ?_;clear S F;intro W S;have S0:=(S.ms [1,1,1,1,1,1,1,0]);have F:=S.fc
               repeat (first | (refine q0 (h:=?_)) | (refine q1 S0 (h:=?_)))
               refine lk2 (by rfl) (by exact (Eq.refl true)) ?_;refine cl (some 111) Try.func114 (spec_l1Cur_pick.calls g _ _ _ _ _ _ _ _ _ _ _ S.hb (S.hge g) hS0_0 S.below A113) (hargs:=by (simp only [ma_,mb_,mc_,F] <;> rfl)) (h:=?_);rintro e W ⟨rfl,hi,hb,hk⟩;refine ⟨_,rfl,?_⟩;obtain ⟨W_,hs_,hm_,S⟩:=S.mid g hi hb hk;replace S:=S.go hm_;clear F hi hb hk hs_ hm_ ;(try rw [← Ny244.out] at S);(try rw [← Ny299.out] at S);have F:=S.fc
               clear S0;have S0:=(S.ms [1,1,1,1,1,1,1,0]);refine ⟨S0,?_⟩
               repeat ((refine q0 (h:=?_)))
               refine lk3 (by rfl) (by exact (Eq.refl true)) ?_;(first | refine sb (.int _ _) S sz3 ?_ | refine ro (.int _ _) S sz3 ?_ (ho:=rfl) (hx:=rfl) (hy:=rfl) | refine sb (.slice _ _ _) S sz24 ?_ | refine ro (.slice _ _ _) S sz24 ?_ (ho:=rfl) (hx:=rfl) (hy:=rfl) | refine sb (.slice _ _ _) S sz25 ?_ | refine ro (.slice _ _ _) S sz25 ?_ (ho:=rfl) (hx:=rfl) (hy:=rfl) | refine sb (.agg #[_,_,_,_,_]) S sz27 ?_ | refine ro (.agg #[_,_,_,_,_]) S sz27 ?_ (ho:=rfl) (hx:=rfl) (hy:=rfl) | refine sb (.agg #[_,_,_]) S sz30 ?_ | refine ro (.agg #[_,_,_]) S sz30 ?_ (ho:=rfl) (hx:=rfl) (hy:=rfl) | refine sb (.agg #[_,_,_]) S sz80 ?_ | refine ro (.agg #[_,_,_]) S sz80 ?_ (ho:=rfl) (hx:=rfl) (hy:=rfl));clear S F;intro W S;(try simp only [gd42] at S);(try rw [← Ny244.out] at S);(try rw [← Ny299.out] at S);have F:=S.fc
               refine oz ?_
               try clear S0
               go_wp2_with ((with_reducible refine gs (t:=27) rfl (L ?_));refine sb (.agg #[_,_,_,_,_]) S sz27 ?_;clear S F;intro W S;(try simp only [gd42] at S);(try rw [← Ny244.out] at S);(try rw [← Ny299.out] at S);have F:=S.fc)
               refine bodyPost_ret (results_cell_row rfl _ _ gb236 27 #[.int .i64 (wrap64 (1 + t237)),.int .i64 (wrap64 (1 + t240)),.slice Ax244002_1 x244002_1.length cx244002_1,.slice Ax244003_2 x244003_2.length cx244003_2,.slice Ax244004_3 x244004_3.length cx244004_3] (0,0) _ rfl S.hb Try.underlying27 rfl (by kernel_rfl)) rfl ?_
               exact ⟨_,_,_,(by first | rfl | (simp;done) | first | rfl | (simp [e0_,e1_] <;> rfl) | (simp [*,e0_,e1_] <;> rfl)),(by first | exact S.ru | exact Kd.R_nil _ _ _ _ _),(by first | exact S.run | exact Kd.R_nil _ _ _ _ _),(by first | exact S.run | exact Kd.R_nil _ _ _ _ _),(by first | exact S.hb | simpa using S.hb (g:=g)),S.below,S.kept⟩
             · skip
               replace c112:=cbf c112;subst c112
               simp only [Option.some.injEq,Prod.mk.injEq] at H
               obtain ⟨rfl,rfl,rfl,rfl,rfl,rfl,rfl⟩:=H
               go_wp2_with (first | ((with_reducible refine gate_callee (f:=123) rfl (L ?_));refine cl (some 104) Try.func123 (spec_l1Cur_one.calls g _ _ _ _ _ _ _ _ _ _ _ S.hb (S.hge g) hS0_0 S.below A111) (hargs:=by (simp only [ma_,mb_,mc_,F] <;> rfl)) (h:=?_);rintro e W ⟨rfl,hi,hb,hk⟩;refine ⟨_,rfl,?_⟩;obtain ⟨W_,hs_,hm_,S⟩:=S.mid g hi hb hk;replace S:=S.go hm_;clear F hi hb hk hs_ hm_ ;(try rw [← Ny244.out] at S);have F:=S.fc) | ((with_reducible refine gs (t:=27) rfl (L ?_));refine sb (.agg #[_,_,_,_,_]) S sz27 ?_;clear S F;intro W S;(try simp only [gd42] at S);(try rw [← Ny244.out] at S);have F:=S.fc))
               refine bodyPost_ret (results_cell_row rfl _ _ gb236 27 #[.int .i64 (wrap64 (1 + t237)),.int .i64 (wrap64 (1 + t240)),.slice Ax244002_1 x244002_1.length cx244002_1,.slice Ax244003_2 x244003_2.length cx244003_2,.slice Ax244004_3 x244004_3.length cx244004_3] (0,0) _ rfl S.hb Try.underlying27 rfl (by kernel_rfl)) rfl ?_
               exact ⟨_,_,_,(by first | rfl | (simp;done) | first | rfl | (simp [e0_,e1_] <;> rfl) | (simp [*,e0_,e1_] <;> rfl)),(by first | exact S.ru | exact Kd.R_nil _ _ _ _ _),(by first | exact S.run | exact Kd.R_nil _ _ _ _ _),(by first | exact S.run | exact Kd.R_nil _ _ _ _ _),(by first | exact S.hb | simpa using S.hb (g:=g)),S.below,S.kept⟩

/-! ### spec_paTurning: function 214 -/
def spec_paTurning.f (a0_0:Int) (a0_1:Int):Option (Bool):=if a0_0 = 3 then (some true) else (some (a0_0 == 6))
theorem spec_paTurning.calls (a0_0:Int) (a0_1:Int) (r:Bool) (w:World) (h:spec_paTurning.f a0_0 a0_1 = some r) :
    Calls Try.prog 214 #[.agg #[.int .i64 a0_0,.int .i64 a0_1]] w fun e w'=>e = .returned (.bool r)∧Below w.heap.size w w':=by
 have S:=St.init (w:=w) dn
 have F:=S.fc
 have H:=h;clear h;unfold spec_paTurning.f at H
 replace H:=sp_ H;rcases H with ⟨c2,H⟩ | ⟨c2,H⟩
 · skip
   replace c2:=ceq c2
   obtain rfl:=Option.some.inj H
   go_enter Try.func214,Try.ntmps214
   go_wp2_with ((with_reducible refine gd 1 rfl (L ?_));refine bo 1 (.agg #[_,_]) S ?_;clear S F;intro gb300 W S;have F:=S.fc)
   go_ret
   exact ⟨(by first | rfl | (simp [e0_,e1_] <;> rfl) | (simp [*,e0_,e1_] <;> rfl)),S.below⟩
 · skip
   replace c2:=cne c2
   obtain rfl:=Option.some.inj H
   go_enter Try.func214,Try.ntmps214
   go_wp2_with ((with_reducible refine gd 1 rfl (L ?_));refine bo 1 (.agg #[_,_]) S ?_;clear S F;intro gb300 W S;have F:=S.fc)
   go_ret
   exact ⟨(by first | rfl | (simp [e0_,e1_] <;> rfl) | (simp [*,e0_,e1_] <;> rfl)),S.below⟩

/-! ### spec_paAll: function 189 -/
def spec_paAll.l0:Nat→List (S42)→Int→Option ((List (S42)))
  | 0,_,_=>none
  | k + 1,x1,x2=>if x2 ≤ 7 then (if x1.length < 8796093022208 then ((some (x1 ++ [(⟨x2,0⟩:S42)]:List (S42))).bind fun y301=>((spec_paTurning.f x2 1).bind fun t305=>(if t305 = true then (if y301.length < 8796093022208 then (spec_paAll.l0 k (y301 ++ [(⟨x2,1⟩:S42)]) (wrap64 (x2 + 1))) else (none)) else (spec_paAll.l0 k y301 (wrap64 (x2 + 1)))))) else (none)) else (some x1)
def spec_paAll.f (k:Nat)  : Option ((List (S42))):=spec_paAll.l0 k ([]:List (S42)) 0
theorem spec_paAll.calls (k:Nat)  (r:List (S42)) (w:World) (h:spec_paAll.f k  = some r) :
    Calls Try.prog 189 #[] w fun e w'=>∃ v0_:Value,e = .returned (v0_)∧Kd.R k42 42 w' w.heap.size (fun _=>True) v0_ r∧Below w.heap.size w w':=by
 have S:=St.init (w:=w) dn
 have F:=S.fc
 have H:=h;clear h;unfold spec_paAll.f at H
 go_enter Try.func189,Try.ntmps189
 go_wp2
 go_loopg [1,2] k (fun kq v1 v2 w'=>∃ (x1_1:List (S42)) (x2_1:Int) (Ax1_1:Option Addr) (cx1_1:Nat),v2 = .int .i64 x2_1∧v1 = .slice Ax1_1 x1_1.length cx1_1∧spec_paAll.l0 kq x1_1 x2_1 = some r∧kq ≤ k∧St w w (fun _=>False) [] w'  [row at42 42 Ax1_1 x1_1.length cx1_1 x1_1])
 case atStart=>exact ⟨_,0,_,_,(by first | rfl | (simp;done) | (simp [*];done) | (rw [w6_ (by omega) (by omega)])),rfl,H,Nat.le_refl _,(S.nl (e:=42) at42)⟩
 case round =>
  clear H S F
  obtain ⟨x1_1,x2_1,Ax1_1,cx1_1,rfl,rfl,HA,HK1,S⟩:=hrel
  have F:=S.fc
  cases gk with
  | zero=>exact absurd HA (by simp [spec_paAll.l0])
  | succ k1 =>
   have H:=HA;clear HA;simp only [spec_paAll.l0,F] at H
   replace H:=sp_ H;rcases H with ⟨c1,H⟩ | ⟨c1,H⟩
   · skip
     replace H:=np_ H;obtain ⟨c2,H⟩:=H
     (first | (with_reducible replace H:=ob_ H;obtain ⟨y301,hy301,H⟩:=H;(try dsimp only at H)) | (obtain ⟨y301,hy301⟩:∃ y_:List (S42),y_ = (x1_1 ++ [(⟨x2_1,0⟩:S42)]):=⟨_,rfl⟩;(try rw [← hy301] at H);(try simp only [Option.bind_some] at H)));have Ny301:=Aside0.mk hy301;clear hy301
     replace H:=Option.bind_eq_some_iff.mp H;obtain ⟨t305,A3,H⟩:=H;(try dsimp only at H)
     replace H:=sp_ H;rcases H with ⟨c4,H⟩ | ⟨c4,H⟩
     · skip
       subst c4
       replace H:=np_ H;obtain ⟨c5,H⟩:=H
       (first | (with_reducible replace H:=ob_ H;obtain ⟨y306,hy306,H⟩:=H;(try dsimp only at H)) | (obtain ⟨y306,hy306⟩:∃ y_:List (S42),y_ = (y301 ++ [(⟨x2_1,1⟩:S42)]):=⟨_,rfl⟩;(try rw [← hy306] at H);(try simp only [Option.bind_some] at H)));have Ny306:=Aside0.mk hy306;clear hy306
       go_wp2_with (first | ((with_reducible refine gd 12 rfl (L ?_));refine apa (A:=Ax1_1) 12 S Try.underlying24 info42 ?_ (ho:=rfl) (hs:=rfl) (hx:=rfl);clear S F;intro Ay301 cy301 W S;(try rw [← Ny301.out] at S ⊢);(try rw [← Ny306.out] at S ⊢);have F:=S.fc) | ((with_reducible refine gd 3 rfl (L ?_));refine al 3 S zi42 ?_;clear S F;intro gb304 W S;have F:=S.fc) | ((with_reducible refine gate_callee (f:=214) rfl (L ?_));refine cl (some 16) Try.func214 (spec_paTurning.calls _ _ _ _ A3) (hargs:=by (simp only [ma_,mb_,mc_,F] <;> rfl)) (h:=?_);rintro e W ⟨rfl,hb⟩;refine ⟨_,rfl,?_⟩;replace S:=S.go hb;clear F hb;have F:=S.fc) | ((with_reducible refine gd 20 rfl (L ?_));refine apa (A:=Ay301) 20 S Try.underlying24 info42 ?_ (ho:=rfl) (hs:=rfl) (hx:=rfl);clear S F;intro Ay306 cy306 W S;(try rw [← Ny301.out] at S ⊢);(try rw [← Ny306.out] at S ⊢);have F:=S.fc) | ((with_reducible refine gs (t:=42) rfl (L ?_));refine sb (.agg #[_,_]) S sz42 ?_;clear S F;intro W S;(try rw [← Ny301.out] at S);(try rw [← Ny306.out] at S);have F:=S.fc))
       go_roundg k1
       case measure=>omega
       case rel=>exact ⟨y306,(wrap64 (x2_1 + 1)),_,_,(by first | rfl | (simp;done) | (simp [*];done) | (rw [w6_ (by omega) (by omega)])),rfl,H,(by first | omega | exact Nat.le_refl _),S.tl⟩
     · skip
       replace c4:=cbf c4;subst c4
       go_wp2_with (first | ((with_reducible refine gd 12 rfl (L ?_));refine apa (A:=Ax1_1) 12 S Try.underlying24 info42 ?_ (ho:=rfl) (hs:=rfl) (hx:=rfl);clear S F;intro Ay301 cy301 W S;(try rw [← Ny301.out] at S ⊢);have F:=S.fc) | ((with_reducible refine gd 3 rfl (L ?_));refine al 3 S zi42 ?_;clear S F;intro gb304 W S;have F:=S.fc) | ((with_reducible refine gate_callee (f:=214) rfl (L ?_));refine cl (some 16) Try.func214 (spec_paTurning.calls _ _ _ _ A3) (hargs:=by (simp only [ma_,mb_,mc_,F] <;> rfl)) (h:=?_);rintro e W ⟨rfl,hb⟩;refine ⟨_,rfl,?_⟩;replace S:=S.go hb;clear F hb;have F:=S.fc) | ((with_reducible refine gs (t:=42) rfl (L ?_));refine sb (.agg #[_,_]) S sz42 ?_;clear S F;intro W S;(try rw [← Ny301.out] at S);have F:=S.fc))
       go_roundg k1
       case measure=>omega
       case rel=>exact ⟨y301,(wrap64 (x2_1 + 1)),_,_,(by first | rfl | (simp;done) | (simp [*];done) | (rw [w6_ (by omega) (by omega)])),rfl,H,(by first | omega | exact Nat.le_refl _),S.tl⟩
   · skip
     obtain rfl:=Option.some.inj H
     go_wp2
     go_ret
     exact ⟨_,(by first | rfl | (simp [e0_,e1_] <;> rfl) | (simp [*,e0_,e1_] <;> rfl)),(by first | exact S.r | exact Kd.R_nil _ _ _ _ _),S.below⟩

/-! ### spec_l1Cur_anyChallenge: function 135 -/
mutual
def spec_l1Cur_anyChallenge.l0:Nat→Int→List Int→Int→Int→Int→Int→List (S42)→List Int→List Int→Option (Int × Int × (List (S42)) × List Int × List Int × Int × Int)
  | 0,_,_,_,_,_,_,_,_,_=>none
  | k + 1,x4,x1000,x1001,x1002,x324000,x324001,x324002,x324003,x324004=>if (x324003.length:Int) < x4 then (if x324003.length < 17592186044416 then (if x324004.length < 17592186044416 then (spec_l1Cur_anyChallenge.l0 k x4 x1000 x1001 x1002 x324000 x324001 x324002 (x324003 ++ [0]) (x324004 ++ [0])) else (none)) else (none)) else (some (x324000,x324001,x324002,x324003,x324004,x1001,x1002))
def spec_l1Cur_anyChallenge.l1:Nat→Int→List Int→Int→Int→Int→Int→List (S42)→List Int→List Int→Option (Int × Int × (List (S42)) × List Int × List Int × Int × Int)
  | 0,_,_,_,_,_,_,_,_,_=>none
  | k + 1,x5,x1000,x1001,x1002,x324000,x324001,x324002,x324003,x324004=>if (x324002.length:Int) < x5 then ((spec_paAll.f k).bind fun t378=>(if 0 ≤ (wrap64 (1 + (x324002.length:Int))) then (if (wrap64 (1 + (x324002.length:Int))) < (t378.length:Int) then (if x324002.length < 8796093022208 then (spec_l1Cur_anyChallenge.l1 k x5 x1000 x1001 x1002 x324000 x324001 (x324002 ++ [(⟨(rd_T42 t378 (wrap64 (1 + (x324002.length:Int)))).f0,(rd_T42 t378 (wrap64 (1 + (x324002.length:Int)))).f1⟩:S42)]) x324003 x324004) else (none)) else (none)) else (none))) else (some (x324000,x324001,x324002,x324003,x324004,x1001,x1002))
end
def spec_l1Cur_anyChallenge.f (k:Nat) (s0_0:List Int) (s0_1:Int) (s0_2:Int):Option (Int × Int × (List (S42)) × List Int × List Int × Int × Int):=(spec_l1Cur_challenge.f k s0_0 s0_1 s0_2).bind fun bt310=>((spec_l1Cur_pick.f s0_0 bt310.2.2.2.2.2.1 bt310.2.2.2.2.2.2 36).bind fun bt324=>(if bt324.1 = 0 then ((spec_l1Cur_among.f s0_0 bt324.2.1 bt324.2.2 (([0,4,5]:List Int))).bind fun bt330=>(some (bt330.1,bt310.2.1,bt310.2.2.1,bt310.2.2.2.1,bt310.2.2.2.2.1,bt330.2.1,bt330.2.2))) else (if bt324.1 = 1 then ((spec_l1Cur_among.f s0_0 bt324.2.1 bt324.2.2 (([0,4,5]:List Int))).bind fun bt336=>(some (bt310.1,bt336.1,bt310.2.2.1,bt310.2.2.2.1,bt310.2.2.2.2.1,bt336.2.1,bt336.2.2))) else (if bt324.1 = 2 then (if 0 < (bt310.2.2.1.length:Int) then (if bt310.2.2.1.length < 8796093022208 then (some (bt310.1,bt310.2.1,(bt310.2.2.1 ++ [(⟨(rd_T42 bt310.2.2.1 0).f0,(rd_T42 bt310.2.2.1 0).f1⟩:S42)]),bt310.2.2.2.1,bt310.2.2.2.2.1,bt324.2.1,bt324.2.2)) else (none)) else (none)) else (if bt324.1 = 3 then (if bt310.2.2.1.length < 8796093022208 then (some (bt310.1,bt310.2.1,(bt310.2.2.1 ++ [(⟨0,0⟩:S42)]),bt310.2.2.2.1,bt310.2.2.2.2.1,bt324.2.1,bt324.2.2)) else (none)) else (if bt324.1 = 4 then (some (bt310.1,bt310.2.1,([]:List (S42)),bt310.2.2.2.1,bt310.2.2.2.2.1,bt324.2.1,bt324.2.2)) else (if bt324.1 = 5 then ((spec_l1Cur_among.f s0_0 bt324.2.1 bt324.2.2 (([(-1),bt310.2.1]:List Int))).bind fun bt349=>(if 0 < (bt310.2.2.2.1.length:Int) then (some (bt310.1,bt310.2.1,bt310.2.2.1,(bt310.2.2.2.1.set (0:Int).toNat bt349.1),bt310.2.2.2.2.1,bt349.2.1,bt349.2.2)) else (none))) else (if bt324.1 = 6 then ((spec_l1Cur_among.f s0_0 bt324.2.1 bt324.2.2 (([(-1),wrap64 (bt310.2.1 + 2)]:List Int))).bind fun bt356=>(if 0 < (bt310.2.2.2.2.1.length:Int) then (some (bt310.1,bt310.2.1,bt310.2.2.1,bt310.2.2.2.1,(bt310.2.2.2.2.1.set (0:Int).toNat bt356.1),bt356.2.1,bt356.2.2)) else (none))) else (if bt324.1 = 7 then ((spec_l1Cur_pick.f s0_0 bt324.2.1 bt324.2.2 2).bind fun bt360=>(spec_l1Cur_anyChallenge.l0 k (wrap64 (8 + bt360.1)) s0_0 bt360.2.1 bt360.2.2 bt310.1 bt310.2.1 bt310.2.2.1 bt310.2.2.2.1 bt310.2.2.2.2.1)) else (if bt324.1 = 8 then ((spec_l1Cur_pick.f s0_0 bt324.2.1 bt324.2.2 2).bind fun bt375=>(spec_l1Cur_anyChallenge.l1 k (wrap64 (6 + bt375.1)) s0_0 bt375.2.1 bt375.2.2 1 1 ([]:List (S42)) (([0]:List Int)) (([0]:List Int)))) else (if bt324.1 = 9 then ((some (([(⟨3,0⟩:S42),(⟨2,0⟩:S42)]:List (S42)):List (S42))).bind fun y385=>((some (([0,1]:List Int):List Int)).bind fun y388=>((some (([1,1]:List Int):List Int)).bind fun y391=>((spec_l1Cur_one.f s0_0 bt324.2.1 bt324.2.2 2).bind fun bt394=>(if bt394.1 = true then (if y385.length < 8796093022208 then (some (2,4,(y385 ++ [(⟨1,0⟩:S42)]),y388,y391,bt394.2.1,bt394.2.2)) else (none)) else (some (2,4,y385,y388,y391,bt394.2.1,bt394.2.2))))))) else (some (bt310.1,bt310.2.1,bt310.2.2.1,bt310.2.2.2.1,bt310.2.2.2.2.1,bt324.2.1,bt324.2.2)))))))))))))
theorem spec_l1Cur_anyChallenge.calls (k:Nat) (g:Nat) (s0_0:List Int) (s0_1:Int) (s0_2:Int) (r1:Int) (r2:Int) (r3:List (S42)) (r4:List Int) (r5:List Int) (r6:Int) (r7:Int) (As0_0:Option Addr) (cs0_0:Nat) (w0 w:World) (hI:w.heap[g]? = some (.cells #[.slice As0_0 s0_0.length cs0_0,.int .i64 s0_1,.int .u64 s0_2] 111 (0,0))) (hG:w0.heap.size ≤ g) (hS0_0:Kd.C (Kd.int .u8) w0 As0_0 s0_0.length s0_0) (hB:Below w0.heap.size w0 w) (h:spec_l1Cur_anyChallenge.f k s0_0 s0_1 s0_2 = some (r1,r2,r3,r4,r5,r6,r7)) :
    Calls Try.prog 135 #[.pointer (some ⟨g,0,none⟩)] w fun e w'=>∃ v2_ v3_ v4_:Value,e = .returned (.agg #[.int .i64 r1,.int .i64 r2,v2_,v3_,v4_])∧Kd.R k42 42 w' w.heap.size (fun _=>True) v2_ r3∧Kd.R (Kd.int .i64) 3 w' w.heap.size (fun k_=>some k_ ≠ (v4_:Value).ownBlock) v3_ r4∧Kd.R (Kd.int .i64) 3 w' w.heap.size (fun k_=>some k_ ≠ (v3_:Value).ownBlock) v4_ r5∧w'.heap[g]? = some (.cells #[.slice As0_0 s0_0.length cs0_0,.int .i64 r6,.int .u64 r7] 111 (0,0))∧Below w0.heap.size w0 w'∧Kept w w' (fun k_=>k_ = g):=by
 have S:=St.boxed hB hG hI (dg (Kd.heap_int .u8) (atI .u8) hS0_0 hB hG dn)
 clear hI hB
 have F:=S.fc
 have H:=h;clear h;unfold spec_l1Cur_anyChallenge.f at H
 replace H:=Option.bind_eq_some_iff.mp H;obtain ⟨⟨t310,t311,t312,t315,t318,t321,t322⟩,A2,H⟩:=H;(try dsimp only at H)
 replace H:=Option.bind_eq_some_iff.mp H;obtain ⟨⟨t324,t325,t326⟩,A3,H⟩:=H;(try dsimp only at H)
 replace H:=sp_ H;rcases H with ⟨c4,H⟩ | ⟨c4,H⟩
 · skip
   replace c4:=ceq c4
   (first | (with_reducible replace H:=ob_ H;obtain ⟨y327,hy327,H⟩:=H;(try dsimp only at H)) | (obtain ⟨y327,hy327⟩:∃ y_:List Int,y_ = (([0,4,5]:List Int)):=⟨_,rfl⟩;(try rw [← hy327] at H);(try simp only [Option.bind_some] at H)));have Ny327:=Aside0.mk hy327;clear hy327
   replace H:=Option.bind_eq_some_iff.mp H;obtain ⟨⟨t330,t331,t332⟩,A5,H⟩:=H;(try dsimp only at H)
   simp only [Option.some.injEq,Prod.mk.injEq] at H
   obtain ⟨rfl,rfl,rfl,rfl,rfl,rfl,rfl⟩:=H
   go_enter Try.func135,Try.ntmps135
   go_wp2_with (first | ((with_reducible refine gd 2 rfl (L ?_));refine al 2 S zi27 ?_;clear S F;intro gb309 W S;have F:=S.fc) | ((with_reducible refine gate_callee (f:=186) rfl (L ?_));refine cl (some 7) Try.func186 (spec_l1Cur_challenge.calls _ g _ _ _ _ _ _ _ _ _ _ _ _ _ _ S.hb (S.hge g) hS0_0 S.below A2) (hargs:=by (simp only [ma_,mb_,mc_,F] <;> rfl)) (h:=?_);rintro e W ⟨v313,v316,v319,rfl,ho0,ho1,ho2,hi,hb,hk⟩;refine ⟨_,rfl,?_⟩;obtain ⟨W_,hs_,hm_,S⟩:=S.mid g hi hb hk;rw [← hs_] at ho0;rw [← hs_] at ho1;rw [← hs_] at ho2;replace S:=S.got3i at42 (atI .i64) (atI .i64) hm_ ho0 ho1 ho2 (by decide);obtain ⟨At312,ct312,At315,ct315,At318,ct318,rfl,rfl,rfl,S⟩:=S;clear F hi hb hk hs_ hm_ ho0 ho1 ho2;(try rw [← Ny327.out] at S);have F:=S.fc) | ((with_reducible refine gd 3 rfl (L ?_));refine al 3 S zi27 ?_;clear S F;intro gb323 W S;have F:=S.fc) | ((with_reducible refine gate_callee (f:=114) rfl (L ?_));refine cl (some 9) Try.func114 (spec_l1Cur_pick.calls g _ _ _ _ _ _ _ _ _ _ _ S.hb (S.hge g) hS0_0 S.below A3) (hargs:=by (simp only [ma_,mb_,mc_,F] <;> rfl)) (h:=?_);rintro e W ⟨rfl,hi,hb,hk⟩;refine ⟨_,rfl,?_⟩;obtain ⟨W_,hs_,hm_,S⟩:=S.mid g hi hb hk;replace S:=S.go hm_;clear F hi hb hk hs_ hm_ ;(try rw [← Ny327.out] at S);have F:=S.fc) | ((with_reducible refine gd 13 rfl (L ?_));refine lia 13 (atI .i64) 3 S ([0,4,5]:List Int) (fun _ _=>(Reps.one (show Kd.M (Kd.int .i64) _ _ _ 0 [.int .i64 0] from rfl) (Reps.one (show Kd.M (Kd.int .i64) _ _ _ 4 [.int .i64 4] from rfl) (Reps.one (show Kd.M (Kd.int .i64) _ _ _ 5 [.int .i64 5] from rfl) (Reps.none _ _))))) (by first | (go_simp;done) | (go_simp;rfl)) ?_;clear S F;intro Ay327 cy327 W S;(try rw [← Ny327.out] at S ⊢);have F:=S.fc) | ((with_reducible refine gate_callee (f:=118) rfl (L ?_));refine cl (some 14) Try.func118 (spec_l1Cur_among.calls g _ _ _ _ _ _ _ _ _ _ _ _ _ S.hb (S.hge g) hS0_0 S.below S.cg S.n A5) (hargs:=by (simp only [ma_,mb_,mc_,F] <;> rfl)) (h:=?_);rintro e W ⟨rfl,hi,hb,hk⟩;refine ⟨_,rfl,?_⟩;obtain ⟨W_,hs_,hm_,S⟩:=S.mid g hi hb hk;replace S:=S.go hm_;clear F hi hb hk hs_ hm_ ;(try rw [← Ny327.out] at S);have F:=S.fc) | ((with_reducible refine gs (t:=3) rfl (L ?_));refine sb (.int _ _) S sz3 ?_;clear S F;intro W S;(try simp only [gd42] at S);(try rw [← Ny327.out] at S);have F:=S.fc) | ((with_reducible refine gs (t:=27) rfl (L ?_));refine sb (.agg #[_,_,_,_,_]) S sz27 ?_;clear S F;intro W S;(try simp only [gd42] at S);(try rw [← Ny327.out] at S);have F:=S.fc))
   refine bodyPost_ret (results_cell_row rfl _ _ gb309 27 #[.int .i64 t330,.int .i64 t311,.slice At312 t312.length ct312,.slice At315 t315.length ct315,.slice At318 t318.length ct318] (0,0) _ rfl S.hb Try.underlying27 rfl (by kernel_rfl)) rfl ?_
   exact ⟨_,_,_,(by first | rfl | (simp;done) | first | rfl | (simp [e0_,e1_] <;> rfl) | (simp [*,e0_,e1_] <;> rfl)),(by first | exact S.ru | exact Kd.R_nil _ _ _ _ _),(by first | exact S.run | exact Kd.R_nil _ _ _ _ _),(by first | exact S.run | exact Kd.R_nil _ _ _ _ _),(by first | exact S.hb | simpa using S.hb (g:=g)),S.below,S.kept⟩
 · skip
   replace c4:=cne c4
   replace H:=sp_ H;rcases H with ⟨c23,H⟩ | ⟨c23,H⟩
   · skip
     replace c23:=ceq c23
     (first | (with_reducible replace H:=ob_ H;obtain ⟨y333,hy333,H⟩:=H;(try dsimp only at H)) | (obtain ⟨y333,hy333⟩:∃ y_:List Int,y_ = (([0,4,5]:List Int)):=⟨_,rfl⟩;(try rw [← hy333] at H);(try simp only [Option.bind_some] at H)));have Ny333:=Aside0.mk hy333;clear hy333
     replace H:=Option.bind_eq_some_iff.mp H;obtain ⟨⟨t336,t337,t338⟩,A24,H⟩:=H;(try dsimp only at H)
     simp only [Option.some.injEq,Prod.mk.injEq] at H
     obtain ⟨rfl,rfl,rfl,rfl,rfl,rfl,rfl⟩:=H
     go_enter Try.func135,Try.ntmps135
     go_wp2_with (first | ((with_reducible refine gd 2 rfl (L ?_));refine al 2 S zi27 ?_;clear S F;intro gb309 W S;have F:=S.fc) | ((with_reducible refine gate_callee (f:=186) rfl (L ?_));refine cl (some 7) Try.func186 (spec_l1Cur_challenge.calls _ g _ _ _ _ _ _ _ _ _ _ _ _ _ _ S.hb (S.hge g) hS0_0 S.below A2) (hargs:=by (simp only [ma_,mb_,mc_,F] <;> rfl)) (h:=?_);rintro e W ⟨v313,v316,v319,rfl,ho0,ho1,ho2,hi,hb,hk⟩;refine ⟨_,rfl,?_⟩;obtain ⟨W_,hs_,hm_,S⟩:=S.mid g hi hb hk;rw [← hs_] at ho0;rw [← hs_] at ho1;rw [← hs_] at ho2;replace S:=S.got3i at42 (atI .i64) (atI .i64) hm_ ho0 ho1 ho2 (by decide);obtain ⟨At312,ct312,At315,ct315,At318,ct318,rfl,rfl,rfl,S⟩:=S;clear F hi hb hk hs_ hm_ ho0 ho1 ho2;(try rw [← Ny333.out] at S);have F:=S.fc) | ((with_reducible refine gd 3 rfl (L ?_));refine al 3 S zi27 ?_;clear S F;intro gb323 W S;have F:=S.fc) | ((with_reducible refine gate_callee (f:=114) rfl (L ?_));refine cl (some 9) Try.func114 (spec_l1Cur_pick.calls g _ _ _ _ _ _ _ _ _ _ _ S.hb (S.hge g) hS0_0 S.below A3) (hargs:=by (simp only [ma_,mb_,mc_,F] <;> rfl)) (h:=?_);rintro e W ⟨rfl,hi,hb,hk⟩;refine ⟨_,rfl,?_⟩;obtain ⟨W_,hs_,hm_,S⟩:=S.mid g hi hb hk;replace S:=S.go hm_;clear F hi hb hk hs_ hm_ ;(try rw [← Ny333.out] at S);have F:=S.fc) | ((with_reducible refine gd 19 rfl (L ?_));refine lia 19 (atI .i64) 3 S ([0,4,5]:List Int) (fun _ _=>(Reps.one (show Kd.M (Kd.int .i64) _ _ _ 0 [.int .i64 0] from rfl) (Reps.one (show Kd.M (Kd.int .i64) _ _ _ 4 [.int .i64 4] from rfl) (Reps.one (show Kd.M (Kd.int .i64) _ _ _ 5 [.int .i64 5] from rfl) (Reps.none _ _))))) (by first | (go_simp;done) | (go_simp;rfl)) ?_;clear S F;intro Ay333 cy333 W S;(try rw [← Ny333.out] at S ⊢);have F:=S.fc) | ((with_reducible refine gate_callee (f:=118) rfl (L ?_));refine cl (some 20) Try.func118 (spec_l1Cur_among.calls g _ _ _ _ _ _ _ _ _ _ _ _ _ S.hb (S.hge g) hS0_0 S.below S.cg S.n A24) (hargs:=by (simp only [ma_,mb_,mc_,F] <;> rfl)) (h:=?_);rintro e W ⟨rfl,hi,hb,hk⟩;refine ⟨_,rfl,?_⟩;obtain ⟨W_,hs_,hm_,S⟩:=S.mid g hi hb hk;replace S:=S.go hm_;clear F hi hb hk hs_ hm_ ;(try rw [← Ny333.out] at S);have F:=S.fc) | ((with_reducible refine gs (t:=3) rfl (L ?_));refine sb (.int _ _) S sz3 ?_;clear S F;intro W S;(try simp only [gd42] at S);(try rw [← Ny333.out] at S);have F:=S.fc) | ((with_reducible refine gs (t:=27) rfl (L ?_));refine sb (.agg #[_,_,_,_,_]) S sz27 ?_;clear S F;intro W S;(try simp only [gd42] at S);(try rw [← Ny333.out] at S);have F:=S.fc))
     refine bodyPost_ret (results_cell_row rfl _ _ gb309 27 #[.int .i64 t310,.int .i64 t336,.slice At312 t312.length ct312,.slice At315 t315.length ct315,.slice At318 t318.length ct318] (0,0) _ rfl S.hb Try.underlying27 rfl (by kernel_rfl)) rfl ?_
     exact ⟨_,_,_,(by first | rfl | (simp;done) | first | rfl | (simp [e0_,e1_] <;> rfl) | (simp [*,e0_,e1_] <;> rfl)),(by first | exact S.ru | exact Kd.R_nil _ _ _ _ _),(by first | exact S.run | exact Kd.R_nil _ _ _ _ _),(by first | exact S.run | exact Kd.R_nil _ _ _ _ _),(by first | exact S.hb | simpa using S.hb (g:=g)),S.below,S.kept⟩
   · skip
     replace c23:=cne c23
     replace H:=sp_ H;rcases H with ⟨c42,H⟩ | ⟨c42,H⟩
     · skip
       replace c42:=ceq c42
       replace H:=np_ H;obtain ⟨c43,H⟩:=H
       replace H:=np_ H;obtain ⟨c44,H⟩:=H
       (first | (with_reducible replace H:=ob_ H;obtain ⟨y340,hy340,H⟩:=H;(try dsimp only at H)) | (obtain ⟨y340,hy340⟩:∃ y_:List (S42),y_ = (t312 ++ [(⟨(rd_T42 t312 0).f0,(rd_T42 t312 0).f1⟩:S42)]):=⟨_,rfl⟩;(try rw [← hy340] at H);(try simp only [Option.bind_some] at H)));have Ny340:=Aside0.mk hy340;clear hy340
       simp only [Option.some.injEq,Prod.mk.injEq] at H
       obtain ⟨rfl,rfl,rfl,rfl,rfl,rfl,rfl⟩:=H
       go_enter Try.func135,Try.ntmps135
       go_wp2_with (first | ((with_reducible refine gd 2 rfl (L ?_));refine al 2 S zi27 ?_;clear S F;intro gb309 W S;have F:=S.fc) | ((with_reducible refine gate_callee (f:=186) rfl (L ?_));refine cl (some 7) Try.func186 (spec_l1Cur_challenge.calls _ g _ _ _ _ _ _ _ _ _ _ _ _ _ _ S.hb (S.hge g) hS0_0 S.below A2) (hargs:=by (simp only [ma_,mb_,mc_,F] <;> rfl)) (h:=?_);rintro e W ⟨v313,v316,v319,rfl,ho0,ho1,ho2,hi,hb,hk⟩;refine ⟨_,rfl,?_⟩;obtain ⟨W_,hs_,hm_,S⟩:=S.mid g hi hb hk;rw [← hs_] at ho0;rw [← hs_] at ho1;rw [← hs_] at ho2;replace S:=S.got3i at42 (atI .i64) (atI .i64) hm_ ho0 ho1 ho2 (by decide);obtain ⟨At312,ct312,At315,ct315,At318,ct318,rfl,rfl,rfl,S⟩:=S;clear F hi hb hk hs_ hm_ ho0 ho1 ho2;(try rw [← Ny340.out] at S);have F:=S.fc) | ((with_reducible refine gd 3 rfl (L ?_));refine al 3 S zi27 ?_;clear S F;intro gb323 W S;have F:=S.fc) | ((with_reducible refine gate_callee (f:=114) rfl (L ?_));refine cl (some 9) Try.func114 (spec_l1Cur_pick.calls g _ _ _ _ _ _ _ _ _ _ _ S.hb (S.hge g) hS0_0 S.below A3) (hargs:=by (simp only [ma_,mb_,mc_,F] <;> rfl)) (h:=?_);rintro e W ⟨rfl,hi,hb,hk⟩;refine ⟨_,rfl,?_⟩;obtain ⟨W_,hs_,hm_,S⟩:=S.mid g hi hb hk;replace S:=S.go hm_;clear F hi hb hk hs_ hm_ ;(try rw [← Ny340.out] at S);have F:=S.fc) | ((with_reducible refine gs (t:=27) rfl (L ?_));refine sb (.agg #[_,_,_,_,_]) S sz27 ?_;clear S F;intro W S;(try simp only [gd42] at S);(try rw [← Ny340.out] at S);have F:=S.fc))
       have m_t312:0 < t312.length:=by omega
       refine rq S [(0,0),(0,2),(1,1),(1,3),(0,4),(1,5),(2,6),(3,7),(0,8),(3,9)] [7,9] (h:=?_);clear S F;intro W S;have S0:=S;have F:=S.fc
       repeat (first | (refine q0 (h:=?_)) | (refine q1 S0 (h:=?_)))
       refine q1 S0 (hv:=by intro W S;have F:=S.fc;have z_:=(S.rf At312 rfl) 0 (by omega) (by omega);simp only [show ((0:Int)).toNat = 0 from rfl,Nat.zero_mul,Addr.add_zero'] at z_;go_simp;first | with_reducible rfl) (h:=?_)
       refine lk2 (by rfl) (by exact (Eq.refl true)) ?_;refine lv 30 (cs:=[.int .i64 ((rd_T42 t312 0).f0),.int .i64 ((rd_T42 t312 0).f1)]) (e:=42) (by first | (go_simp;done) | (go_simp;rfl)) ?_
       clear S0;have S0:=St.al1 S (.cells (List.toArray [.int .i64 ((rd_T42 t312 0).f0),.int .i64 ((rd_T42 t312 0).f1)]) 42);refine ⟨S0,?_⟩
       refine lk3 (by rfl) (by exact (Eq.refl true)) ?_;refine apa (A:=At312) 31 S Try.underlying24 info42 ?_ (ho:=rfl) (hs:=rfl) (hx:=rfl);clear S F;intro Ay340 cy340 W S;(try rw [← Ny340.out] at S ⊢);have F:=S.fc
       repeat ((refine q0 (h:=?_)))
       refine lk3 (by rfl) (by exact (Eq.refl true)) ?_;(first | refine sb (.int _ _) S sz3 ?_ | refine ro (.int _ _) S sz3 ?_ (ho:=rfl) (hx:=rfl) (hy:=rfl) | refine sb (.slice _ _ _) S sz24 ?_ | refine ro (.slice _ _ _) S sz24 ?_ (ho:=rfl) (hx:=rfl) (hy:=rfl) | refine sb (.slice _ _ _) S sz25 ?_ | refine ro (.slice _ _ _) S sz25 ?_ (ho:=rfl) (hx:=rfl) (hy:=rfl) | refine sb (.agg #[_,_,_,_,_]) S sz27 ?_ | refine ro (.agg #[_,_,_,_,_]) S sz27 ?_ (ho:=rfl) (hx:=rfl) (hy:=rfl));clear S F;intro W S;(try simp only [gd42] at S);(try rw [← Ny340.out] at S);have F:=S.fc
       refine oz ?_
       try clear S0
       go_wp2_with ((with_reducible refine gs (t:=27) rfl (L ?_));refine sb (.agg #[_,_,_,_,_]) S sz27 ?_;clear S F;intro W S;(try simp only [gd42] at S);(try rw [← Ny340.out] at S);have F:=S.fc)
       refine bodyPost_ret (results_cell_row rfl _ _ gb309 27 #[.int .i64 t310,.int .i64 t311,.slice Ay340 y340.length cy340,.slice At315 t315.length ct315,.slice At318 t318.length ct318] (0,0) _ rfl S.hb Try.underlying27 rfl (by kernel_rfl)) rfl ?_
       exact ⟨_,_,_,(by first | rfl | (simp;done) | first | rfl | (simp [e0_,e1_] <;> rfl) | (simp [*,e0_,e1_] <;> rfl)),(by first | exact S.ru | exact Kd.R_nil _ _ _ _ _),(by first | exact S.run | exact Kd.R_nil _ _ _ _ _),(by first | exact S.run | exact Kd.R_nil _ _ _ _ _),(by first | exact S.hb | simpa using S.hb (g:=g)),S.below,S.kept⟩
     · skip
       replace c42:=cne c42
       replace H:=sp_ H;rcases H with ⟨c62,H⟩ | ⟨c62,H⟩
       · skip
         replace c62:=ceq c62
         replace H:=np_ H;obtain ⟨c63,H⟩:=H
         (first | (with_reducible replace H:=ob_ H;obtain ⟨y343,hy343,H⟩:=H;(try dsimp only at H)) | (obtain ⟨y343,hy343⟩:∃ y_:List (S42),y_ = (t312 ++ [(⟨0,0⟩:S42)]):=⟨_,rfl⟩;(try rw [← hy343] at H);(try simp only [Option.bind_some] at H)));have Ny343:=Aside0.mk hy343;clear hy343
         simp only [Option.some.injEq,Prod.mk.injEq] at H
         obtain ⟨rfl,rfl,rfl,rfl,rfl,rfl,rfl⟩:=H
         go_enter Try.func135,Try.ntmps135
         go_wp2_with (first | ((with_reducible refine gd 2 rfl (L ?_));refine al 2 S zi27 ?_;clear S F;intro gb309 W S;have F:=S.fc) | ((with_reducible refine gate_callee (f:=186) rfl (L ?_));refine cl (some 7) Try.func186 (spec_l1Cur_challenge.calls _ g _ _ _ _ _ _ _ _ _ _ _ _ _ _ S.hb (S.hge g) hS0_0 S.below A2) (hargs:=by (simp only [ma_,mb_,mc_,F] <;> rfl)) (h:=?_);rintro e W ⟨v313,v316,v319,rfl,ho0,ho1,ho2,hi,hb,hk⟩;refine ⟨_,rfl,?_⟩;obtain ⟨W_,hs_,hm_,S⟩:=S.mid g hi hb hk;rw [← hs_] at ho0;rw [← hs_] at ho1;rw [← hs_] at ho2;replace S:=S.got3i at42 (atI .i64) (atI .i64) hm_ ho0 ho1 ho2 (by decide);obtain ⟨At312,ct312,At315,ct315,At318,ct318,rfl,rfl,rfl,S⟩:=S;clear F hi hb hk hs_ hm_ ho0 ho1 ho2;(try rw [← Ny343.out] at S);have F:=S.fc) | ((with_reducible refine gd 3 rfl (L ?_));refine al 3 S zi27 ?_;clear S F;intro gb323 W S;have F:=S.fc) | ((with_reducible refine gate_callee (f:=114) rfl (L ?_));refine cl (some 9) Try.func114 (spec_l1Cur_pick.calls g _ _ _ _ _ _ _ _ _ _ _ S.hb (S.hge g) hS0_0 S.below A3) (hargs:=by (simp only [ma_,mb_,mc_,F] <;> rfl)) (h:=?_);rintro e W ⟨rfl,hi,hb,hk⟩;refine ⟨_,rfl,?_⟩;obtain ⟨W_,hs_,hm_,S⟩:=S.mid g hi hb hk;replace S:=S.go hm_;clear F hi hb hk hs_ hm_ ;(try rw [← Ny343.out] at S);have F:=S.fc) | ((with_reducible refine gd 39 rfl (L ?_));refine apa (A:=At312) 39 S Try.underlying24 info42 ?_ (ho:=rfl) (hs:=rfl) (hx:=rfl);clear S F;intro Ay343 cy343 W S;(try rw [← Ny343.out] at S ⊢);have F:=S.fc) | ((with_reducible refine gs (t:=24) rfl (L ?_));refine sb (.slice _ _ _) S sz24 ?_;clear S F;intro W S;(try simp only [gd42] at S);(try rw [← Ny343.out] at S);have F:=S.fc) | ((with_reducible refine gs (t:=27) rfl (L ?_));refine sb (.agg #[_,_,_,_,_]) S sz27 ?_;clear S F;intro W S;(try simp only [gd42] at S);(try rw [← Ny343.out] at S);have F:=S.fc))
         refine bodyPost_ret (results_cell_row rfl _ _ gb309 27 #[.int .i64 t310,.int .i64 t311,.slice Ay343 y343.length cy343,.slice At315 t315.length ct315,.slice At318 t318.length ct318] (0,0) _ rfl S.hb Try.underlying27 rfl (by kernel_rfl)) rfl ?_
         exact ⟨_,_,_,(by first | rfl | (simp;done) | first | rfl | (simp [e0_,e1_] <;> rfl) | (simp [*,e0_,e1_] <;> rfl)),(by first | exact S.ru | exact Kd.R_nil _ _ _ _ _),(by first | exact S.run | exact Kd.R_nil _ _ _ _ _),(by first | exact S.run | exact Kd.R_nil _ _ _ _ _),(by first | exact S.hb | simpa using S.hb (g:=g)),S.below,S.kept⟩
       · skip
         replace c62:=cne c62
         replace H:=sp_ H;rcases H with ⟨c80,H⟩ | ⟨c80,H⟩
         · skip
           replace c80:=ceq c80
           simp only [Option.some.injEq,Prod.mk.injEq] at H
           obtain ⟨rfl,rfl,rfl,rfl,rfl,rfl,rfl⟩:=H
           go_enter Try.func135,Try.ntmps135
           go_wp2_with (first | ((with_reducible refine gd 2 rfl (L ?_));refine al 2 S zi27 ?_;clear S F;intro gb309 W S;have F:=S.fc) | ((with_reducible refine gate_callee (f:=186) rfl (L ?_));refine cl (some 7) Try.func186 (spec_l1Cur_challenge.calls _ g _ _ _ _ _ _ _ _ _ _ _ _ _ _ S.hb (S.hge g) hS0_0 S.below A2) (hargs:=by (simp only [ma_,mb_,mc_,F] <;> rfl)) (h:=?_);rintro e W ⟨v313,v316,v319,rfl,ho0,ho1,ho2,hi,hb,hk⟩;refine ⟨_,rfl,?_⟩;obtain ⟨W_,hs_,hm_,S⟩:=S.mid g hi hb hk;rw [← hs_] at ho0;rw [← hs_] at ho1;rw [← hs_] at ho2;replace S:=S.got3i at42 (atI .i64) (atI .i64) hm_ ho0 ho1 ho2 (by decide);obtain ⟨At312,ct312,At315,ct315,At318,ct318,rfl,rfl,rfl,S⟩:=S;clear F hi hb hk hs_ hm_ ho0 ho1 ho2;have F:=S.fc) | ((with_reducible refine gd 3 rfl (L ?_));refine al 3 S zi27 ?_;clear S F;intro gb323 W S;have F:=S.fc) | ((with_reducible refine gate_callee (f:=114) rfl (L ?_));refine cl (some 9) Try.func114 (spec_l1Cur_pick.calls g _ _ _ _ _ _ _ _ _ _ _ S.hb (S.hge g) hS0_0 S.below A3) (hargs:=by (simp only [ma_,mb_,mc_,F] <;> rfl)) (h:=?_);rintro e W ⟨rfl,hi,hb,hk⟩;refine ⟨_,rfl,?_⟩;obtain ⟨W_,hs_,hm_,S⟩:=S.mid g hi hb hk;replace S:=S.go hm_;clear F hi hb hk hs_ hm_ ;have F:=S.fc) | ((with_reducible refine gs (t:=24) rfl (L ?_));refine sb (.slice _ _ _) S sz24 ?_;clear S F;intro W S;(try simp only [gd42] at S);have F:=S.fc) | ((with_reducible refine gs (t:=27) rfl (L ?_));refine sb (.agg #[_,_,_,_,_]) S sz27 ?_;clear S F;intro W S;(try simp only [gd42] at S);have F:=S.fc))
           refine bodyPost_ret (results_cell_row rfl _ _ gb309 27 #[.int .i64 t310,.int .i64 t311,.slice none 0 0,.slice At315 t315.length ct315,.slice At318 t318.length ct318] (0,0) _ rfl S.hb Try.underlying27 rfl (by kernel_rfl)) rfl ?_
           exact ⟨_,_,_,(by first | rfl | (simp;done) | first | rfl | (simp [e0_,e1_] <;> rfl) | (simp [*,e0_,e1_] <;> rfl)),(by first | exact S.ru | exact Kd.R_nil _ _ _ _ _),(by first | exact S.run | exact Kd.R_nil _ _ _ _ _),(by first | exact S.run | exact Kd.R_nil _ _ _ _ _),(by first | exact S.hb | simpa using S.hb (g:=g)),S.below,S.kept⟩
         · skip
           replace c80:=cne c80
           replace H:=sp_ H;rcases H with ⟨c94,H⟩ | ⟨c94,H⟩
           · skip
             replace c94:=ceq c94
             (first | (with_reducible replace H:=ob_ H;obtain ⟨y346,hy346,H⟩:=H;(try dsimp only at H)) | (obtain ⟨y346,hy346⟩:∃ y_:List Int,y_ = (([(-1),t311]:List Int)):=⟨_,rfl⟩;(try rw [← hy346] at H);(try simp only [Option.bind_some] at H)));have Ny346:=Aside0.mk hy346;clear hy346
             replace H:=Option.bind_eq_some_iff.mp H;obtain ⟨⟨t349,t350,t351⟩,A95,H⟩:=H;(try dsimp only at H)
             replace H:=np_ H;obtain ⟨c96,H⟩:=H;(try have m_t315:0 < t315.length:=by omega)
             (first | (with_reducible replace H:=ob_ H;obtain ⟨y352,hy352,H⟩:=H;(try dsimp only at H)) | (obtain ⟨y352,hy352⟩:∃ y_:List Int,y_ = (t315.set (0:Int).toNat t349):=⟨_,rfl⟩;(try rw [← hy352] at H);(try simp only [Option.bind_some] at H)));have Ny352:=Aside0.mk hy352;clear hy352
             simp only [Option.some.injEq,Prod.mk.injEq] at H
             obtain ⟨rfl,rfl,rfl,rfl,rfl,rfl,rfl⟩:=H
             go_enter Try.func135,Try.ntmps135
             go_wp2_with (first | ((with_reducible refine gd 2 rfl (L ?_));refine al 2 S zi27 ?_;clear S F;intro gb309 W S;have F:=S.fc) | ((with_reducible refine gate_callee (f:=186) rfl (L ?_));refine cl (some 7) Try.func186 (spec_l1Cur_challenge.calls _ g _ _ _ _ _ _ _ _ _ _ _ _ _ _ S.hb (S.hge g) hS0_0 S.below A2) (hargs:=by (simp only [ma_,mb_,mc_,F] <;> rfl)) (h:=?_);rintro e W ⟨v313,v316,v319,rfl,ho0,ho1,ho2,hi,hb,hk⟩;refine ⟨_,rfl,?_⟩;obtain ⟨W_,hs_,hm_,S⟩:=S.mid g hi hb hk;rw [← hs_] at ho0;rw [← hs_] at ho1;rw [← hs_] at ho2;replace S:=S.got3i at42 (atI .i64) (atI .i64) hm_ ho0 ho1 ho2 (by decide);obtain ⟨At312,ct312,At315,ct315,At318,ct318,rfl,rfl,rfl,S⟩:=S;clear F hi hb hk hs_ hm_ ho0 ho1 ho2;(try rw [← Ny346.out] at S);(try rw [← Ny352.out] at S);have F:=S.fc) | ((with_reducible refine gd 3 rfl (L ?_));refine al 3 S zi27 ?_;clear S F;intro gb323 W S;have F:=S.fc) | ((with_reducible refine gate_callee (f:=114) rfl (L ?_));refine cl (some 9) Try.func114 (spec_l1Cur_pick.calls g _ _ _ _ _ _ _ _ _ _ _ S.hb (S.hge g) hS0_0 S.below A3) (hargs:=by (simp only [ma_,mb_,mc_,F] <;> rfl)) (h:=?_);rintro e W ⟨rfl,hi,hb,hk⟩;refine ⟨_,rfl,?_⟩;obtain ⟨W_,hs_,hm_,S⟩:=S.mid g hi hb hk;replace S:=S.go hm_;clear F hi hb hk hs_ hm_ ;(try rw [← Ny346.out] at S);(try rw [← Ny352.out] at S);have F:=S.fc) | ((with_reducible refine gs (t:=27) rfl (L ?_));refine sb (.agg #[_,_,_,_,_]) S sz27 ?_;clear S F;intro W S;(try simp only [gd42] at S);(try rw [← Ny346.out] at S);(try rw [← Ny352.out] at S);have F:=S.fc))
             refine rgP S (fun _ S=>(S.pm [0,1,2,3,4])) [(0,0),(0,2),(0,3),(1,1),(1,4),(2,5),(2,6),(0,7),(3,8)] [8] (by kernel_rfl) (by kernel_rfl) (fun _ d _ _ _ h=>by cases d <;> exact h) ?_;clear S F;intro W S;have S0:=(S.pm [0,1,2,3,4]);have F:=S.fc
             repeat (first | (refine q0 (h:=?_)) | (refine q1 S0 (h:=?_)))
             refine lk2 (by rfl) (by exact (Eq.refl true)) ?_;refine lia 51 (atI .i64) 3 S ([(-1),t311]:List Int) (fun _ _=>(Reps.one (show Kd.M (Kd.int .i64) _ _ _ (-1) [.int .i64 (-1)] from rfl) (Reps.one (show Kd.M (Kd.int .i64) _ _ _ t311 [.int .i64 t311] from rfl) (Reps.none _ _)))) (by first | (go_simp;done) | (go_simp;rfl)) ?_;clear S F;intro Ay346 cy346 W S;(try rw [← Ny346.out] at S ⊢);(try rw [← Ny352.out] at S ⊢);have F:=S.fc
             clear S0;have S0:=(S.ms [0,1,1,1,1,1,0]);refine ⟨S0,?_⟩
             refine lk2 (by rfl) (by exact (Eq.refl true)) ?_;refine cl (some 52) Try.func118 (spec_l1Cur_among.calls g _ _ _ _ _ _ _ _ _ _ _ _ _ S.hb (S.hge g) hS0_0 S.below S.cg S.n A95) (hargs:=by (simp only [ma_,mb_,mc_,F] <;> rfl)) (h:=?_);rintro e W ⟨rfl,hi,hb,hk⟩;refine ⟨_,rfl,?_⟩;obtain ⟨W_,hs_,hm_,S⟩:=S.mid g hi hb hk;replace S:=S.go hm_;clear F hi hb hk hs_ hm_ ;(try rw [← Ny346.out] at S);(try rw [← Ny352.out] at S);have F:=S.fc
             clear S0;have S0:=(S.ms [0,1,1,1,1,1,0]);refine ⟨S0,?_⟩
             repeat ((refine q0 (h:=?_)))
             refine lk3 (by rfl) (by exact (Eq.refl true)) ?_;(first | refine sb (.int _ _) S sz3 ?_ | refine ro (.int _ _) S sz3 ?_ (ho:=rfl) (hx:=rfl) (hy:=rfl) | refine sb (.slice _ _ _) S sz24 ?_ | refine ro (.slice _ _ _) S sz24 ?_ (ho:=rfl) (hx:=rfl) (hy:=rfl) | refine sb (.slice _ _ _) S sz25 ?_ | refine ro (.slice _ _ _) S sz25 ?_ (ho:=rfl) (hx:=rfl) (hy:=rfl) | refine sb (.agg #[_,_,_,_,_]) S sz27 ?_ | refine ro (.agg #[_,_,_,_,_]) S sz27 ?_ (ho:=rfl) (hx:=rfl) (hy:=rfl));clear S F;intro W S;(try simp only [gd42] at S);(try rw [← Ny346.out] at S);(try rw [← Ny352.out] at S);have F:=S.fc
             refine oz ?_
             try clear S0
             go_wp2_with ((with_reducible refine gs (t:=27) rfl (L ?_));refine sb (.agg #[_,_,_,_,_]) S sz27 ?_;clear S F;intro W S;(try simp only [gd42] at S);(try rw [← Ny346.out] at S);(try rw [← Ny352.out] at S);have F:=S.fc)
             refine bodyPost_ret (results_cell_row rfl _ _ gb309 27 #[.int .i64 t310,.int .i64 t311,.slice At312 t312.length ct312,.slice At315 t315.length ct315,.slice At318 t318.length ct318] (0,0) _ rfl S.hb Try.underlying27 rfl (by kernel_rfl)) rfl ?_
             exact ⟨_,_,_,(by first | rfl | (simp;done) | first | rfl | (simp [e0_,e1_] <;> rfl) | (simp [*,e0_,e1_] <;> rfl)),(by first | exact S.ru | exact Kd.R_nil _ _ _ _ _),(by first | exact S.run | exact Kd.R_nil _ _ _ _ _),(by first | exact S.run | exact Kd.R_nil _ _ _ _ _),(by first | exact S.hb | simpa using S.hb (g:=g)),S.below,S.kept⟩
           · skip
             replace c94:=cne c94
             replace H:=sp_ H;rcases H with ⟨c118,H⟩ | ⟨c118,H⟩
             · skip
               replace c118:=ceq c118
               (first | (with_reducible replace H:=ob_ H;obtain ⟨y353,hy353,H⟩:=H;(try dsimp only at H)) | (obtain ⟨y353,hy353⟩:∃ y_:List Int,y_ = (([(-1),wrap64 (t311 + 2)]:List Int)):=⟨_,rfl⟩;(try rw [← hy353] at H);(try simp only [Option.bind_some] at H)));have Ny353:=Aside0.mk hy353;clear hy353
               replace H:=Option.bind_eq_some_iff.mp H;obtain ⟨⟨t356,t357,t358⟩,A119,H⟩:=H;(try dsimp only at H)
               replace H:=np_ H;obtain ⟨c120,H⟩:=H;(try have m_t318:0 < t318.length:=by omega)
               (first | (with_reducible replace H:=ob_ H;obtain ⟨y359,hy359,H⟩:=H;(try dsimp only at H)) | (obtain ⟨y359,hy359⟩:∃ y_:List Int,y_ = (t318.set (0:Int).toNat t356):=⟨_,rfl⟩;(try rw [← hy359] at H);(try simp only [Option.bind_some] at H)));have Ny359:=Aside0.mk hy359;clear hy359
               simp only [Option.some.injEq,Prod.mk.injEq] at H
               obtain ⟨rfl,rfl,rfl,rfl,rfl,rfl,rfl⟩:=H
               go_enter Try.func135,Try.ntmps135
               go_wp2_with (first | ((with_reducible refine gd 2 rfl (L ?_));refine al 2 S zi27 ?_;clear S F;intro gb309 W S;have F:=S.fc) | ((with_reducible refine gate_callee (f:=186) rfl (L ?_));refine cl (some 7) Try.func186 (spec_l1Cur_challenge.calls _ g _ _ _ _ _ _ _ _ _ _ _ _ _ _ S.hb (S.hge g) hS0_0 S.below A2) (hargs:=by (simp only [ma_,mb_,mc_,F] <;> rfl)) (h:=?_);rintro e W ⟨v313,v316,v319,rfl,ho0,ho1,ho2,hi,hb,hk⟩;refine ⟨_,rfl,?_⟩;obtain ⟨W_,hs_,hm_,S⟩:=S.mid g hi hb hk;rw [← hs_] at ho0;rw [← hs_] at ho1;rw [← hs_] at ho2;replace S:=S.got3i at42 (atI .i64) (atI .i64) hm_ ho0 ho1 ho2 (by decide);obtain ⟨At312,ct312,At315,ct315,At318,ct318,rfl,rfl,rfl,S⟩:=S;clear F hi hb hk hs_ hm_ ho0 ho1 ho2;(try rw [← Ny353.out] at S);(try rw [← Ny359.out] at S);have F:=S.fc) | ((with_reducible refine gd 3 rfl (L ?_));refine al 3 S zi27 ?_;clear S F;intro gb323 W S;have F:=S.fc) | ((with_reducible refine gate_callee (f:=114) rfl (L ?_));refine cl (some 9) Try.func114 (spec_l1Cur_pick.calls g _ _ _ _ _ _ _ _ _ _ _ S.hb (S.hge g) hS0_0 S.below A3) (hargs:=by (simp only [ma_,mb_,mc_,F] <;> rfl)) (h:=?_);rintro e W ⟨rfl,hi,hb,hk⟩;refine ⟨_,rfl,?_⟩;obtain ⟨W_,hs_,hm_,S⟩:=S.mid g hi hb hk;replace S:=S.go hm_;clear F hi hb hk hs_ hm_ ;(try rw [← Ny353.out] at S);(try rw [← Ny359.out] at S);have F:=S.fc) | ((with_reducible refine gs (t:=27) rfl (L ?_));refine sb (.agg #[_,_,_,_,_]) S sz27 ?_;clear S F;intro W S;(try simp only [gd42] at S);(try rw [← Ny353.out] at S);(try rw [← Ny359.out] at S);have F:=S.fc))
               refine rgP S (fun _ S=>(S.pm [0,1,2,3,4])) [(0,0),(0,2),(0,3),(1,1),(1,4),(0,5),(2,6),(2,7),(0,8),(3,9)] [9] (by kernel_rfl) (by kernel_rfl) (fun _ d _ _ _ h=>by cases d <;> exact h) ?_;clear S F;intro W S;have S0:=(S.pm [0,1,2,3,4]);have F:=S.fc
               repeat (first | (refine q0 (h:=?_)) | (refine q1 S0 (h:=?_)))
               refine lk2 (by rfl) (by exact (Eq.refl true)) ?_;refine lia 62 (atI .i64) 3 S ([(-1),wrap64 (t311 + 2)]:List Int) (fun _ _=>(Reps.one (show Kd.M (Kd.int .i64) _ _ _ (-1) [.int .i64 (-1)] from rfl) (Reps.one (show Kd.M (Kd.int .i64) _ _ _ (wrap64 (t311 + 2)) [.int .i64 (wrap64 (t311 + 2))] from rfl) (Reps.none _ _)))) (by first | (go_simp;done) | (go_simp;rfl)) ?_;clear S F;intro Ay353 cy353 W S;(try rw [← Ny353.out] at S ⊢);(try rw [← Ny359.out] at S ⊢);have F:=S.fc
               clear S0;have S0:=(S.ms [0,1,1,1,1,1,0]);refine ⟨S0,?_⟩
               refine lk2 (by rfl) (by exact (Eq.refl true)) ?_;refine cl (some 63) Try.func118 (spec_l1Cur_among.calls g _ _ _ _ _ _ _ _ _ _ _ _ _ S.hb (S.hge g) hS0_0 S.below S.cg S.n A119) (hargs:=by (simp only [ma_,mb_,mc_,F] <;> rfl)) (h:=?_);rintro e W ⟨rfl,hi,hb,hk⟩;refine ⟨_,rfl,?_⟩;obtain ⟨W_,hs_,hm_,S⟩:=S.mid g hi hb hk;replace S:=S.go hm_;clear F hi hb hk hs_ hm_ ;(try rw [← Ny353.out] at S);(try rw [← Ny359.out] at S);have F:=S.fc
               clear S0;have S0:=(S.ms [0,1,1,1,1,1,0]);refine ⟨S0,?_⟩
               repeat ((refine q0 (h:=?_)))
               refine lk3 (by rfl) (by exact (Eq.refl true)) ?_;(first | refine sb (.int _ _) S sz3 ?_ | refine ro (.int _ _) S sz3 ?_ (ho:=rfl) (hx:=rfl) (hy:=rfl) | refine sb (.slice _ _ _) S sz24 ?_ | refine ro (.slice _ _ _) S sz24 ?_ (ho:=rfl) (hx:=rfl) (hy:=rfl) | refine sb (.slice _ _ _) S sz25 ?_ | refine ro (.slice _ _ _) S sz25 ?_ (ho:=rfl) (hx:=rfl) (hy:=rfl) | refine sb (.agg #[_,_,_,_,_]) S sz27 ?_ | refine ro (.agg #[_,_,_,_,_]) S sz27 ?_ (ho:=rfl) (hx:=rfl) (hy:=rfl));clear S F;intro W S;(try simp only [gd42] at S);(try rw [← Ny353.out] at S);(try rw [← Ny359.out] at S);have F:=S.fc
               refine oz ?_
               try clear S0
               go_wp2_with ((with_reducible refine gs (t:=27) rfl (L ?_));refine sb (.agg #[_,_,_,_,_]) S sz27 ?_;clear S F;intro W S;(try simp only [gd42] at S);(try rw [← Ny353.out] at S);(try rw [← Ny359.out] at S);have F:=S.fc)
               refine bodyPost_ret (results_cell_row rfl _ _ gb309 27 #[.int .i64 t310,.int .i64 t311,.slice At312 t312.length ct312,.slice At315 t315.length ct315,.slice At318 t318.length ct318] (0,0) _ rfl S.hb Try.underlying27 rfl (by kernel_rfl)) rfl ?_
               exact ⟨_,_,_,(by first | rfl | (simp;done) | first | rfl | (simp [e0_,e1_] <;> rfl) | (simp [*,e0_,e1_] <;> rfl)),(by first | exact S.ru | exact Kd.R_nil _ _ _ _ _),(by first | exact S.run | exact Kd.R_nil _ _ _ _ _),(by first | exact S.run | exact Kd.R_nil _ _ _ _ _),(by first | exact S.hb | simpa using S.hb (g:=g)),S.below,S.kept⟩
             · skip
               replace c118:=cne c118
               replace H:=sp_ H;rcases H with ⟨c142,H⟩ | ⟨c142,H⟩
               · skip
                 replace c142:=ceq c142
                 replace H:=Option.bind_eq_some_iff.mp H;obtain ⟨⟨t360,t361,t362⟩,A143,H⟩:=H;(try dsimp only at H)
                 go_enter Try.func135,Try.ntmps135
                 go_wp2_with (first | ((with_reducible refine gd 2 rfl (L ?_));refine al 2 S zi27 ?_;clear S F;intro gb309 W S;have F:=S.fc) | ((with_reducible refine gate_callee (f:=186) rfl (L ?_));refine cl (some 7) Try.func186 (spec_l1Cur_challenge.calls _ g _ _ _ _ _ _ _ _ _ _ _ _ _ _ S.hb (S.hge g) hS0_0 S.below A2) (hargs:=by (simp only [ma_,mb_,mc_,F] <;> rfl)) (h:=?_);rintro e W ⟨v313,v316,v319,rfl,ho0,ho1,ho2,hi,hb,hk⟩;refine ⟨_,rfl,?_⟩;obtain ⟨W_,hs_,hm_,S⟩:=S.mid g hi hb hk;rw [← hs_] at ho0;rw [← hs_] at ho1;rw [← hs_] at ho2;replace S:=S.got3i at42 (atI .i64) (atI .i64) hm_ ho0 ho1 ho2 (by decide);obtain ⟨At312,ct312,At315,ct315,At318,ct318,rfl,rfl,rfl,S⟩:=S;clear F hi hb hk hs_ hm_ ho0 ho1 ho2;have F:=S.fc) | ((with_reducible refine gd 3 rfl (L ?_));refine al 3 S zi27 ?_;clear S F;intro gb323 W S;have F:=S.fc) | ((with_reducible refine gate_callee (f:=114) rfl (L ?_));refine cl (some 9) Try.func114 (spec_l1Cur_pick.calls g _ _ _ _ _ _ _ _ _ _ _ S.hb (S.hge g) hS0_0 S.below A3) (hargs:=by (simp only [ma_,mb_,mc_,F] <;> rfl)) (h:=?_);rintro e W ⟨rfl,hi,hb,hk⟩;refine ⟨_,rfl,?_⟩;obtain ⟨W_,hs_,hm_,S⟩:=S.mid g hi hb hk;replace S:=S.go hm_;clear F hi hb hk hs_ hm_ ;have F:=S.fc) | ((with_reducible refine gate_callee (f:=114) rfl (L ?_));refine cl (some 68) Try.func114 (spec_l1Cur_pick.calls g _ _ _ _ _ _ _ _ _ _ _ S.hb (S.hge g) hS0_0 S.below A143) (hargs:=by (simp only [ma_,mb_,mc_,F] <;> rfl)) (h:=?_);rintro e W ⟨rfl,hi,hb,hk⟩;refine ⟨_,rfl,?_⟩;obtain ⟨W_,hs_,hm_,S⟩:=S.mid g hi hb hk;replace S:=S.go hm_;clear F hi hb hk hs_ hm_ ;have F:=S.fc) | ((with_reducible refine gs (t:=27) rfl (L ?_));refine sb (.agg #[_,_,_,_,_]) S sz27 ?_;clear S F;intro W S;(try simp only [gd42] at S);have F:=S.fc))
                 go_loopg [] k (fun kq w'=>∃ (x324003_1:List Int) (x324004_1:List Int) (Ax324003_1:Option Addr) (cx324003_1:Nat) (Ax324004_1:Option Addr) (cx324004_1:Nat),spec_l1Cur_anyChallenge.l0 kq (wrap64 (8 + t360)) s0_0 t361 t362 t310 t311 t312 x324003_1 x324004_1 = some (r1,r2,r3,r4,r5,r6,r7)∧kq ≤ k∧St w0 w (fun k=>k = g) [bor (atI .u8) As0_0 s0_0.length s0_0] w'  [box gb323 27 [.int .i64 t310,.int .i64 t311,.slice At312 t312.length ct312,.slice Ax324003_1 x324003_1.length cx324003_1,.slice Ax324004_1 x324004_1.length cx324004_1],row (atI .i64) 3 Ax324004_1 x324004_1.length cx324004_1 x324004_1,row (atI .i64) 3 Ax324003_1 x324003_1.length cx324003_1 x324003_1,row at42 42 At312 t312.length ct312 t312,box gb309 27 [.int .i64 0,.int .i64 0,.slice none 0 0,.slice none 0 0,.slice none 0 0],box g 111 [.slice As0_0 s0_0.length cs0_0,.int .i64 t361,.int .u64 t362]])
                 case atStart=>exact ⟨t315,t318,_,_,_,_,H,Nat.le_refl _,S⟩
                 case round =>
                  clear H S F
                  obtain ⟨x324003_1,x324004_1,Ax324003_1,cx324003_1,Ax324004_1,cx324004_1,HA,HK1,S⟩:=hrel
                  have F:=S.fc
                  cases gk with
                  | zero=>exact absurd HA (by simp [spec_l1Cur_anyChallenge.l0])
                  | succ k1 =>
                   have H:=HA;clear HA;simp only [spec_l1Cur_anyChallenge.l0,F] at H
                   replace H:=sp_ H;rcases H with ⟨c155,H⟩ | ⟨c155,H⟩
                   · skip
                     replace H:=np_ H;obtain ⟨c156,H⟩:=H
                     (first | (with_reducible replace H:=ob_ H;obtain ⟨y363,hy363,H⟩:=H;(try dsimp only at H)) | (obtain ⟨y363,hy363⟩:∃ y_:List Int,y_ = (x324003_1 ++ [0]):=⟨_,rfl⟩;(try rw [← hy363] at H);(try simp only [Option.bind_some] at H)));have Ny363:=Aside0.mk hy363;clear hy363
                     replace H:=np_ H;obtain ⟨c157,H⟩:=H
                     (first | (with_reducible replace H:=ob_ H;obtain ⟨y366,hy366,H⟩:=H;(try dsimp only at H)) | (obtain ⟨y366,hy366⟩:∃ y_:List Int,y_ = (x324004_1 ++ [0]):=⟨_,rfl⟩;(try rw [← hy366] at H);(try simp only [Option.bind_some] at H)));have Ny366:=Aside0.mk hy366;clear hy366
                     go_wp2_with (first | ((with_reducible refine gd 78 rfl (L ?_));refine apa (A:=Ax324003_1) 78 S Try.underlying25 info3 ?_ (ho:=rfl) (hs:=rfl) (hx:=rfl);clear S F;intro Ay363 cy363 W S;(try rw [← Ny363.out] at S ⊢);(try rw [← Ny366.out] at S ⊢);have F:=S.fc) | ((with_reducible refine gd 83 rfl (L ?_));refine apa (A:=Ax324004_1) 83 S Try.underlying25 info3 ?_ (ho:=rfl) (hs:=rfl) (hx:=rfl);clear S F;intro Ay366 cy366 W S;(try rw [← Ny363.out] at S ⊢);(try rw [← Ny366.out] at S ⊢);have F:=S.fc) | ((with_reducible refine gs (t:=25) rfl (L ?_));refine sb (.slice _ _ _) S sz25 ?_;clear S F;intro W S;(try simp only [gd42] at S);(try rw [← Ny363.out] at S);(try rw [← Ny366.out] at S);have F:=S.fc))
                     go_roundg k1
                     case measure=>omega
                     case rel=>exact ⟨y363,y366,_,_,_,_,H,(by first | omega | exact Nat.le_refl _),S⟩
                   · skip
                     simp only [Option.some.injEq,Prod.mk.injEq] at H
                     obtain ⟨rfl,rfl,rfl,rfl,rfl,rfl,rfl⟩:=H
                     go_wp2_with ((with_reducible refine gs (t:=27) rfl (L ?_));refine sb (.agg #[_,_,_,_,_]) S sz27 ?_;clear S F;intro W S;(try simp only [gd42] at S);have F:=S.fc)
                     refine bodyPost_ret (results_cell_row rfl _ _ gb309 27 #[.int .i64 t310,.int .i64 t311,.slice At312 t312.length ct312,.slice Ax324003_1 x324003_1.length cx324003_1,.slice Ax324004_1 x324004_1.length cx324004_1] (0,0) _ rfl S.hb Try.underlying27 rfl (by kernel_rfl)) rfl ?_
                     exact ⟨_,_,_,(by first | rfl | (simp;done) | first | rfl | (simp [e0_,e1_] <;> rfl) | (simp [*,e0_,e1_] <;> rfl)),(by first | exact S.ru | exact Kd.R_nil _ _ _ _ _),(by first | exact S.run | exact Kd.R_nil _ _ _ _ _),(by first | exact S.run | exact Kd.R_nil _ _ _ _ _),(by first | exact S.hb | simpa using S.hb (g:=g)),S.below,S.kept⟩
               · skip
                 replace c142:=cne c142
                 replace H:=sp_ H;rcases H with ⟨c175,H⟩ | ⟨c175,H⟩
                 · skip
                   replace c175:=ceq c175
                   (first | (with_reducible replace H:=ob_ H;obtain ⟨y369,hy369,H⟩:=H;(try dsimp only at H)) | (obtain ⟨y369,hy369⟩:∃ y_:List Int,y_ = (([0]:List Int)):=⟨_,rfl⟩;(try rw (occs:=.pos [1]) [← hy369] at H);(try simp only [Option.bind_some] at H)));have Ny369:=Aside0.mk hy369;clear hy369
                   (first | (with_reducible replace H:=ob_ H;obtain ⟨y372,hy372,H⟩:=H;(try dsimp only at H)) | (obtain ⟨y372,hy372⟩:∃ y_:List Int,y_ = (([0]:List Int)):=⟨_,rfl⟩;(try rw [← hy372] at H);(try simp only [Option.bind_some] at H)));have Ny372:=Aside0.mk hy372;clear hy372
                   replace H:=Option.bind_eq_some_iff.mp H;obtain ⟨⟨t375,t376,t377⟩,A176,H⟩:=H;(try dsimp only at H)
                   go_enter Try.func135,Try.ntmps135
                   go_wp2_with (first | ((with_reducible refine gd 2 rfl (L ?_));refine al 2 S zi27 ?_;clear S F;intro gb309 W S;have F:=S.fc) | ((with_reducible refine gate_callee (f:=186) rfl (L ?_));refine cl (some 7) Try.func186 (spec_l1Cur_challenge.calls _ g _ _ _ _ _ _ _ _ _ _ _ _ _ _ S.hb (S.hge g) hS0_0 S.below A2) (hargs:=by (simp only [ma_,mb_,mc_,F] <;> rfl)) (h:=?_);rintro e W ⟨v313,v316,v319,rfl,ho0,ho1,ho2,hi,hb,hk⟩;refine ⟨_,rfl,?_⟩;obtain ⟨W_,hs_,hm_,S⟩:=S.mid g hi hb hk;rw [← hs_] at ho0;rw [← hs_] at ho1;rw [← hs_] at ho2;replace S:=S.got3i at42 (atI .i64) (atI .i64) hm_ ho0 ho1 ho2 (by decide);obtain ⟨At312,ct312,At315,ct315,At318,ct318,rfl,rfl,rfl,S⟩:=S;clear F hi hb hk hs_ hm_ ho0 ho1 ho2;(try rw [← Ny369.out] at S);(try rw [← Ny372.out] at S);have F:=S.fc) | ((with_reducible refine gd 3 rfl (L ?_));refine al 3 S zi27 ?_;clear S F;intro gb323 W S;have F:=S.fc) | ((with_reducible refine gate_callee (f:=114) rfl (L ?_));refine cl (some 9) Try.func114 (spec_l1Cur_pick.calls g _ _ _ _ _ _ _ _ _ _ _ S.hb (S.hge g) hS0_0 S.below A3) (hargs:=by (simp only [ma_,mb_,mc_,F] <;> rfl)) (h:=?_);rintro e W ⟨rfl,hi,hb,hk⟩;refine ⟨_,rfl,?_⟩;obtain ⟨W_,hs_,hm_,S⟩:=S.mid g hi hb hk;replace S:=S.go hm_;clear F hi hb hk hs_ hm_ ;(try rw [← Ny369.out] at S);(try rw [← Ny372.out] at S);have F:=S.fc) | ((with_reducible refine gd 87 rfl (L ?_));refine lia 87 (atI .i64) 3 S ([0]:List Int) (fun _ _=>(Reps.one (show Kd.M (Kd.int .i64) _ _ _ 0 [.int .i64 0] from rfl) (Reps.none _ _))) (by first | (go_simp;done) | (go_simp;rfl)) ?_;clear S F;intro Ay369 cy369 W S;(try rw [← Ny369.out] at S ⊢);(try rw [← Ny372.out] at S ⊢);have F:=S.fc) | ((with_reducible refine gd 88 rfl (L ?_));refine lia 88 (atI .i64) 3 S ([0]:List Int) (fun _ _=>(Reps.one (show Kd.M (Kd.int .i64) _ _ _ 0 [.int .i64 0] from rfl) (Reps.none _ _))) (by first | (go_simp;done) | (go_simp;rfl)) ?_;clear S F;intro Ay372 cy372 W S;(try rw [← Ny372.out] at S ⊢);have F:=S.fc) | ((with_reducible refine gate_callee (f:=114) rfl (L ?_));refine cl (some 91) Try.func114 (spec_l1Cur_pick.calls g _ _ _ _ _ _ _ _ _ _ _ S.hb (S.hge g) hS0_0 S.below A176) (hargs:=by (simp only [ma_,mb_,mc_,F] <;> rfl)) (h:=?_);rintro e W ⟨rfl,hi,hb,hk⟩;refine ⟨_,rfl,?_⟩;obtain ⟨W_,hs_,hm_,S⟩:=S.mid g hi hb hk;replace S:=S.go hm_;clear F hi hb hk hs_ hm_ ;(try rw [← Ny369.out] at S);(try rw [← Ny372.out] at S);have F:=S.fc) | ((with_reducible refine gs (t:=27) rfl (L ?_));refine sb (.agg #[_,_,_,_,_]) S sz27 ?_;clear S F;intro W S;(try simp only [gd42] at S);(try rw [← Ny369.out] at S);(try rw [← Ny372.out] at S);have F:=S.fc))
                   go_loopg [] k (fun kq w'=>∃ (x324002_1:List (S42)) (Ax324002_1:Option Addr) (cx324002_1:Nat),spec_l1Cur_anyChallenge.l1 kq (wrap64 (6 + t375)) s0_0 t376 t377 1 1 x324002_1 y369 y372 = some (r1,r2,r3,r4,r5,r6,r7)∧kq ≤ k∧St w0 w (fun k=>k = g) [bor (atI .u8) As0_0 s0_0.length s0_0] w'  [row at42 42 Ax324002_1 x324002_1.length cx324002_1 x324002_1,row (atI .i64) 3 Ay372 y372.length cy372 y372,row (atI .i64) 3 Ay369 y369.length cy369 y369,box gb323 27 [.int .i64 1,.int .i64 1,.slice Ax324002_1 x324002_1.length cx324002_1,.slice Ay369 y369.length cy369,.slice Ay372 y372.length cy372],box gb309 27 [.int .i64 0,.int .i64 0,.slice none 0 0,.slice none 0 0,.slice none 0 0],box g 111 [.slice As0_0 s0_0.length cs0_0,.int .i64 t376,.int .u64 t377]])
                   case atStart=>exact ⟨_,_,_,H,Nat.le_refl _,((S.nl (e:=42) at42).ms [1,1,1,1,0,0,0])⟩
                   case round =>
                    clear H S F
                    obtain ⟨x324002_1,Ax324002_1,cx324002_1,HA,HK1,S⟩:=hrel
                    have F:=S.fc
                    cases gk with
                    | zero=>exact absurd HA (by simp [spec_l1Cur_anyChallenge.l1])
                    | succ k1 =>
                     have H:=HA;clear HA;simp only [spec_l1Cur_anyChallenge.l1,F] at H
                     replace H:=sp_ H;rcases H with ⟨c195,H⟩ | ⟨c195,H⟩
                     · skip
                       replace H:=Option.bind_eq_some_iff.mp H;obtain ⟨t378,A196,H⟩:=H;(try dsimp only at H)
                       obtain ⟨ji197,hji197⟩:∃ j_:Int,(wrap64 (1 + (x324002_1.length:Int))) = j_:=⟨_,rfl⟩;simp only [hji197] at H
                       (try rw [hji197] at A196)
                       have hji197w:(IntKind.i64.wrap (1 + (x324002_1.length:Int))) = ji197:=(i64_w _).trans hji197
                       replace H:=np_ H;obtain ⟨c198,H⟩:=H
                       replace H:=np_ H;obtain ⟨c199,H⟩:=H
                       replace H:=np_ H;obtain ⟨c200,H⟩:=H
                       (first | (with_reducible replace H:=ob_ H;obtain ⟨y382,hy382,H⟩:=H;(try dsimp only at H)) | (obtain ⟨y382,hy382⟩:∃ y_:List (S42),y_ = (x324002_1 ++ [(⟨(rd_T42 t378 (ji197)).f0,(rd_T42 t378 (ji197)).f1⟩:S42)]):=⟨_,rfl⟩;(try rw [← hy382] at H);(try simp only [Option.bind_some] at H)));have Ny382:=Aside0.mk hy382;clear hy382
                       go_wp2
                       refine rq S [(0,0),(0,3),(1,1),(1,4),(0,5),(0,6),(2,2),(0,7),(2,8),(2,9),(3,10),(0,11),(3,12)] [10,12] (h:=?_);clear S F;intro W S;have S0:=S;have F:=S.fc
                       repeat (first | (refine q0 (h:=?_)) | (refine q1 S0 (h:=?_)))
                       refine lk2 (by rfl) (by exact (Eq.refl true)) ?_;refine cl (some 100) Try.func189 (spec_paAll.calls _ _ _ A196) (hargs:=by (simp only [ma_,mb_,mc_,F] <;> rfl)) (h:=?_);rintro e W ⟨v379,rfl,ho0,hb⟩;refine ⟨_,rfl,?_⟩;replace S:=S.got at42 hb ho0;obtain ⟨At378,ct378,rfl,S⟩:=S;clear F hb ho0;(try rw [← Ny369.out] at S);(try rw [← Ny372.out] at S);(try rw [← Ny382.out] at S);have F:=S.fc
                       clear S0;have S0:=S.tl;refine ⟨S0,?_⟩
                       repeat (first | (refine q0 (h:=?_)) | (refine q2 S0 (h:=?_)))
                       refine lk2 (by rfl) (by exact (Eq.refl true)) ?_;refine lv 107 (cs:=[.int .i64 ((rd_T42 t378 (ji197)).f0),.int .i64 ((rd_T42 t378 (ji197)).f1)]) (e:=42) (by first | (go_simp;done) | (go_simp;rfl)) ?_
                       clear S0;have S0:=St.al1 S.tl (.cells (List.toArray [.int .i64 ((rd_T42 t378 (ji197)).f0),.int .i64 ((rd_T42 t378 (ji197)).f1)]) 42);refine ⟨S0,?_⟩
                       refine lk3 (by rfl) (by exact (Eq.refl true)) ?_;refine apa (A:=Ax324002_1) 108 S Try.underlying24 info42 ?_ (ho:=rfl) (hs:=rfl) (hx:=rfl);clear S F;intro Ay382 cy382 W S;(try rw [← Ny369.out] at S ⊢);(try rw [← Ny372.out] at S ⊢);(try rw [← Ny382.out] at S ⊢);have F:=S.fc
                       repeat ((refine q0 (h:=?_)))
                       refine lk3 (by rfl) (by exact (Eq.refl true)) ?_;(first | refine sb (.int _ _) S sz3 ?_ | refine ro (.int _ _) S sz3 ?_ (ho:=rfl) (hx:=rfl) (hy:=rfl) | refine sb (.slice _ _ _) S sz24 ?_ | refine ro (.slice _ _ _) S sz24 ?_ (ho:=rfl) (hx:=rfl) (hy:=rfl) | refine sb (.slice _ _ _) S sz25 ?_ | refine ro (.slice _ _ _) S sz25 ?_ (ho:=rfl) (hx:=rfl) (hy:=rfl) | refine sb (.agg #[_,_,_,_,_]) S sz27 ?_ | refine ro (.agg #[_,_,_,_,_]) S sz27 ?_ (ho:=rfl) (hx:=rfl) (hy:=rfl));clear S F;intro W S;(try simp only [gd42] at S);(try rw [← Ny369.out] at S);(try rw [← Ny372.out] at S);(try rw [← Ny382.out] at S);have F:=S.fc
                       refine oz ?_
                       try clear S0
                       go_wp2
                       go_roundg k1
                       case measure=>omega
                       case rel=>exact ⟨y382,_,_,H,(by first | omega | exact Nat.le_refl _),S.tl⟩
                     · skip
                       simp only [Option.some.injEq,Prod.mk.injEq] at H
                       obtain ⟨rfl,rfl,rfl,rfl,rfl,rfl,rfl⟩:=H
                       go_wp2_with ((with_reducible refine gs (t:=27) rfl (L ?_));refine sb (.agg #[_,_,_,_,_]) S sz27 ?_;clear S F;intro W S;(try simp only [gd42] at S);(try rw [← Ny369.out] at S);(try rw [← Ny372.out] at S);have F:=S.fc)
                       refine bodyPost_ret (results_cell_row rfl _ _ gb309 27 #[.int .i64 1,.int .i64 1,.slice Ax324002_1 x324002_1.length cx324002_1,.slice Ay369 y369.length cy369,.slice Ay372 y372.length cy372] (0,0) _ rfl S.hb Try.underlying27 rfl (by kernel_rfl)) rfl ?_
                       exact ⟨_,_,_,(by first | rfl | (simp;done) | first | rfl | (simp [e0_,e1_] <;> rfl) | (simp [*,e0_,e1_] <;> rfl)),(by first | exact S.ru | exact Kd.R_nil _ _ _ _ _),(by first | exact S.run | exact Kd.R_nil _ _ _ _ _),(by first | exact S.run | exact Kd.R_nil _ _ _ _ _),(by first | exact S.hb | simpa using S.hb (g:=g)),S.below,S.kept⟩
                 · skip
                   replace c175:=cne c175
                   replace H:=sp_ H;rcases H with ⟨c217,H⟩ | ⟨c217,H⟩
                   · skip
                     replace c217:=ceq c217
                     (first | (with_reducible replace H:=ob_ H;obtain ⟨y385,hy385,H⟩:=H;(try dsimp only at H)) | (obtain ⟨y385,hy385⟩:∃ y_:List (S42),y_ = (([(⟨3,0⟩:S42),(⟨2,0⟩:S42)]:List (S42))):=⟨_,rfl⟩;(try rw [← hy385] at H);(try simp only [Option.bind_some] at H)));have Ny385:=Aside0.mk hy385;clear hy385
                     (first | (with_reducible replace H:=ob_ H;obtain ⟨y388,hy388,H⟩:=H;(try dsimp only at H)) | (obtain ⟨y388,hy388⟩:∃ y_:List Int,y_ = (([0,1]:List Int)):=⟨_,rfl⟩;(try rw [← hy388] at H);(try simp only [Option.bind_some] at H)));have Ny388:=Aside0.mk hy388;clear hy388
                     (first | (with_reducible replace H:=ob_ H;obtain ⟨y391,hy391,H⟩:=H;(try dsimp only at H)) | (obtain ⟨y391,hy391⟩:∃ y_:List Int,y_ = (([1,1]:List Int)):=⟨_,rfl⟩;(try rw [← hy391] at H);(try simp only [Option.bind_some] at H)));have Ny391:=Aside0.mk hy391;clear hy391
                     replace H:=Option.bind_eq_some_iff.mp H;obtain ⟨⟨t394,t395,t396⟩,A218,H⟩:=H;(try dsimp only at H)
                     replace H:=sp_ H;rcases H with ⟨c219,H⟩ | ⟨c219,H⟩
                     · skip
                       subst c219
                       replace H:=np_ H;obtain ⟨c220,H⟩:=H
                       (first | (with_reducible replace H:=ob_ H;obtain ⟨y397,hy397,H⟩:=H;(try dsimp only at H)) | (obtain ⟨y397,hy397⟩:∃ y_:List (S42),y_ = (y385 ++ [(⟨1,0⟩:S42)]):=⟨_,rfl⟩;(try rw [← hy397] at H);(try simp only [Option.bind_some] at H)));have Ny397:=Aside0.mk hy397;clear hy397
                       simp only [Option.some.injEq,Prod.mk.injEq] at H
                       obtain ⟨rfl,rfl,rfl,rfl,rfl,rfl,rfl⟩:=H
                       go_enter Try.func135,Try.ntmps135
                       go_wp2_with (first | ((with_reducible refine gd 2 rfl (L ?_));refine al 2 S zi27 ?_;clear S F;intro gb309 W S;have F:=S.fc) | ((with_reducible refine gate_callee (f:=186) rfl (L ?_));refine cl (some 7) Try.func186 (spec_l1Cur_challenge.calls _ g _ _ _ _ _ _ _ _ _ _ _ _ _ _ S.hb (S.hge g) hS0_0 S.below A2) (hargs:=by (simp only [ma_,mb_,mc_,F] <;> rfl)) (h:=?_);rintro e W ⟨v313,v316,v319,rfl,ho0,ho1,ho2,hi,hb,hk⟩;refine ⟨_,rfl,?_⟩;obtain ⟨W_,hs_,hm_,S⟩:=S.mid g hi hb hk;rw [← hs_] at ho0;rw [← hs_] at ho1;rw [← hs_] at ho2;replace S:=S.got3i at42 (atI .i64) (atI .i64) hm_ ho0 ho1 ho2 (by decide);obtain ⟨At312,ct312,At315,ct315,At318,ct318,rfl,rfl,rfl,S⟩:=S;clear F hi hb hk hs_ hm_ ho0 ho1 ho2;(try rw [← Ny385.out] at S);(try rw [← Ny388.out] at S);(try rw [← Ny391.out] at S);(try rw [← Ny397.out] at S);have F:=S.fc) | ((with_reducible refine gd 3 rfl (L ?_));refine al 3 S zi27 ?_;clear S F;intro gb323 W S;have F:=S.fc) | ((with_reducible refine gate_callee (f:=114) rfl (L ?_));refine cl (some 9) Try.func114 (spec_l1Cur_pick.calls g _ _ _ _ _ _ _ _ _ _ _ S.hb (S.hge g) hS0_0 S.below A3) (hargs:=by (simp only [ma_,mb_,mc_,F] <;> rfl)) (h:=?_);rintro e W ⟨rfl,hi,hb,hk⟩;refine ⟨_,rfl,?_⟩;obtain ⟨W_,hs_,hm_,S⟩:=S.mid g hi hb hk;replace S:=S.go hm_;clear F hi hb hk hs_ hm_ ;(try rw [← Ny385.out] at S);(try rw [← Ny388.out] at S);(try rw [← Ny391.out] at S);(try rw [← Ny397.out] at S);have F:=S.fc) | ((with_reducible refine gd 114 rfl (L ?_));refine lia 114 at42 42 S ([(⟨3,0⟩:S42),(⟨2,0⟩:S42)]:List (S42)) (fun _ _=>(Reps.c2 (show Kd.M k42 _ _ _ (⟨3,0⟩:S42) [.int .i64 3,.int .i64 0] from (k42_mkM _ _ _ (⟨3,0⟩:S42) )) (Reps.c2 (show Kd.M k42 _ _ _ (⟨2,0⟩:S42) [.int .i64 2,.int .i64 0] from (k42_mkM _ _ _ (⟨2,0⟩:S42) )) (Reps.none _ _)))) (by first | (go_simp;done) | (go_simp;rfl)) ?_;clear S F;intro Ay385 cy385 W S;(try rw [← Ny385.out] at S ⊢);(try rw [← Ny388.out] at S ⊢);(try rw [← Ny391.out] at S ⊢);(try rw [← Ny397.out] at S ⊢);have F:=S.fc) | ((with_reducible refine gd 115 rfl (L ?_));refine lia 115 (atI .i64) 3 S ([0,1]:List Int) (fun _ _=>(Reps.one (show Kd.M (Kd.int .i64) _ _ _ 0 [.int .i64 0] from rfl) (Reps.one (show Kd.M (Kd.int .i64) _ _ _ 1 [.int .i64 1] from rfl) (Reps.none _ _)))) (by first | (go_simp;done) | (go_simp;rfl)) ?_;clear S F;intro Ay388 cy388 W S;(try rw [← Ny385.out] at S ⊢);(try rw [← Ny388.out] at S ⊢);(try rw [← Ny391.out] at S ⊢);(try rw [← Ny397.out] at S ⊢);have F:=S.fc) | ((with_reducible refine gd 116 rfl (L ?_));refine lia 116 (atI .i64) 3 S ([1,1]:List Int) (fun _ _=>(Reps.one (show Kd.M (Kd.int .i64) _ _ _ 1 [.int .i64 1] from rfl) (Reps.one (show Kd.M (Kd.int .i64) _ _ _ 1 [.int .i64 1] from rfl) (Reps.none _ _)))) (by first | (go_simp;done) | (go_simp;rfl)) ?_;clear S F;intro Ay391 cy391 W S;(try rw [← Ny385.out] at S ⊢);(try rw [← Ny388.out] at S ⊢);(try rw [← Ny391.out] at S ⊢);(try rw [← Ny397.out] at S ⊢);have F:=S.fc) | ((with_reducible refine gate_callee (f:=123) rfl (L ?_));refine cl (some 119) Try.func123 (spec_l1Cur_one.calls g _ _ _ _ _ _ _ _ _ _ _ S.hb (S.hge g) hS0_0 S.below A218) (hargs:=by (simp only [ma_,mb_,mc_,F] <;> rfl)) (h:=?_);rintro e W ⟨rfl,hi,hb,hk⟩;refine ⟨_,rfl,?_⟩;obtain ⟨W_,hs_,hm_,S⟩:=S.mid g hi hb hk;replace S:=S.go hm_;clear F hi hb hk hs_ hm_ ;(try rw [← Ny385.out] at S);(try rw [← Ny388.out] at S);(try rw [← Ny391.out] at S);(try rw [← Ny397.out] at S);have F:=S.fc) | ((with_reducible refine gd 124 rfl (L ?_));refine apa (A:=Ay385) 124 S Try.underlying24 info42 ?_ (ho:=rfl) (hs:=rfl) (hx:=rfl);clear S F;intro Ay397 cy397 W S;(try rw [← Ny385.out] at S ⊢);(try rw [← Ny388.out] at S ⊢);(try rw [← Ny391.out] at S ⊢);(try rw [← Ny397.out] at S ⊢);have F:=S.fc) | ((with_reducible refine gs (t:=24) rfl (L ?_));refine sb (.slice _ _ _) S sz24 ?_;clear S F;intro W S;(try simp only [gd42] at S);(try rw [← Ny385.out] at S);(try rw [← Ny388.out] at S);(try rw [← Ny391.out] at S);(try rw [← Ny397.out] at S);have F:=S.fc) | ((with_reducible refine gs (t:=27) rfl (L ?_));refine sb (.agg #[_,_,_,_,_]) S sz27 ?_;clear S F;intro W S;(try simp only [gd42] at S);(try rw [← Ny385.out] at S);(try rw [← Ny388.out] at S);(try rw [← Ny391.out] at S);(try rw [← Ny397.out] at S);have F:=S.fc))
                       refine bodyPost_ret (results_cell_row rfl _ _ gb309 27 #[.int .i64 2,.int .i64 4,.slice Ay397 y397.length cy397,.slice Ay388 y388.length cy388,.slice Ay391 y391.length cy391] (0,0) _ rfl S.hb Try.underlying27 rfl (by kernel_rfl)) rfl ?_
                       exact ⟨_,_,_,(by first | rfl | (simp;done) | first | rfl | (simp [e0_,e1_] <;> rfl) | (simp [*,e0_,e1_] <;> rfl)),(by first | exact S.ru | exact Kd.R_nil _ _ _ _ _),(by first | exact S.run | exact Kd.R_nil _ _ _ _ _),(by first | exact S.run | exact Kd.R_nil _ _ _ _ _),(by first | exact S.hb | simpa using S.hb (g:=g)),S.below,S.kept⟩
                     · skip
                       replace c219:=cbf c219;subst c219
                       simp only [Option.some.injEq,Prod.mk.injEq] at H
                       obtain ⟨rfl,rfl,rfl,rfl,rfl,rfl,rfl⟩:=H
                       go_enter Try.func135,Try.ntmps135
                       go_wp2_with (first | ((with_reducible refine gd 2 rfl (L ?_));refine al 2 S zi27 ?_;clear S F;intro gb309 W S;have F:=S.fc) | ((with_reducible refine gate_callee (f:=186) rfl (L ?_));refine cl (some 7) Try.func186 (spec_l1Cur_challenge.calls _ g _ _ _ _ _ _ _ _ _ _ _ _ _ _ S.hb (S.hge g) hS0_0 S.below A2) (hargs:=by (simp only [ma_,mb_,mc_,F] <;> rfl)) (h:=?_);rintro e W ⟨v313,v316,v319,rfl,ho0,ho1,ho2,hi,hb,hk⟩;refine ⟨_,rfl,?_⟩;obtain ⟨W_,hs_,hm_,S⟩:=S.mid g hi hb hk;rw [← hs_] at ho0;rw [← hs_] at ho1;rw [← hs_] at ho2;replace S:=S.got3i at42 (atI .i64) (atI .i64) hm_ ho0 ho1 ho2 (by decide);obtain ⟨At312,ct312,At315,ct315,At318,ct318,rfl,rfl,rfl,S⟩:=S;clear F hi hb hk hs_ hm_ ho0 ho1 ho2;(try rw [← Ny385.out] at S);(try rw [← Ny388.out] at S);(try rw [← Ny391.out] at S);have F:=S.fc) | ((with_reducible refine gd 3 rfl (L ?_));refine al 3 S zi27 ?_;clear S F;intro gb323 W S;have F:=S.fc) | ((with_reducible refine gate_callee (f:=114) rfl (L ?_));refine cl (some 9) Try.func114 (spec_l1Cur_pick.calls g _ _ _ _ _ _ _ _ _ _ _ S.hb (S.hge g) hS0_0 S.below A3) (hargs:=by (simp only [ma_,mb_,mc_,F] <;> rfl)) (h:=?_);rintro e W ⟨rfl,hi,hb,hk⟩;refine ⟨_,rfl,?_⟩;obtain ⟨W_,hs_,hm_,S⟩:=S.mid g hi hb hk;replace S:=S.go hm_;clear F hi hb hk hs_ hm_ ;(try rw [← Ny385.out] at S);(try rw [← Ny388.out] at S);(try rw [← Ny391.out] at S);have F:=S.fc) | ((with_reducible refine gd 114 rfl (L ?_));refine lia 114 at42 42 S ([(⟨3,0⟩:S42),(⟨2,0⟩:S42)]:List (S42)) (fun _ _=>(Reps.c2 (show Kd.M k42 _ _ _ (⟨3,0⟩:S42) [.int .i64 3,.int .i64 0] from (k42_mkM _ _ _ (⟨3,0⟩:S42) )) (Reps.c2 (show Kd.M k42 _ _ _ (⟨2,0⟩:S42) [.int .i64 2,.int .i64 0] from (k42_mkM _ _ _ (⟨2,0⟩:S42) )) (Reps.none _ _)))) (by first | (go_simp;done) | (go_simp;rfl)) ?_;clear S F;intro Ay385 cy385 W S;(try rw [← Ny385.out] at S ⊢);(try rw [← Ny388.out] at S ⊢);(try rw [← Ny391.out] at S ⊢);have F:=S.fc) | ((with_reducible refine gd 115 rfl (L ?_));refine lia 115 (atI .i64) 3 S ([0,1]:List Int) (fun _ _=>(Reps.one (show Kd.M (Kd.int .i64) _ _ _ 0 [.int .i64 0] from rfl) (Reps.one (show Kd.M (Kd.int .i64) _ _ _ 1 [.int .i64 1] from rfl) (Reps.none _ _)))) (by first | (go_simp;done) | (go_simp;rfl)) ?_;clear S F;intro Ay388 cy388 W S;(try rw [← Ny385.out] at S ⊢);(try rw [← Ny388.out] at S ⊢);(try rw [← Ny391.out] at S ⊢);have F:=S.fc) | ((with_reducible refine gd 116 rfl (L ?_));refine lia 116 (atI .i64) 3 S ([1,1]:List Int) (fun _ _=>(Reps.one (show Kd.M (Kd.int .i64) _ _ _ 1 [.int .i64 1] from rfl) (Reps.one (show Kd.M (Kd.int .i64) _ _ _ 1 [.int .i64 1] from rfl) (Reps.none _ _)))) (by first | (go_simp;done) | (go_simp;rfl)) ?_;clear S F;intro Ay391 cy391 W S;(try rw [← Ny385.out] at S ⊢);(try rw [← Ny388.out] at S ⊢);(try rw [← Ny391.out] at S ⊢);have F:=S.fc) | ((with_reducible refine gate_callee (f:=123) rfl (L ?_));refine cl (some 119) Try.func123 (spec_l1Cur_one.calls g _ _ _ _ _ _ _ _ _ _ _ S.hb (S.hge g) hS0_0 S.below A218) (hargs:=by (simp only [ma_,mb_,mc_,F] <;> rfl)) (h:=?_);rintro e W ⟨rfl,hi,hb,hk⟩;refine ⟨_,rfl,?_⟩;obtain ⟨W_,hs_,hm_,S⟩:=S.mid g hi hb hk;replace S:=S.go hm_;clear F hi hb hk hs_ hm_ ;(try rw [← Ny385.out] at S);(try rw [← Ny388.out] at S);(try rw [← Ny391.out] at S);have F:=S.fc) | ((with_reducible refine gs (t:=27) rfl (L ?_));refine sb (.agg #[_,_,_,_,_]) S sz27 ?_;clear S F;intro W S;(try simp only [gd42] at S);(try rw [← Ny385.out] at S);(try rw [← Ny388.out] at S);(try rw [← Ny391.out] at S);have F:=S.fc))
                       refine bodyPost_ret (results_cell_row rfl _ _ gb309 27 #[.int .i64 2,.int .i64 4,.slice Ay385 y385.length cy385,.slice Ay388 y388.length cy388,.slice Ay391 y391.length cy391] (0,0) _ rfl S.hb Try.underlying27 rfl (by kernel_rfl)) rfl ?_
                       exact ⟨_,_,_,(by first | rfl | (simp;done) | first | rfl | (simp [e0_,e1_] <;> rfl) | (simp [*,e0_,e1_] <;> rfl)),(by first | exact S.ru | exact Kd.R_nil _ _ _ _ _),(by first | exact S.run | exact Kd.R_nil _ _ _ _ _),(by first | exact S.run | exact Kd.R_nil _ _ _ _ _),(by first | exact S.hb | simpa using S.hb (g:=g)),S.below,S.kept⟩
                   · skip
                     replace c217:=cne c217
                     simp only [Option.some.injEq,Prod.mk.injEq] at H
                     obtain ⟨rfl,rfl,rfl,rfl,rfl,rfl,rfl⟩:=H
                     go_enter Try.func135,Try.ntmps135
                     go_wp2_with (first | ((with_reducible refine gd 2 rfl (L ?_));refine al 2 S zi27 ?_;clear S F;intro gb309 W S;have F:=S.fc) | ((with_reducible refine gate_callee (f:=186) rfl (L ?_));refine cl (some 7) Try.func186 (spec_l1Cur_challenge.calls _ g _ _ _ _ _ _ _ _ _ _ _ _ _ _ S.hb (S.hge g) hS0_0 S.below A2) (hargs:=by (simp only [ma_,mb_,mc_,F] <;> rfl)) (h:=?_);rintro e W ⟨v313,v316,v319,rfl,ho0,ho1,ho2,hi,hb,hk⟩;refine ⟨_,rfl,?_⟩;obtain ⟨W_,hs_,hm_,S⟩:=S.mid g hi hb hk;rw [← hs_] at ho0;rw [← hs_] at ho1;rw [← hs_] at ho2;replace S:=S.got3i at42 (atI .i64) (atI .i64) hm_ ho0 ho1 ho2 (by decide);obtain ⟨At312,ct312,At315,ct315,At318,ct318,rfl,rfl,rfl,S⟩:=S;clear F hi hb hk hs_ hm_ ho0 ho1 ho2;have F:=S.fc) | ((with_reducible refine gd 3 rfl (L ?_));refine al 3 S zi27 ?_;clear S F;intro gb323 W S;have F:=S.fc) | ((with_reducible refine gate_callee (f:=114) rfl (L ?_));refine cl (some 9) Try.func114 (spec_l1Cur_pick.calls g _ _ _ _ _ _ _ _ _ _ _ S.hb (S.hge g) hS0_0 S.below A3) (hargs:=by (simp only [ma_,mb_,mc_,F] <;> rfl)) (h:=?_);rintro e W ⟨rfl,hi,hb,hk⟩;refine ⟨_,rfl,?_⟩;obtain ⟨W_,hs_,hm_,S⟩:=S.mid g hi hb hk;replace S:=S.go hm_;clear F hi hb hk hs_ hm_ ;have F:=S.fc) | ((with_reducible refine gs (t:=27) rfl (L ?_));refine sb (.agg #[_,_,_,_,_]) S sz27 ?_;clear S F;intro W S;(try simp only [gd42] at S);have F:=S.fc))
                     refine bodyPost_ret (results_cell_row rfl _ _ gb309 27 #[.int .i64 t310,.int .i64 t311,.slice At312 t312.length ct312,.slice At315 t315.length ct315,.slice At318 t318.length ct318] (0,0) _ rfl S.hb Try.underlying27 rfl (by kernel_rfl)) rfl ?_
                     exact ⟨_,_,_,(by first | rfl | (simp;done) | first | rfl | (simp [e0_,e1_] <;> rfl) | (simp [*,e0_,e1_] <;> rfl)),(by first | exact S.ru | exact Kd.R_nil _ _ _ _ _),(by first | exact S.run | exact Kd.R_nil _ _ _ _ _),(by first | exact S.run | exact Kd.R_nil _ _ _ _ _),(by first | exact S.hb | simpa using S.hb (g:=g)),S.below,S.kept⟩

/-! ### spec_DrawIsChallenge: function 91 -/
def spec_DrawIsChallenge.f (k:Nat) (l0:List Int):Option (Int × Int × (List (S42)) × List Int × List Int):=(spec_l1Cur_anyChallenge.f k l0 0 0).bind fun bt402=>(some (bt402.1,bt402.2.1,bt402.2.2.1,bt402.2.2.2.1,bt402.2.2.2.2.1))
theorem spec_DrawIsChallenge.calls (k:Nat) (A0:Option Addr) (c0:Nat) (l0:List Int) (r1:Int) (r2:Int) (r3:List (S42)) (r4:List Int) (r5:List Int) (w:World) (hr0:Kd.C (Kd.int .u8) w A0 l0.length l0) (hc0:l0.length ≤ c0) (h:spec_DrawIsChallenge.f k l0 = some (r1,r2,r3,r4,r5)) :
    Calls Try.prog 91 #[.slice A0 l0.length c0] w fun e w'=>∃ v2_ v3_ v4_:Value,e = .returned (.agg #[.int .i64 r1,.int .i64 r2,v2_,v3_,v4_])∧Kd.R k42 42 w' w.heap.size (fun _=>True) v2_ r3∧Kd.R (Kd.int .i64) 3 w' w.heap.size (fun k_=>some k_ ≠ (v4_:Value).ownBlock) v3_ r4∧Kd.R (Kd.int .i64) 3 w' w.heap.size (fun k_=>some k_ ≠ (v3_:Value).ownBlock) v4_ r5∧Below w.heap.size w w':=by
 have S:=St.init (w:=w) (dc (Kd.heap_int .u8) (atI .u8) hr0 hc0 dn)
 clear hc0
 have F:=S.fc
 have H:=h;clear h;unfold spec_DrawIsChallenge.f at H
 replace H:=Option.bind_eq_some_iff.mp H;obtain ⟨⟨t402,t403,t404,t407,t410,t413,t414⟩,A2,H⟩:=H;(try dsimp only at H)
 simp only [Option.some.injEq,Prod.mk.injEq] at H
 obtain ⟨rfl,rfl,rfl,rfl,rfl⟩:=H
 go_enter Try.func91,Try.ntmps91
 go_wp2_with (first | ((with_reducible refine gd 2 rfl (L ?_));refine al 2 S zi27 ?_;clear S F;intro gb400 W S;have F:=S.fc) | ((with_reducible refine gd 6 rfl (L ?_));refine bo 6 (.agg #[_,_,_]) S ?_;clear S F;intro gb401 W S;have F:=S.fc) | ((with_reducible refine gate_callee (f:=135) rfl (L ?_));refine cl (some 8) Try.func135 (spec_l1Cur_anyChallenge.calls _ gb401 _ _ _ _ _ _ _ _ _ _ _ _ _ _ S.hb (S.hge gb401) hr0 S.below A2) (hargs:=by (simp only [ma_,mb_,mc_,F] <;> rfl)) (h:=?_);rintro e W ⟨v405,v408,v411,rfl,ho0,ho1,ho2,hi,hb,hk⟩;refine ⟨_,rfl,?_⟩;obtain ⟨W_,hs_,hm_,S⟩:=S.mid gb401 hi hb hk;rw [← hs_] at ho0;rw [← hs_] at ho1;rw [← hs_] at ho2;replace S:=S.got3i at42 (atI .i64) (atI .i64) hm_ ho0 ho1 ho2 (by decide);obtain ⟨At404,ct404,At407,ct407,At410,ct410,rfl,rfl,rfl,S⟩:=S;clear F hi hb hk hs_ hm_ ho0 ho1 ho2;have F:=S.fc) | ((with_reducible refine gs (t:=27) rfl (L ?_));refine sb (.agg #[_,_,_,_,_]) S sz27 ?_;(clear S F;intro W S;have F:=S.fc)))
 refine bodyPost_ret (results_cell_row rfl _ _ gb400 27 #[.int .i64 t402,.int .i64 t403,.slice At404 t404.length ct404,.slice At407 t407.length ct407,.slice At410 t410.length ct410] (0,0) _ rfl S.hb Try.underlying27 rfl (by kernel_rfl)) rfl ?_
 exact ⟨_,_,_,(by first | rfl | (simp [e0_,e1_] <;> rfl) | (simp [*,e0_,e1_] <;> rfl)),(by first | exact S.r | exact Kd.R_nil _ _ _ _ _),(by first | exact S.rn | exact Kd.R_nil _ _ _ _ _),(by first | exact S.rn | exact Kd.R_nil _ _ _ _ _),S.below⟩

/-! ### impl_Cell_184: function 184 -/
def impl_Cell_184.l0:Nat→List (S42)→Int→Int→Int→Int→Option (Int)
 | 0,_,_,_,_,_=>none
 | k + 1,x0,x7,x8,x428000,x428001=>if x8 < x7 then (if 0 ≤ x8 then (if x8 < (x0.length:Int) then (if (x428000 == ((rd_T42 x0 x8).f0) && (x428001 == ((rd_T42 x0 x8).f1))) = true then (some x8) else (impl_Cell_184.l0 k x0 x7 (wrap64 (x8 + 1)) x428000 x428001)) else (none)) else (none)) else (some (-1))
def impl_Cell_184.f (k:Nat) (l0:List (S42)) (a1_0:Int) (a1_1:Int):Option (Int):=impl_Cell_184.l0 k l0 (l0.length:Int) 0 a1_0 a1_1
theorem impl_Cell_184.calls (k:Nat) (A0:Option Addr) (c0:Nat) (l0:List (S42)) (a1_0:Int) (a1_1:Int) (r:Int) (w:World) (hr0:Kd.C k42 w A0 l0.length l0) (hc0:l0.length ≤ c0) (h:impl_Cell_184.f k l0 a1_0 a1_1 = some r) :
  Calls Try.prog 184 #[.slice A0 l0.length c0,.agg #[.int .i64 a1_0,.int .i64 a1_1]] w fun e w'=>e = .returned (.int .i64 r)∧Below w.heap.size w w':=by
 have HR0:=Aside0.mk hr0;have HC0:=Aside0.mk hc0;clear hr0 hc0;have HB:=Aside0.mk (Below.refl w.heap.size w);have H:(impl_Cell_184.l0 k l0 (l0.length:Int) 0 a1_0 a1_1) = some r:=h;clear h;have H':=Aside0.mk H;clear H;go_enter Try.func184,Try.ntmps184;go_wp2_with (first | ((with_reducible refine gate_dst (N:=3) rfl ?_);refine box_event ?hg (N:=3) ?hd (cs:=#[.int .i64 a1_0,.int .i64 a1_1]) (t:=42) ?hr ?_;(case hd=>rfl);(case hg=>rfl);(case hr=>first | (go_simp;done) | (go_simp;rfl));intro gb427 hg w3 hbox hb;refine ev4 (bs HB hb) (hbox) (gle hg HB) (gle hg HB) ?_;clear HB;intro HB BK427 GW427 GE427;clear hb hbox hg))
 repeat (go_quiet (first | ((with_reducible refine gate_dst (N:=3) rfl ?_);refine box_event ?hg (N:=3) ?hd (cs:=#[.int .i64 a1_0,.int .i64 a1_1]) (t:=42) ?hr ?_;(case hd=>rfl);(case hg=>rfl);(case hr=>first | (go_simp;done) | (go_simp;rfl));intro gb427 hg w3 hbox hb;refine ev4 (bs HB hb) (hbox) (gle hg HB) (gle hg HB) ?_;clear HB;intro HB BK427 GW427 GE427;clear hb hbox hg));try go_wp2_with (first | ((with_reducible refine gate_dst (N:=3) rfl ?_);refine box_event ?hg (N:=3) ?hd (cs:=#[.int .i64 a1_0,.int .i64 a1_1]) (t:=42) ?hr ?_;(case hd=>rfl);(case hg=>rfl);(case hr=>first | (go_simp;done) | (go_simp;rfl));intro gb427 hg w3 hbox hb;refine ev4 (bs HB hb) (hbox) (gle hg HB) (gle hg HB) ?_;clear HB;intro HB BK427 GW427 GE427;clear hb hbox hg)))
 go_loopg [8] k (fun kq v8 w'=>∃ (x8_1:Int),v8 = .int .i64 x8_1∧Aside0 (impl_Cell_184.l0 kq l0 (l0.length:Int) x8_1 a1_0 a1_1 = some r)∧Aside0 (kq ≤ k)∧Aside0 (w'.heap[gb427]? = some (.cells #[.int .i64 a1_0,.int .i64 a1_1] 42 (0,0)))∧Aside0 (Below w.heap.size w w'))
 case atStart=>exact ⟨(0),(by first | rfl | (simp;done) | (simp [*];done)),H',⟨Nat.le_refl _⟩,⟨km_ BK427⟩,⟨bm HB⟩⟩
 case round =>
  clear H';(try clear c1);(try clear p2);obtain ⟨x8_1,rfl,HA,HK1,BK427,HB⟩:=hrel;cases gk with
  | zero=>exact absurd HA.out (by simp [impl_Cell_184.l0])
  | succ k1 =>
   have H:=HA.out;clear HA;simp only [impl_Cell_184.l0] at H;by_cases c4:x8_1 < (l0.length:Int)
   ·rw [if_pos c4] at H;have c4b0:decide (x8_1 < (l0.length:Int)) = true:=decide_eq_true c4;clear c4;replace H:=np_ H;obtain ⟨c5,H⟩:=H;have c5b0:decide (0 ≤ x8_1) = true:=decide_eq_true c5;clear c5;replace H:=np_ H;obtain ⟨c6,H⟩:=H;have c6b0:decide (x8_1 < (l0.length:Int)) = true:=decide_eq_true c6;clear c6;by_cases c7:(a1_0 == ((rd_T42 l0 x8_1).f0) && (a1_1 == ((rd_T42 l0 x8_1).f1))) = true
    ·rw [if_pos c7] at H;have c7b0:(a1_0 == ((rd_T42 l0 x8_1).f0) && (a1_1 == ((rd_T42 l0 x8_1).f1))) = true:=c7;(try (have c7b1:decide (a1_0 = ((rd_T42 l0 x8_1).f0) && (a1_1 == ((rd_T42 l0 x8_1).f1))) = true:=by simpa using c7))
     (try (have c7b2:(a1_0 == ((rd_T42 l0 x8_1).f0) && (a1_1 == ((rd_T42 l0 x8_1).f1))) = true:=by simpa using c7))
     clear c7;obtain rfl:=Option.some.inj H;obtain ⟨hcz8_0,hcz8_1,hfz8_0,hfz8_1⟩:=bt2 BK427;have p428:0 ≤ (x8_1:Int):=of_decide_eq_true (by first | (with_reducible assumption) | assumption);have q428:x8_1 < (l0.length:Int):=of_decide_eq_true (by first | (with_reducible assumption) | assumption);obtain ⟨ad428,e428,hx428_0,hx428_1⟩:=at_T42 HR0.out x8_1 p428 q428;cases e428;replace hx428_0:=(HB.out.cell (World.block_lt_of_cell? w _ hx428_0)).trans hx428_0;replace hx428_1:=(HB.out.cell (World.block_lt_of_cell? w _ hx428_1)).trans hx428_1;replace p428:=eq_true p428;replace q428:=eq_true q428;go_wp2;repeat (go_quiet (fail);try go_wp2)
     go_ret;exact ⟨by first | rfl | (simp [e0_,e1_] <;> rfl) | (simp [*,e0_,e1_] <;> rfl),bm HB⟩
    ·rw [if_neg c7] at H;have c7b0:(a1_0 == ((rd_T42 l0 x8_1).f0) && (a1_1 == ((rd_T42 l0 x8_1).f1))) = false:=by simpa using c7
     (try (have c7b1:decide (a1_0 = ((rd_T42 l0 x8_1).f0) && (a1_1 == ((rd_T42 l0 x8_1).f1))) = false:=by simpa using c7))
     (try (have c7b2:(a1_0 == ((rd_T42 l0 x8_1).f0) && (a1_1 == ((rd_T42 l0 x8_1).f1))) = false:=by simpa using c7))
     (try (have c7b3:¬ (a1_0 = ((rd_T42 l0 x8_1).f0) && (a1_1 == ((rd_T42 l0 x8_1).f1))):=by simpa using c7))
     clear c7;have H':=Aside0.mk H;clear H;obtain ⟨hcz9_0,hcz9_1,hfz9_0,hfz9_1⟩:=bt2 BK427;have p428:0 ≤ (x8_1:Int):=of_decide_eq_true (by first | (with_reducible assumption) | assumption);have q428:x8_1 < (l0.length:Int):=of_decide_eq_true (by first | (with_reducible assumption) | assumption);obtain ⟨ad428,e428,hx428_0,hx428_1⟩:=at_T42 HR0.out x8_1 p428 q428;cases e428;replace hx428_0:=(HB.out.cell (World.block_lt_of_cell? w _ hx428_0)).trans hx428_0;replace hx428_1:=(HB.out.cell (World.block_lt_of_cell? w _ hx428_1)).trans hx428_1;replace p428:=eq_true p428;replace q428:=eq_true q428;go_wp2;repeat (go_quiet (fail);try go_wp2)
     go_roundg k1
     case measure=>have:=HK1.out;omega
     case rel=>exact ⟨(wrap64 (x8_1 + 1)),(by first | rfl | (simp;done) | (simp [*];done)),H',⟨by have:=HK1.out;omega⟩,⟨km_ BK427⟩,⟨bm HB⟩⟩
   ·rw [if_neg c4] at H;have c4b0:decide (x8_1 < (l0.length:Int)) = false:=decide_eq_false c4;clear c4;obtain rfl:=Option.some.inj H;go_wp2;repeat (go_quiet (fail);try go_wp2)
    go_ret;exact ⟨by first | rfl | (simp [e0_,e1_] <;> rfl) | (simp [*,e0_,e1_] <;> rfl),bm HB⟩

/-! ### impl_Cell_99: function 99 -/
def impl_Cell_99.f (k:Nat) (l0:List (S42)) (a1_0:Int) (a1_1:Int):Option (Bool):=(impl_Cell_184.f k l0 a1_0 a1_1).bind fun t430=>(some (decide (t430 ≥ 0)))
theorem impl_Cell_99.calls (k:Nat) (A0:Option Addr) (c0:Nat) (l0:List (S42)) (a1_0:Int) (a1_1:Int) (r:Bool) (w:World) (hr0:Kd.C k42 w A0 l0.length l0) (hc0:l0.length ≤ c0) (h:impl_Cell_99.f k l0 a1_0 a1_1 = some r) :
    Calls Try.prog 99 #[.slice A0 l0.length c0,.agg #[.int .i64 a1_0,.int .i64 a1_1]] w fun e w'=>e = .returned (.bool r)∧Below w.heap.size w w':=by
 have S:=St.init (w:=w) (dc k42_heap at42 hr0 hc0 dn)
 clear hr0 hc0
 have F:=S.fc
 have H:=h;clear h;unfold impl_Cell_99.f at H
 replace H:=Option.bind_eq_some_iff.mp H;obtain ⟨t430,A3,H⟩:=H;(try dsimp only at H)
 obtain rfl:=Option.some.inj H
 go_enter Try.func99,Try.ntmps99
 go_wp2_with (first | ((with_reducible refine gd 3 rfl (L ?_));refine bo 3 (.agg #[_,_]) S ?_;clear S F;intro gb429 W S;have F:=S.fc) | ((with_reducible refine gate_callee (f:=184) rfl (L ?_));refine cl (some 7) Try.func184 (impl_Cell_184.calls _ _ _ _ _ _ _ _ S.c S.n A3) (hargs:=by (simp only [ma_,mb_,mc_,F] <;> rfl)) (h:=?_);rintro e W ⟨rfl,hb⟩;refine ⟨_,rfl,?_⟩;replace S:=S.go hb;clear F hb;have F:=S.fc))
 go_ret
 exact ⟨(by first | rfl | (simp [e0_,e1_] <;> rfl) | (simp [*,e0_,e1_] <;> rfl)),S.below⟩

/-! ### impl_IsCell: function 126 -/
def impl_IsCell.f (a0_0:Int) (a0_1:Int):Option (Bool):=if a0_0 < 0 then (some false) else (if a0_0 > 7 then (some false) else (if a0_1 < 0 then (some false) else (if a0_1 > 1 then (some false) else (if a0_1 = 0 then (some true) else (if a0_0 = 3 then (some true) else (some (a0_0 == 6)))))))
theorem impl_IsCell.calls (a0_0:Int) (a0_1:Int) (r:Bool) (w:World) (h:impl_IsCell.f a0_0 a0_1 = some r) :
    Calls Try.prog 126 #[.agg #[.int .i64 a0_0,.int .i64 a0_1]] w fun e w'=>e = .returned (.bool r)∧Below w.heap.size w w':=by
 have S:=St.init (w:=w) dn
 have F:=S.fc
 have H:=h;clear h;unfold impl_IsCell.f at H
 replace H:=sp_ H;rcases H with ⟨c2,H⟩ | ⟨c2,H⟩
 · skip
   obtain rfl:=Option.some.inj H
   go_enter Try.func126,Try.ntmps126
   go_wp2_with ((with_reducible refine gd 1 rfl (L ?_));refine bo 1 (.agg #[_,_]) S ?_;clear S F;intro gb431 W S;have F:=S.fc)
   go_ret
   exact ⟨(by first | rfl | (simp [e0_,e1_] <;> rfl) | (simp [*,e0_,e1_] <;> rfl)),S.below⟩
 · skip
   replace H:=sp_ H;rcases H with ⟨c5,H⟩ | ⟨c5,H⟩
   · skip
     obtain rfl:=Option.some.inj H
     go_enter Try.func126,Try.ntmps126
     go_wp2_with ((with_reducible refine gd 1 rfl (L ?_));refine bo 1 (.agg #[_,_]) S ?_;clear S F;intro gb431 W S;have F:=S.fc)
     go_ret
     exact ⟨(by first | rfl | (simp [e0_,e1_] <;> rfl) | (simp [*,e0_,e1_] <;> rfl)),S.below⟩
   · skip
     replace H:=sp_ H;rcases H with ⟨c8,H⟩ | ⟨c8,H⟩
     · skip
       obtain rfl:=Option.some.inj H
       go_enter Try.func126,Try.ntmps126
       go_wp2_with ((with_reducible refine gd 1 rfl (L ?_));refine bo 1 (.agg #[_,_]) S ?_;clear S F;intro gb431 W S;have F:=S.fc)
       go_ret
       exact ⟨(by first | rfl | (simp [e0_,e1_] <;> rfl) | (simp [*,e0_,e1_] <;> rfl)),S.below⟩
     · skip
       replace H:=sp_ H;rcases H with ⟨c11,H⟩ | ⟨c11,H⟩
       · skip
         obtain rfl:=Option.some.inj H
         go_enter Try.func126,Try.ntmps126
         go_wp2_with ((with_reducible refine gd 1 rfl (L ?_));refine bo 1 (.agg #[_,_]) S ?_;clear S F;intro gb431 W S;have F:=S.fc)
         go_ret
         exact ⟨(by first | rfl | (simp [e0_,e1_] <;> rfl) | (simp [*,e0_,e1_] <;> rfl)),S.below⟩
       · skip
         replace H:=sp_ H;rcases H with ⟨c14,H⟩ | ⟨c14,H⟩
         · skip
           replace c14:=ceq c14
           obtain rfl:=Option.some.inj H
           go_enter Try.func126,Try.ntmps126
           go_wp2_with ((with_reducible refine gd 1 rfl (L ?_));refine bo 1 (.agg #[_,_]) S ?_;clear S F;intro gb431 W S;have F:=S.fc)
           go_ret
           exact ⟨(by first | rfl | (simp [e0_,e1_] <;> rfl) | (simp [*,e0_,e1_] <;> rfl)),S.below⟩
         · skip
           replace c14:=cne c14
           replace H:=sp_ H;rcases H with ⟨c17,H⟩ | ⟨c17,H⟩
           · skip
             replace c17:=ceq c17
             obtain rfl:=Option.some.inj H
             go_enter Try.func126,Try.ntmps126
             go_wp2_with ((with_reducible refine gd 1 rfl (L ?_));refine bo 1 (.agg #[_,_]) S ?_;clear S F;intro gb431 W S;have F:=S.fc)
             go_ret
             exact ⟨(by first | rfl | (simp [e0_,e1_] <;> rfl) | (simp [*,e0_,e1_] <;> rfl)),S.below⟩
           · skip
             replace c17:=cne c17
             obtain rfl:=Option.some.inj H
             go_enter Try.func126,Try.ntmps126
             go_wp2_with ((with_reducible refine gd 1 rfl (L ?_));refine bo 1 (.agg #[_,_]) S ?_;clear S F;intro gb431 W S;have F:=S.fc)
             go_ret
             exact ⟨(by first | rfl | (simp [e0_,e1_] <;> rfl) | (simp [*,e0_,e1_] <;> rfl)),S.below⟩

/-! ### impl_IsChallenge: function 37 -/
mutual
def impl_IsChallenge.j0:Nat→Bool→Int→Int→List (S42)→List Int→List Int→Option (Bool)
  | 0,_,_,_,_,_,_=>none
  | k + 1,x59,x433000,x433001,x433002,x433003,x433004=>if x59 = true then (some false) else (impl_IsChallenge.l0 k x433002 (x433002.length:Int) 0 x433000 x433001 x433002 x433003 x433004)
def impl_IsChallenge.l0:Nat→List (S42)→Int→Int→Int→Int→List (S42)→List Int→List Int→Option (Bool)
  | 0,_,_,_,_,_,_,_,_=>none
  | k + 1,x61,x62,x63,x433000,x433001,x433002,x433003,x433004=>if x63 < x62 then (if 0 ≤ x63 then (if x63 < (x61.length:Int) then ((impl_IsCell.f ((rd_T42 x61 x63).f0) ((rd_T42 x61 x63).f1)).bind fun t435=>(if t435 = true then (if ((rd_T42 x61 x63).f0) = 0 then (some false) else (if x63 ≤ (x433002.length:Int) then ((impl_Cell_99.f k (x433002.take (x63:Int).toNat) ((rd_T42 x61 x63).f0) ((rd_T42 x61 x63).f1)).bind fun t440=>(if t440 = true then (some false) else (impl_IsChallenge.l0 k x61 x62 (wrap64 (x63 + 1)) x433000 x433001 x433002 x433003 x433004))) else (none))) else (some false))) else (none)) else (none)) else (impl_IsChallenge.l1 k x433003 (x433003.length:Int) 0 x433000 x433001 x433002 x433003 x433004)
def impl_IsChallenge.l1:Nat→List Int→Int→Int→Int→Int→List (S42)→List Int→List Int→Option (Bool)
  | 0,_,_,_,_,_,_,_,_=>none
  | k + 1,x86,x87,x88,x433000,x433001,x433002,x433003,x433004=>if x88 < x87 then (if 0 ≤ x88 then (if x88 < (x86.length:Int) then (if (rd x86 x88) < 0 then (some false) else (if (rd x86 x88) ≥ x433001 then (some false) else (if x88 < (x433004.length:Int) then (if (rd x433004 x88) < 0 then (some false) else (if (rd x433004 x88) > (wrap64 (x433001 + 1)) then (some false) else (impl_IsChallenge.l1 k x86 x87 (wrap64 (x88 + 1)) x433000 x433001 x433002 x433003 x433004))) else (none)))) else (none)) else (none)) else (impl_IsChallenge.l2 k 1 0 x433000 x433001 x433002 x433003 x433004)
def impl_IsChallenge.l2:Nat→Int→Int→Int→Int→List (S42)→List Int→List Int→Option (Bool)
  | 0,_,_,_,_,_,_,_=>none
  | k + 1,x7,x8,x433000,x433001,x433002,x433003,x433004=>if x8 < (wrap64 (x433000 * x433001)) then (if (wrap64 (x7 * (wrap64 ((x433002.length:Int) + 1)))) > 7000 then (some false) else (impl_IsChallenge.l2 k (wrap64 (x7 * (wrap64 ((x433002.length:Int) + 1)))) (wrap64 (x8 + 1)) x433000 x433001 x433002 x433003 x433004)) else (some true)
end
def impl_IsChallenge.f (k:Nat) (a0_0:Int) (a0_1:Int) (l0_2:List (S42)) (l0_3:List Int) (l0_4:List Int):Option (Bool):=if a0_0 < 1 then (impl_IsChallenge.j0 k true a0_0 a0_1 l0_2 l0_3 l0_4) else (if a0_0 > 4 then (impl_IsChallenge.j0 k true a0_0 a0_1 l0_2 l0_3 l0_4) else (if a0_1 < 1 then (impl_IsChallenge.j0 k true a0_0 a0_1 l0_2 l0_3 l0_4) else (if a0_1 > 4 then (impl_IsChallenge.j0 k true a0_0 a0_1 l0_2 l0_3 l0_4) else (if (l0_2.length:Int) < 1 then (impl_IsChallenge.j0 k true a0_0 a0_1 l0_2 l0_3 l0_4) else (if (l0_2.length:Int) > 6 then (impl_IsChallenge.j0 k true a0_0 a0_1 l0_2 l0_3 l0_4) else (if (l0_3.length:Int) < 1 then (impl_IsChallenge.j0 k true a0_0 a0_1 l0_2 l0_3 l0_4) else (if (l0_3.length:Int) > 8 then (impl_IsChallenge.j0 k true a0_0 a0_1 l0_2 l0_3 l0_4) else (impl_IsChallenge.j0 k ((l0_4.length:Int) != (l0_3.length:Int)) a0_0 a0_1 l0_2 l0_3 l0_4))))))))
theorem impl_IsChallenge.calls (k:Nat) (a0_0:Int) (a0_1:Int) (A0_2:Option Addr) (c0_2:Nat) (l0_2:List (S42)) (A0_3:Option Addr) (c0_3:Nat) (l0_3:List Int) (A0_4:Option Addr) (c0_4:Nat) (l0_4:List Int) (r:Bool) (w:World) (hr0_2:Kd.C k42 w A0_2 l0_2.length l0_2) (hc0_2:l0_2.length ≤ c0_2) (hr0_3:Kd.C (Kd.int .i64) w A0_3 l0_3.length l0_3) (hc0_3:l0_3.length ≤ c0_3) (hr0_4:Kd.C (Kd.int .i64) w A0_4 l0_4.length l0_4) (hc0_4:l0_4.length ≤ c0_4) (h:impl_IsChallenge.f k a0_0 a0_1 l0_2 l0_3 l0_4 = some r) :
    Calls Try.prog 37 #[.agg #[.int .i64 a0_0,.int .i64 a0_1,.slice A0_2 l0_2.length c0_2,.slice A0_3 l0_3.length c0_3,.slice A0_4 l0_4.length c0_4]] w fun e w'=>e = .returned (.bool r)∧Below w.heap.size w w':=by
 have S:=St.init (w:=w) (dc k42_heap at42 hr0_2 hc0_2 (dc (Kd.heap_int .i64) (atI .i64) hr0_3 hc0_3 (dc (Kd.heap_int .i64) (atI .i64) hr0_4 hc0_4 dn)))
 clear hr0_2 hc0_2 hr0_3 hc0_3 hr0_4 hc0_4
 have F:=S.fc
 have H:=h;clear h;unfold impl_IsChallenge.f at H
 go_enter Try.func37,Try.ntmps37
 go_upto_region 1 with ((with_reducible refine gd 1 rfl (L ?_));refine bo 1 (.agg #[_,_,_,_,_]) S ?_;clear S F;intro gb432 W S;have F:=S.fc)
 (try simp only [Act.put,List.setIfInBounds_toArray,List.set_cons_zero,List.set_cons_succ])
 go_cut [59] (fun v59 wc=>∃ (kq:Nat) (x59_1:Bool),v59 = .bool x59_1∧impl_IsChallenge.j0 kq x59_1 a0_0 a0_1 l0_2 l0_3 l0_4 = some r∧kq ≤ k∧St w w (fun _=>False) [bor at42 A0_2 c0_2 l0_2,bor (atI .i64) A0_3 c0_3 l0_3,bor (atI .i64) A0_4 c0_4 l0_4] wc  [box gb432 27 [.int .i64 a0_0,.int .i64 a0_1,.slice A0_2 l0_2.length c0_2,.slice A0_3 l0_3.length c0_3,.slice A0_4 l0_4.length c0_4]])
 case first =>
  replace H:=sp_ H;rcases H with ⟨c4,H⟩ | ⟨c4,H⟩
  · skip
    go_wp2
    go_meet
    case rel=>exact ⟨_,true,(by first | rfl | (simp;done) | (simp [*];done) | (rw [w6_ (by omega) (by omega)])),H,(by first | omega | exact Nat.le_refl _),S⟩
  · skip
    replace H:=sp_ H;rcases H with ⟨c6,H⟩ | ⟨c6,H⟩
    · skip
      go_wp2
      go_meet
      case rel=>exact ⟨_,true,(by first | rfl | (simp;done) | (simp [*];done) | (rw [w6_ (by omega) (by omega)])),H,(by first | omega | exact Nat.le_refl _),S⟩
    · skip
      replace H:=sp_ H;rcases H with ⟨c8,H⟩ | ⟨c8,H⟩
      · skip
        go_wp2
        go_meet
        case rel=>exact ⟨_,true,(by first | rfl | (simp;done) | (simp [*];done) | (rw [w6_ (by omega) (by omega)])),H,(by first | omega | exact Nat.le_refl _),S⟩
      · skip
        replace H:=sp_ H;rcases H with ⟨c10,H⟩ | ⟨c10,H⟩
        · skip
          go_wp2
          go_meet
          case rel=>exact ⟨_,true,(by first | rfl | (simp;done) | (simp [*];done) | (rw [w6_ (by omega) (by omega)])),H,(by first | omega | exact Nat.le_refl _),S⟩
        · skip
          replace H:=sp_ H;rcases H with ⟨c12,H⟩ | ⟨c12,H⟩
          · skip
            go_wp2
            go_meet
            case rel=>exact ⟨_,true,(by first | rfl | (simp;done) | (simp [*];done) | (rw [w6_ (by omega) (by omega)])),H,(by first | omega | exact Nat.le_refl _),S⟩
          · skip
            replace H:=sp_ H;rcases H with ⟨c14,H⟩ | ⟨c14,H⟩
            · skip
              go_wp2
              go_meet
              case rel=>exact ⟨_,true,(by first | rfl | (simp;done) | (simp [*];done) | (rw [w6_ (by omega) (by omega)])),H,(by first | omega | exact Nat.le_refl _),S⟩
            · skip
              replace H:=sp_ H;rcases H with ⟨c16,H⟩ | ⟨c16,H⟩
              · skip
                go_wp2
                go_meet
                case rel=>exact ⟨_,true,(by first | rfl | (simp;done) | (simp [*];done) | (rw [w6_ (by omega) (by omega)])),H,(by first | omega | exact Nat.le_refl _),S⟩
              · skip
                replace H:=sp_ H;rcases H with ⟨c18,H⟩ | ⟨c18,H⟩
                · skip
                  go_wp2
                  go_meet
                  case rel=>exact ⟨_,true,(by first | rfl | (simp;done) | (simp [*];done) | (rw [w6_ (by omega) (by omega)])),H,(by first | omega | exact Nat.le_refl _),S⟩
                · skip
                  go_wp2
                  go_meet
                  case rel=>exact ⟨_,((l0_4.length:Int) != (l0_3.length:Int)),(by first | rfl | (simp;done) | (simp [*];done) | (rw [w6_ (by omega) (by omega)])),H,(by first | omega | exact Nat.le_refl _),S⟩
 case rest =>
  clear H S F
  obtain ⟨kq,x59_1,rfl,HA,HJ1,S⟩:=hcut
  have F:=S.fc
  cases kq with
  | zero=>exact absurd HA (by simp [impl_IsChallenge.j0])
  | succ kj1 =>
   have H:=HA;clear HA;simp only [impl_IsChallenge.j0,F] at H
   replace H:=sp_ H;rcases H with ⟨c21,H⟩ | ⟨c21,H⟩
   · skip
     subst c21
     obtain rfl:=Option.some.inj H
     go_wp2
     go_ret
     exact ⟨(by first | rfl | (simp [e0_,e1_] <;> rfl) | (simp [*,e0_,e1_] <;> rfl)),S.below⟩
   · skip
     replace c21:=cbf c21;subst c21
     go_wp2
     go_loopg [63] kj1 (fun kq v63 w'=>∃ (x63_2:Int),v63 = .int .i64 x63_2∧impl_IsChallenge.l0 kq l0_2 (l0_2.length:Int) x63_2 a0_0 a0_1 l0_2 l0_3 l0_4 = some r∧kq ≤ kj1∧St w w (fun _=>False) [bor at42 A0_2 c0_2 l0_2,bor (atI .i64) A0_3 c0_3 l0_3,bor (atI .i64) A0_4 c0_4 l0_4] w'  [box gb432 27 [.int .i64 a0_0,.int .i64 a0_1,.slice A0_2 l0_2.length c0_2,.slice A0_3 l0_3.length c0_3,.slice A0_4 l0_4.length c0_4]])
     case atStart=>exact ⟨0,(by first | rfl | (simp;done) | (simp [*];done) | (rw [w6_ (by omega) (by omega)])),H,Nat.le_refl _,S⟩
     case round =>
      clear H S F
      obtain ⟨x63_2,rfl,HA,HK2,S⟩:=hrel
      have F:=S.fc
      cases gk with
      | zero=>exact absurd HA (by simp [impl_IsChallenge.l0])
      | succ k2 =>
       have H:=HA;clear HA;simp only [impl_IsChallenge.l0,F] at H
       replace H:=sp_ H;rcases H with ⟨c23,H⟩ | ⟨c23,H⟩
       · skip
         replace H:=np_ H;obtain ⟨c24,H⟩:=H
         replace H:=np_ H;obtain ⟨c25,H⟩:=H
         replace H:=Option.bind_eq_some_iff.mp H;obtain ⟨t435,A26,H⟩:=H;(try dsimp only at H)
         replace H:=sp_ H;rcases H with ⟨c27,H⟩ | ⟨c27,H⟩
         · skip
           subst c27
           replace H:=sp_ H;rcases H with ⟨c28,H⟩ | ⟨c28,H⟩
           · skip
             replace c28:=ceq c28
             obtain rfl:=Option.some.inj H
             go_wp2_with (first | ((with_reducible refine gd 4 rfl (L ?_));refine al 4 S zi42 ?_;clear S F;intro gb434 W S;have F:=S.fc) | ((with_reducible refine gs (t:=42) rfl (L ?_));refine sb (.agg #[_,_]) S sz42 ?_;(clear S F;intro W S;have F:=S.fc)))
             refine rq S [(1,0),(2,1),(0,2),(0,3),(0,4),(2,5),(0,6),(0,7),(0,8),(0,9),(0,10),(0,11),(0,12),(0,13),(0,14),(0,15)] [] (h:=?_);clear S F;intro W S;have S0:=S;have F:=S.fc
             repeat ((refine q1 S0 (h:=?_)))
             (try rw [Ny436.out] at A26);refine lk2 (by rfl) (by exact (Eq.refl true)) ?_;refine cl (some 69) Try.func126 (impl_IsCell.calls _ _ _ _ A26) (hargs:=by first | (simp only [ma_,mb_,mc_,F] <;> rfl) | (simp only [ma_,mb_,mc_,F,List.length_take,List.length_drop];rw [Nat.min_eq_left] <;> first | rfl | omega)) (h:=?_);rintro e W ⟨rfl,hb⟩;refine ⟨_,rfl,?_⟩;replace S:=S.go hb;clear F hb;have F:=S.fc
             clear S0;have S0:=S;refine ⟨S0,?_⟩
             repeat (first | (refine q0 (h:=?_)) | (refine q0n (h:=?_)) | (refine q1n S0 (h:=?_)) | (refine q2 S0 (h:=?_)))
             refine oz ?_
             try clear S0
             go_wp2
             go_ret
             exact ⟨(by first | rfl | (simp [e0_,e1_] <;> rfl) | (simp [*,e0_,e1_] <;> rfl)),S.below⟩
           · skip
             replace c28:=cne c28
             replace H:=np_ H;obtain ⟨c36,H⟩:=H
             (first | (with_reducible replace H:=ob_ H;obtain ⟨y436,hy436,H⟩:=H;(try dsimp only at H)) | (obtain ⟨y436,hy436⟩:∃ y_:List (S42),y_ = (l0_2.take (x63_2:Int).toNat):=⟨_,rfl⟩;(try rw [← hy436] at H);(try simp only [Option.bind_some] at H)));have Ny436:=Aside0.mk hy436;clear hy436
             replace H:=Option.bind_eq_some_iff.mp H;obtain ⟨t440,A37,H⟩:=H;(try dsimp only at H)
             replace H:=sp_ H;rcases H with ⟨c38,H⟩ | ⟨c38,H⟩
             · skip
               subst c38
               obtain rfl:=Option.some.inj H
               go_wp2_with (first | ((with_reducible refine gd 4 rfl (L ?_));refine al 4 S zi42 ?_;clear S F;intro gb434 W S;have F:=S.fc) | ((with_reducible refine gs (t:=42) rfl (L ?_));refine sb (.agg #[_,_]) S sz42 ?_;clear S F;intro W S;(try rw [← Ny436.out] at S);have F:=S.fc))
               refine rq S [(1,0),(2,1),(0,2),(0,3),(0,4),(2,5),(0,6),(0,7),(0,8),(0,9),(0,11),(1,10),(0,12),(2,13),(2,14),(0,15)] [] (h:=?_);clear S F;intro W S;have S0:=S;have F:=S.fc
               repeat ((refine q1 S0 (h:=?_)))
               (try rw [Ny436.out] at A26);refine lk2 (by rfl) (by exact (Eq.refl true)) ?_;refine cl (some 69) Try.func126 (impl_IsCell.calls _ _ _ _ A26) (hargs:=by first | (simp only [ma_,mb_,mc_,F] <;> rfl) | (simp only [ma_,mb_,mc_,F,List.length_take,List.length_drop];rw [Nat.min_eq_left] <;> first | rfl | omega)) (h:=?_);rintro e W ⟨rfl,hb⟩;refine ⟨_,rfl,?_⟩;replace S:=S.go hb;clear F hb;have F:=S.fc
               clear S0;have S0:=S;refine ⟨S0,?_⟩
               repeat (first | (refine q0 (h:=?_)) | (refine q1 S0 (h:=?_)) | (refine q2 S0 (h:=?_)))
               (try rw [Ny436.out] at A37);refine lk2 (by rfl) (by exact (Eq.refl true)) ?_;refine cl (some 82) Try.func99 (impl_Cell_99.calls _ _ _ _ _ _ _ _ S.c S.n A37) (hargs:=by first | (simp only [ma_,mb_,mc_,F] <;> rfl) | (simp only [ma_,mb_,mc_,F,List.length_take,List.length_drop];rw [Nat.min_eq_left] <;> first | rfl | omega)) (h:=?_);rintro e W ⟨rfl,hb⟩;refine ⟨_,rfl,?_⟩;replace S:=S.go hb;clear F hb;have F:=S.fc
               clear S0;have S0:=S;refine ⟨S0,?_⟩
               repeat ((refine q0 (h:=?_)))
               refine oz ?_
               try clear S0
               go_wp2
               go_ret
               exact ⟨(by first | rfl | (simp [e0_,e1_] <;> rfl) | (simp [*,e0_,e1_] <;> rfl)),S.below⟩
             · skip
               replace c38:=cbf c38;subst c38
               go_wp2_with (first | ((with_reducible refine gd 4 rfl (L ?_));refine al 4 S zi42 ?_;clear S F;intro gb434 W S;have F:=S.fc) | ((with_reducible refine gs (t:=42) rfl (L ?_));refine sb (.agg #[_,_]) S sz42 ?_;clear S F;intro W S;(try rw [← Ny436.out] at S);have F:=S.fc))
               refine rq S [(1,0),(2,1),(0,2),(0,3),(0,4),(2,5),(0,6),(0,7),(0,8),(0,9),(0,11),(1,10),(0,12),(2,13),(2,14),(0,15)] [] (h:=?_);clear S F;intro W S;have S0:=S;have F:=S.fc
               repeat ((refine q1 S0 (h:=?_)))
               (try rw [Ny436.out] at A26);refine lk2 (by rfl) (by exact (Eq.refl true)) ?_;refine cl (some 69) Try.func126 (impl_IsCell.calls _ _ _ _ A26) (hargs:=by first | (simp only [ma_,mb_,mc_,F] <;> rfl) | (simp only [ma_,mb_,mc_,F,List.length_take,List.length_drop];rw [Nat.min_eq_left] <;> first | rfl | omega)) (h:=?_);rintro e W ⟨rfl,hb⟩;refine ⟨_,rfl,?_⟩;replace S:=S.go hb;clear F hb;have F:=S.fc
               clear S0;have S0:=S;refine ⟨S0,?_⟩
               repeat (first | (refine q0 (h:=?_)) | (refine q1 S0 (h:=?_)) | (refine q2 S0 (h:=?_)))
               (try rw [Ny436.out] at A37);refine lk2 (by rfl) (by exact (Eq.refl true)) ?_;refine cl (some 82) Try.func99 (impl_Cell_99.calls _ _ _ _ _ _ _ _ S.c S.n A37) (hargs:=by first | (simp only [ma_,mb_,mc_,F] <;> rfl) | (simp only [ma_,mb_,mc_,F,List.length_take,List.length_drop];rw [Nat.min_eq_left] <;> first | rfl | omega)) (h:=?_);rintro e W ⟨rfl,hb⟩;refine ⟨_,rfl,?_⟩;replace S:=S.go hb;clear F hb;have F:=S.fc
               clear S0;have S0:=S;refine ⟨S0,?_⟩
               repeat ((refine q0 (h:=?_)))
               refine oz ?_
               try clear S0
               go_wp2
               go_roundg k2
               case measure=>omega
               case rel=>exact ⟨(wrap64 (x63_2 + 1)),(by first | rfl | (simp;done) | (simp [*];done) | (rw [w6_ (by omega) (by omega)])),H,(by first | omega | exact Nat.le_refl _),S.tl⟩
         · skip
           replace c27:=cbf c27;subst c27
           obtain rfl:=Option.some.inj H
           go_wp2_with (first | ((with_reducible refine gd 4 rfl (L ?_));refine al 4 S zi42 ?_;clear S F;intro gb434 W S;have F:=S.fc) | ((with_reducible refine gs (t:=42) rfl (L ?_));refine sb (.agg #[_,_]) S sz42 ?_;(clear S F;intro W S;have F:=S.fc)))
           refine rq S [(1,0),(2,1),(0,2),(0,3),(0,4),(0,5),(0,6),(0,7),(0,8),(0,9),(0,10),(0,11),(0,12),(0,13),(0,14),(0,15)] [] (h:=?_);clear S F;intro W S;have S0:=S;have F:=S.fc
           repeat ((refine q1 S0 (h:=?_)))
           (try rw [Ny436.out] at A26);refine lk2 (by rfl) (by exact (Eq.refl true)) ?_;refine cl (some 69) Try.func126 (impl_IsCell.calls _ _ _ _ A26) (hargs:=by first | (simp only [ma_,mb_,mc_,F] <;> rfl) | (simp only [ma_,mb_,mc_,F,List.length_take,List.length_drop];rw [Nat.min_eq_left] <;> first | rfl | omega)) (h:=?_);rintro e W ⟨rfl,hb⟩;refine ⟨_,rfl,?_⟩;replace S:=S.go hb;clear F hb;have F:=S.fc
           clear S0;have S0:=S;refine ⟨S0,?_⟩
           repeat (first | (refine q0 (h:=?_)) | (refine q0n (h:=?_)) | (refine q1n S0 (h:=?_)))
           refine oz ?_
           try clear S0
           go_wp2
           go_ret
           exact ⟨(by first | rfl | (simp [e0_,e1_] <;> rfl) | (simp [*,e0_,e1_] <;> rfl)),S.below⟩
       · skip
         go_wp2
         go_loopg [88] k2 (fun kq v88 w'=>∃ (x88_3:Int),v88 = .int .i64 x88_3∧impl_IsChallenge.l1 kq l0_3 (l0_3.length:Int) x88_3 a0_0 a0_1 l0_2 l0_3 l0_4 = some r∧kq ≤ k2∧St w w (fun _=>False) [bor at42 A0_2 c0_2 l0_2,bor (atI .i64) A0_3 c0_3 l0_3,bor (atI .i64) A0_4 c0_4 l0_4] w'  [box gb432 27 [.int .i64 a0_0,.int .i64 a0_1,.slice A0_2 l0_2.length c0_2,.slice A0_3 l0_3.length c0_3,.slice A0_4 l0_4.length c0_4]])
         case atStart=>exact ⟨0,(by first | rfl | (simp;done) | (simp [*];done) | (rw [w6_ (by omega) (by omega)])),H,Nat.le_refl _,S⟩
         case round =>
          clear H S F
          obtain ⟨x88_3,rfl,HA,HK3,S⟩:=hrel
          have F:=S.fc
          cases gk with
          | zero=>exact absurd HA (by simp [impl_IsChallenge.l1])
          | succ k3 =>
           have H:=HA;clear HA;simp only [impl_IsChallenge.l1,F] at H
           replace H:=sp_ H;rcases H with ⟨c62,H⟩ | ⟨c62,H⟩
           · skip
             replace H:=np_ H;obtain ⟨c63,H⟩:=H
             replace H:=np_ H;obtain ⟨c64,H⟩:=H
             replace H:=sp_ H;rcases H with ⟨c65,H⟩ | ⟨c65,H⟩
             · skip
               obtain rfl:=Option.some.inj H
               go_wp2
               (try have q65_:=Int.not_lt.mpr c65);(try have r65_:=Int.not_le.mpr c65);(try have q62_:=Int.not_lt.mpr c62);(try have r62_:=Int.not_le.mpr c62)
               refine rq S [(0,0),(0,1),(0,2),(0,3),(0,4),(0,5),(0,6),(0,7),(0,8),(0,9),(0,10),(0,11),(0,12),(0,13),(0,14),(0,15),(0,16),(0,17),(0,18),(0,19),(0,20),(0,21),(0,22),(0,23),(0,24),(0,25),(0,26)] [] (h:=?_);clear S F;intro W S;have S0:=S;have F:=S.fc
               repeat (first | (refine q0 (h:=?_)) | (refine q0n (h:=?_)) | (refine q1n S0 (h:=?_)))
               refine oz ?_
               try clear S0
               go_wp2
               go_ret
               exact ⟨(by first | rfl | (simp [e0_,e1_] <;> rfl) | (simp [*,e0_,e1_] <;> rfl)),S.below⟩
             · skip
               replace H:=sp_ H;rcases H with ⟨c67,H⟩ | ⟨c67,H⟩
               · skip
                 obtain rfl:=Option.some.inj H
                 go_wp2
                 (try have q67_:=Int.not_lt.mpr c67);(try have r67_:=Int.not_le.mpr c67);(try have q65_:=Int.not_lt.mpr c65);(try have r65_:=Int.not_le.mpr c65);(try have q62_:=Int.not_lt.mpr c62);(try have r62_:=Int.not_le.mpr c62)
                 refine rq S [(0,0),(0,1),(0,2),(0,3),(0,4),(1,5),(0,6),(0,7),(0,8),(0,9),(0,10),(0,11),(0,12),(0,13),(0,14),(0,15),(0,16),(0,17),(0,18),(0,19),(0,20),(0,21),(0,22),(0,23),(0,24),(0,25),(0,26)] [] (h:=?_);clear S F;intro W S;have S0:=S;have F:=S.fc
                 repeat (first | (refine q0 (h:=?_)) | (refine q1 S0 (h:=?_)) | (refine q0n (h:=?_)) | (refine q1n S0 (h:=?_)))
                 refine oz ?_
                 try clear S0
                 go_wp2
                 go_ret
                 exact ⟨(by first | rfl | (simp [e0_,e1_] <;> rfl) | (simp [*,e0_,e1_] <;> rfl)),S.below⟩
               · skip
                 replace H:=np_ H;obtain ⟨c69,H⟩:=H
                 replace H:=sp_ H;rcases H with ⟨c70,H⟩ | ⟨c70,H⟩
                 · skip
                   obtain rfl:=Option.some.inj H
                   go_wp2
                   (try have q70_:=Int.not_lt.mpr c70);(try have r70_:=Int.not_le.mpr c70);(try have q67_:=Int.not_lt.mpr c67);(try have r67_:=Int.not_le.mpr c67);(try have q65_:=Int.not_lt.mpr c65);(try have r65_:=Int.not_le.mpr c65);(try have q62_:=Int.not_lt.mpr c62);(try have r62_:=Int.not_le.mpr c62)
                   refine rq S [(0,0),(0,1),(0,2),(0,3),(0,4),(1,5),(0,6),(0,7),(0,8),(0,9),(0,11),(1,10),(0,12),(1,13),(0,14),(0,15),(0,16),(0,17),(0,18),(0,19),(0,20),(0,21),(0,22),(0,23),(0,24),(0,25),(0,26)] [] (h:=?_);clear S F;intro W S;have S0:=S;have F:=S.fc
                   repeat (first | (refine q0 (h:=?_)) | (refine q1 S0 (h:=?_)) | (refine q0n (h:=?_)) | (refine q1n S0 (h:=?_)))
                   refine oz ?_
                   try clear S0
                   go_wp2
                   go_ret
                   exact ⟨(by first | rfl | (simp [e0_,e1_] <;> rfl) | (simp [*,e0_,e1_] <;> rfl)),S.below⟩
                 · skip
                   replace H:=sp_ H;rcases H with ⟨c72,H⟩ | ⟨c72,H⟩
                   · skip
                     obtain rfl:=Option.some.inj H
                     go_wp2
                     (try have q72_:=Int.not_lt.mpr c72);(try have r72_:=Int.not_le.mpr c72);(try have q70_:=Int.not_lt.mpr c70);(try have r70_:=Int.not_le.mpr c70);(try have q67_:=Int.not_lt.mpr c67);(try have r67_:=Int.not_le.mpr c67);(try have q65_:=Int.not_lt.mpr c65);(try have r65_:=Int.not_le.mpr c65);(try have q62_:=Int.not_lt.mpr c62);(try have r62_:=Int.not_le.mpr c62)
                     refine rq S [(0,0),(0,1),(0,2),(0,3),(0,4),(1,5),(0,6),(0,7),(0,8),(0,9),(0,11),(1,10),(0,12),(1,13),(0,14),(0,15),(0,16),(0,17),(0,19),(0,22),(1,18),(0,20),(1,21),(1,23),(0,24),(0,25),(0,26)] [] (h:=?_);clear S F;intro W S;have S0:=S;have F:=S.fc
                     repeat (first | (refine q0 (h:=?_)) | (refine q1 S0 (h:=?_)))
                     refine oz ?_
                     try clear S0
                     go_wp2
                     go_ret
                     exact ⟨(by first | rfl | (simp [e0_,e1_] <;> rfl) | (simp [*,e0_,e1_] <;> rfl)),S.below⟩
                   · skip
                     go_wp2
                     (try have q72_:=Int.not_lt.mpr c72);(try have r72_:=Int.not_le.mpr c72);(try have q70_:=Int.not_lt.mpr c70);(try have r70_:=Int.not_le.mpr c70);(try have q67_:=Int.not_lt.mpr c67);(try have r67_:=Int.not_le.mpr c67);(try have q65_:=Int.not_lt.mpr c65);(try have r65_:=Int.not_le.mpr c65);(try have q62_:=Int.not_lt.mpr c62);(try have r62_:=Int.not_le.mpr c62)
                     refine rq S [(0,0),(0,1),(0,2),(0,3),(0,4),(1,5),(0,6),(0,7),(0,8),(0,9),(0,11),(1,10),(0,12),(1,13),(0,14),(0,15),(0,16),(0,17),(0,19),(0,22),(1,18),(0,20),(1,21),(1,23),(0,24),(0,25),(0,26)] [] (h:=?_);clear S F;intro W S;have S0:=S;have F:=S.fc
                     repeat (first | (refine q0 (h:=?_)) | (refine q1 S0 (h:=?_)))
                     refine oz ?_
                     try clear S0
                     go_wp2
                     go_roundg k3
                     case measure=>omega
                     case rel=>exact ⟨(wrap64 (x88_3 + 1)),(by first | rfl | (simp;done) | (simp [*];done) | (rw [w6_ (by omega) (by omega)])),H,(by first | omega | exact Nat.le_refl _),S⟩
           · skip
             go_wp2
             go_loopg [7,8] k3 (fun kq v7 v8 w'=>∃ (x7_4:Int) (x8_4:Int),v7 = .int .i64 x7_4∧v8 = .int .i64 x8_4∧impl_IsChallenge.l2 kq x7_4 x8_4 a0_0 a0_1 l0_2 l0_3 l0_4 = some r∧kq ≤ k3∧St w w (fun _=>False) [bor at42 A0_2 c0_2 l0_2,bor (atI .i64) A0_3 c0_3 l0_3,bor (atI .i64) A0_4 c0_4 l0_4] w'  [box gb432 27 [.int .i64 a0_0,.int .i64 a0_1,.slice A0_2 l0_2.length c0_2,.slice A0_3 l0_3.length c0_3,.slice A0_4 l0_4.length c0_4]])
             case atStart=>exact ⟨1,0,(by first | rfl | (simp;done) | (simp [*];done) | (rw [w6_ (by omega) (by omega)])),(by first | rfl | (simp;done) | (simp [*];done) | (rw [w6_ (by omega) (by omega)])),H,Nat.le_refl _,S⟩
             case round =>
              clear H S F
              obtain ⟨x7_4,x8_4,rfl,rfl,HA,HK4,S⟩:=hrel
              have F:=S.fc
              cases gk with
              | zero=>exact absurd HA (by simp [impl_IsChallenge.l2])
              | succ k4 =>
               have H:=HA;clear HA;simp only [impl_IsChallenge.l2,F] at H
               replace H:=sp_ H;rcases H with ⟨c75,H⟩ | ⟨c75,H⟩
               · skip
                 replace H:=sp_ H;rcases H with ⟨c76,H⟩ | ⟨c76,H⟩
                 · skip
                   obtain rfl:=Option.some.inj H
                   go_wp2
                   go_ret
                   exact ⟨(by first | rfl | (simp [e0_,e1_] <;> rfl) | (simp [*,e0_,e1_] <;> rfl)),S.below⟩
                 · skip
                   go_wp2
                   go_roundg k4
                   case measure=>omega
                   case rel=>exact ⟨(wrap64 (x7_4 * (wrap64 ((l0_2.length:Int) + 1)))),(wrap64 (x8_4 + 1)),(by first | rfl | (simp;done) | (simp [*];done) | (rw [w6_ (by omega) (by omega)])),(by first | rfl | (simp;done) | (simp [*];done) | (rw [w6_ (by omega) (by omega)])),H,(by first | omega | exact Nat.le_refl _),S⟩
               · skip
                 obtain rfl:=Option.some.inj H
                 go_wp2
                 go_ret
                 exact ⟨(by first | rfl | (simp [e0_,e1_] <;> rfl) | (simp [*,e0_,e1_] <;> rfl)),S.below⟩

/-! ### impl_endNumber: function 121 -/
def impl_endNumber.f (a0_0:Int) (a0_1:Int) (l0_2:List (S42)) (a1_0:Int) (a1_1:Int) (a1_2:Int):Option (Int):=if a1_0 = 1 then (some a1_2) else (if a1_0 = 2 then (some a0_1) else (some (wrap64 (a0_1 + 1))))
theorem impl_endNumber.calls (a0_0:Int) (a0_1:Int) (A0_2:Option Addr) (c0_2:Nat) (l0_2:List (S42)) (a1_0:Int) (a1_1:Int) (a1_2:Int) (r:Int) (w:World) (hr0_2:Kd.C k42 w A0_2 l0_2.length l0_2) (hc0_2:l0_2.length ≤ c0_2) (h:impl_endNumber.f a0_0 a0_1 l0_2 a1_0 a1_1 a1_2 = some r) :
    Calls Try.prog 121 #[.agg #[.int .i64 a0_0,.int .i64 a0_1,.slice A0_2 l0_2.length c0_2],.agg #[.int .i64 a1_0,.int .i64 a1_1,.int .i64 a1_2]] w fun e w'=>e = .returned (.int .i64 r)∧Below w.heap.size w w':=by
 have S:=St.init (w:=w) (dc k42_heap at42 hr0_2 hc0_2 dn)
 clear hr0_2 hc0_2
 have F:=S.fc
 have H:=h;clear h;unfold impl_endNumber.f at H
 replace H:=sp_ H;rcases H with ⟨c3,H⟩ | ⟨c3,H⟩
 · skip
   replace c3:=ceq c3
   obtain rfl:=Option.some.inj H
   go_enter Try.func121,Try.ntmps121
   go_wp2_with (first | ((with_reducible refine gd 2 rfl (L ?_));refine bo 2 (.agg #[_,_,_]) S ?_;clear S F;intro gb444 W S;have F:=S.fc) | ((with_reducible refine gd 3 rfl (L ?_));refine bo 3 (.agg #[_,_,_]) S ?_;clear S F;intro gb445 W S;have F:=S.fc))
   go_ret
   exact ⟨(by first | rfl | (simp [e0_,e1_] <;> rfl) | (simp [*,e0_,e1_] <;> rfl)),S.below⟩
 · skip
   replace c3:=cne c3
   replace H:=sp_ H;rcases H with ⟨c8,H⟩ | ⟨c8,H⟩
   · skip
     replace c8:=ceq c8
     obtain rfl:=Option.some.inj H
     go_enter Try.func121,Try.ntmps121
     go_wp2_with (first | ((with_reducible refine gd 2 rfl (L ?_));refine bo 2 (.agg #[_,_,_]) S ?_;clear S F;intro gb444 W S;have F:=S.fc) | ((with_reducible refine gd 3 rfl (L ?_));refine bo 3 (.agg #[_,_,_]) S ?_;clear S F;intro gb445 W S;have F:=S.fc))
     go_ret
     exact ⟨(by first | rfl | (simp [e0_,e1_] <;> rfl) | (simp [*,e0_,e1_] <;> rfl)),S.below⟩
   · skip
     replace c8:=cne c8
     obtain rfl:=Option.some.inj H
     go_enter Try.func121,Try.ntmps121
     go_wp2_with (first | ((with_reducible refine gd 2 rfl (L ?_));refine bo 2 (.agg #[_,_,_]) S ?_;clear S F;intro gb444 W S;have F:=S.fc) | ((with_reducible refine gd 3 rfl (L ?_));refine bo 3 (.agg #[_,_,_]) S ?_;clear S F;intro gb445 W S;have F:=S.fc))
     go_ret
     exact ⟨(by first | rfl | (simp [e0_,e1_] <;> rfl) | (simp [*,e0_,e1_] <;> rfl)),S.below⟩
end Go.Proofs.Ytnmffpfiichjgaa.F
