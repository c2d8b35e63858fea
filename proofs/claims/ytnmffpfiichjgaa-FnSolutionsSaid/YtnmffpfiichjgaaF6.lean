-- Printed by a program; checked here.
import Derived.Test.YtnmffpfiichjgaaF0
import Derived.Test.YtnmffpfiichjgaaF1
import Derived.Test.YtnmffpfiichjgaaF2
import Derived.Test.YtnmffpfiichjgaaF4
import Derived.Test.YtnmffpfiichjgaaF5
namespace Go.Proofs.Ytnmffpfiichjgaa.F
open Go.RowKit Go.Proofs.YtnmffpfiichjgaaV.PrintWords Go.Proofs.YtnmffpfiichjgaaV.PrintLast Go.Proofs.YtnmffpfiichjgaaV.PrintMore Go.Proofs.YtnmffpfiichjgaaV.Sl Go.Proofs.YtnmffpfiichjgaaV.Rf
attribute [local go_sem] max2_int min2_int max_two min_two max_three min_three max_four min_four ia_opt it_opt
attribute [local go_sem] Try.underlying4 Try.underlying23 Try.underlying24 Try.underlying25 Try.underlying27 Try.underlying30 Try.underlying42 Try.underlying68 Try.underlying80 Try.underlying111
set_option maxHeartbeats 8000000
set_option maxRecDepth 100000
set_option linter.unusedVariables false
set_option linter.unusedSimpArgs false

attribute [local go_sem high] eqA42
/-! ### spec_boParts: function 133 -/
def spec_boParts.l0:Nat→List Int→List (S42)→Int→Int→Option (List Int)
  | 0,_,_,_,_=>none
  | k + 1,x3,x8,x9,x10=>if x10 < x9 then (if 0 ≤ x10 then (if x10 < (x8.length:Int) then (if 0 ≤ ((rd_T42 x8 x10).f0) then (if ((rd_T42 x8 x10).f0) < (x3.length:Int) then (spec_boParts.l0 k (x3.set (((rd_T42 x8 x10).f0):Int).toNat (wrap64 ((rd x3 ((rd_T42 x8 x10).f0)) + 1))) x8 x9 (wrap64 (x10 + 1))) else (none)) else (none)) else (none)) else (none)) else (some x3)
def spec_boParts.f (k:Nat) (a0_0:Int) (a0_1:Int) (l0_2:List (S42)):Option (List Int):=if 8 ≤ 35184372088832 then (spec_boParts.l0 k (List.replicate 8 0) l0_2 (l0_2.length:Int) 0) else (none)
theorem spec_boParts.calls (k:Nat) (a0_0:Int) (a0_1:Int) (A0_2:Option Addr) (c0_2:Nat) (l0_2:List (S42)) (r:List Int) (w:World) (hr0_2:Kd.C k42 w A0_2 l0_2.length l0_2) (hc0_2:l0_2.length ≤ c0_2) (h:spec_boParts.f k a0_0 a0_1 l0_2 = some r) :
    Calls Try.prog 133 #[.agg #[.int .i64 a0_0,.int .i64 a0_1,.slice A0_2 l0_2.length c0_2]] w fun e w'=>∃ v0_:Value,e = .returned (v0_)∧Kd.R (Kd.int .i64) 3 w' w.heap.size (fun _=>True) v0_ r∧Below w.heap.size w w':=by
 have S:=St.init (w:=w) (dc k42_heap at42 hr0_2 hc0_2 dn)
 clear hr0_2 hc0_2
 have F:=S.fc
 have H:=h;clear h;unfold spec_boParts.f at H
 replace H:=np_ H;obtain ⟨c2,H⟩:=H;(try simp only [F] at c2)
 (first | (with_reducible replace H:=ob_ H;obtain ⟨y589,hy589,H⟩:=H;(try dsimp only at H)) | (obtain ⟨y589,hy589⟩:∃ y_:List Int,y_ = (List.replicate 8 0):=⟨_,rfl⟩;(try rw [← hy589] at H);(try simp only [Option.bind_some] at H)));have Ny589:=Aside0.mk hy589;clear hy589
 go_enter Try.func133,Try.ntmps133
 go_wp2_with (first | ((with_reducible refine gd 1 rfl (L ?_));refine bo 1 (.agg #[_,_,_]) S ?_;clear S F;intro gb588 W S;have F:=S.fc) | ((with_reducible refine gd 6 rfl (L ?_));refine mka 6 (atI .i64) S Try.underlying25 info3 ?_;clear S F;intro Ay589 cy589 W S;(try simp only [Int.reduceToNat] at S ⊢);(try rw [← Ny589.out] at S ⊢);have F:=S.fc) | ((with_reducible refine gs (t:=3) rfl (L ?_));(first | refine sb (.int _ _) S sz3 ?_ | refine ro (.int _ _) S sz3 ?_ (ho:=rfl) (hx:=rfl) (hy:=rfl));clear S F;intro W S;(try simp only [gd42] at S);(try rw [← Ny589.out] at S);have F:=S.fc) | ((with_reducible refine gs (t:=42) rfl (L ?_));(first | refine sb (.agg #[_,_]) S sz42 ?_ | refine ro (.agg #[_,_]) S sz42 ?_ (ho:=rfl) (hx:=rfl) (hy:=rfl));clear S F;intro W S;(try simp only [gd42] at S);(try rw [← Ny589.out] at S);have F:=S.fc))
 go_loopg [10] k (fun kq v10 w'=>∃ (x3_1:List Int) (x10_1:Int),v10 = .int .i64 x10_1∧spec_boParts.l0 kq x3_1 l0_2 (l0_2.length:Int) x10_1 = some r∧kq ≤ k∧St w w (fun _=>False) [bor at42 A0_2 c0_2 l0_2] w'  [row (atI .i64) 3 Ay589 y589.length cy589 x3_1,box gb588 30 [.int .i64 a0_0,.int .i64 a0_1,.slice A0_2 l0_2.length c0_2]])
 case atStart=>exact ⟨y589,0,(by first | rfl | (simp;done) | (simp [*];done) | (rw [w6_ (by omega) (by omega)])),(by first | exact H | (simp only [F];exact H)),Nat.le_refl _,S⟩
 case round =>
  clear H S F
  obtain ⟨x3_1,x10_1,rfl,HA,HK1,S⟩:=hrel
  have F:=S.fc
  cases gk with
  | zero=>exact absurd HA (by simp [spec_boParts.l0])
  | succ k1 =>
   have H:=HA;clear HA;simp only [spec_boParts.l0,F] at H
   replace H:=sp_ H;rcases H with ⟨c7,H⟩ | ⟨c7,H⟩
   · skip
     replace H:=np_ H;obtain ⟨c8,H⟩:=H;(try simp only [F] at c8)
     replace H:=np_ H;obtain ⟨c9,H⟩:=H;(try simp only [F] at c9)
     replace H:=np_ H;obtain ⟨c10,H⟩:=H;(try simp only [F] at c10)
     replace H:=np_ H;obtain ⟨c11,H⟩:=H;(try simp only [F] at c11)
     (first | (with_reducible replace H:=ob_ H;obtain ⟨y595,hy595,H⟩:=H;(try dsimp only at H)) | (obtain ⟨y595,hy595⟩:∃ y_:List Int,y_ = (x3_1.set (((rd_T42 l0_2 x10_1).f0):Int).toNat (wrap64 ((rd x3_1 ((rd_T42 l0_2 x10_1).f0)) + 1))):=⟨_,rfl⟩;(try rw [← hy595] at H);(try simp only [Option.bind_some] at H)));have Ny595:=Aside0.mk hy595;clear hy595
     go_wp2_with (first | ((with_reducible refine gd 5 rfl (L ?_));refine al 5 S zi42 ?_;clear S F;intro gb593 W S;have F:=S.fc) | ((with_reducible refine gs (t:=3) rfl (L ?_));(first | refine sb (.int _ _) S sz3 ?_ | refine ro (.int _ _) S sz3 ?_ (ho:=rfl) (hx:=rfl) (hy:=rfl));clear S F;intro W S;(try simp only [gd42] at S);(try rw [← Ny589.out] at S);(try rw [← Ny595.out] at S);have F:=S.fc) | ((with_reducible refine gs (t:=42) rfl (L ?_));(first | refine sb (.agg #[_,_]) S sz42 ?_ | refine ro (.agg #[_,_]) S sz42 ?_ (ho:=rfl) (hx:=rfl) (hy:=rfl));clear S F;intro W S;(try simp only [gd42] at S);(try rw [← Ny589.out] at S);(try rw [← Ny595.out] at S);have F:=S.fc))
     go_roundg k1
     case measure=>omega
     case rel=>exact ⟨y595,(wrap64 (x10_1 + 1)),(by first | rfl | (simp;done) | (simp [*];done) | (rw [w6_ (by omega) (by omega)])),(by first | exact H | (simp only [F];exact H)),(by first | omega | exact Nat.le_refl _),S.tl⟩
   · skip
     obtain rfl:=Option.some.inj H
     go_wp2_with (first | ((with_reducible refine gs (t:=3) rfl (L ?_));(first | refine sb (.int _ _) S sz3 ?_ | refine ro (.int _ _) S sz3 ?_ (ho:=rfl) (hx:=rfl) (hy:=rfl));clear S F;intro W S;(try simp only [gd42] at S);(try rw [← Ny589.out] at S);have F:=S.fc) | ((with_reducible refine gs (t:=42) rfl (L ?_));(first | refine sb (.agg #[_,_]) S sz42 ?_ | refine ro (.agg #[_,_]) S sz42 ?_ (ho:=rfl) (hx:=rfl) (hy:=rfl));clear S F;intro W S;(try simp only [gd42] at S);(try rw [← Ny589.out] at S);have F:=S.fc))
     go_ret
     exact ⟨_,(by first | rfl | (simp [e0_,e1_] <;> rfl) | (simp [*,e0_,e1_] <;> rfl)),(by first | exact S.r | exact Kd.R_nil _ _ _ _ _),S.below⟩

/-! ### spec_sySize: function 130 -/
def spec_sySize.f (k:Nat) (a0_0:Int) (a0_1:Int) (l0_2:List (S42)):Option (Int):=(spec_boParts.f k a0_0 a0_1 l0_2).bind fun t597=>(if 0 < (t597.length:Int) then (some (wrap64 ((l0_2.length:Int) - (rd t597 0)))) else (none))
theorem spec_sySize.calls (k:Nat) (a0_0:Int) (a0_1:Int) (A0_2:Option Addr) (c0_2:Nat) (l0_2:List (S42)) (r:Int) (w:World) (hr0_2:Kd.C k42 w A0_2 l0_2.length l0_2) (hc0_2:l0_2.length ≤ c0_2) (h:spec_sySize.f k a0_0 a0_1 l0_2 = some r) :
    Calls Try.prog 130 #[.agg #[.int .i64 a0_0,.int .i64 a0_1,.slice A0_2 l0_2.length c0_2]] w fun e w'=>e = .returned (.int .i64 r)∧Below w.heap.size w w':=by
 have S:=St.init (w:=w) (dc k42_heap at42 hr0_2 hc0_2 dn)
 clear hr0_2 hc0_2
 have F:=S.fc
 have H:=h;clear h;unfold spec_sySize.f at H
 replace H:=Option.bind_eq_some_iff.mp H;obtain ⟨t597,A2,H⟩:=H;(try dsimp only at H)
 replace H:=np_ H;obtain ⟨c3,H⟩:=H;(try have m_t597:0 < t597.length:=by omega)
 obtain rfl:=Option.some.inj H
 go_enter Try.func130,Try.ntmps130
 go_wp2_with (first | ((with_reducible refine gd 1 rfl (L ?_));refine bo 1 (.agg #[_,_,_]) S ?_;clear S F;intro gb596 W S;have F:=S.fc))
 refine rq S [(0,0),(1,1),(0,2),(1,3),(2,4),(0,5),(2,6),(0,7),(0,8)] [] (h:=?_);clear S F;intro W S;have S0:=S;have F:=S.fc
 repeat (first | (refine q0 (h:=?_)) | (refine q1 S0 (h:=?_)) | (refine q0n (h:=?_)) | (refine q1n S0 (h:=?_)) | (refine q2 S0 (h:=?_)))
 refine lk2 (by rfl) (by exact (Eq.refl true)) ?_;refine cl (some 7) Try.func133 (spec_boParts.calls _ _ _ _ _ _ _ _ S.c S.n A2) (hargs:=by (simp only [ma_,mb_,mc_,F] <;> rfl)) (h:=?_);rintro e W ⟨v598,rfl,ho0,hb⟩;refine ⟨_,rfl,?_⟩;replace S:=S.got (atI .i64) hb ho0;obtain ⟨At597,ct597,rfl,S⟩:=S;clear F hb ho0;have F:=S.fc;(try have z_:=rd0_ S m_t597)
 clear S0;have S0:=S.tl;refine ⟨S0,?_⟩
 repeat (first | (refine q0 (h:=?_)) | (refine q1 S0 (h:=?_)) | (refine q0n (h:=?_)) | (refine q1n S0 (h:=?_)) | (refine q2 S0 (h:=?_)))
 refine oz ?_
 try clear S0
 try go_wp2
 go_ret
 exact ⟨(by first | rfl | (simp [e0_,e1_] <;> rfl) | (simp [*,e0_,e1_] <;> rfl)),S.below⟩

/-! ### spec_syMeets: function 138 -/
def spec_syMeets.l0:Nat→List Int→Int→Int→Int→Int→List (S42)→List Int→List Int→Int→Int→List (S42)→Int→Int→List (S42)→Option (Bool)
  | 0,_,_,_,_,_,_,_,_,_,_,_,_,_,_=>none
  | k + 1,x12,x13,x14,x602000,x602001,x602002,x602003,x602004,x603000,x603001,x603002,x604000,x604001,x604002=>if x14 < x13 then (if 0 ≤ x14 then (if x14 < (x12.length:Int) then ((spec_flRun.f k x604000 x604001 x604002 (rd x12 x14)).bind fun bt605=>((spec_syEnd.f x603000 x603001 x603002 bt605.1 bt605.2.1 bt605.2.2.1).bind fun t615=>(if x14 < (x602004.length:Int) then (if t615 = (rd x602004 x14) then (spec_syMeets.l0 k x12 x13 (wrap64 (x14 + 1)) x602000 x602001 x602002 x602003 x602004 x603000 x603001 x603002 bt605.2.2.2.1 bt605.2.2.2.2.1 bt605.2.2.2.2.2) else (some false)) else (none)))) else (none)) else (none)) else (some true)
def spec_syMeets.f (k:Nat) (a0_0:Int) (a0_1:Int) (l0_2:List (S42)) (l0_3:List Int) (l0_4:List Int) (a1_0:Int) (a1_1:Int) (l1_2:List (S42)):Option (Bool):=spec_syMeets.l0 k l0_3 (l0_3.length:Int) 0 a0_0 a0_1 l0_2 l0_3 l0_4 a1_0 a1_1 l1_2 a1_0 a1_1 l1_2
theorem spec_syMeets.calls (k:Nat) (a0_0:Int) (a0_1:Int) (A0_2:Option Addr) (c0_2:Nat) (l0_2:List (S42)) (A0_3:Option Addr) (c0_3:Nat) (l0_3:List Int) (A0_4:Option Addr) (c0_4:Nat) (l0_4:List Int) (a1_0:Int) (a1_1:Int) (A1_2:Option Addr) (c1_2:Nat) (l1_2:List (S42)) (r:Bool) (w:World) (hr0_2:Kd.C k42 w A0_2 l0_2.length l0_2) (hc0_2:l0_2.length ≤ c0_2) (hr0_3:Kd.C (Kd.int .i64) w A0_3 l0_3.length l0_3) (hc0_3:l0_3.length ≤ c0_3) (hr0_4:Kd.C (Kd.int .i64) w A0_4 l0_4.length l0_4) (hc0_4:l0_4.length ≤ c0_4) (hr1_2:Kd.C k42 w A1_2 l1_2.length l1_2) (hc1_2:l1_2.length ≤ c1_2) (h:spec_syMeets.f k a0_0 a0_1 l0_2 l0_3 l0_4 a1_0 a1_1 l1_2 = some r) :
    Calls Try.prog 138 #[.agg #[.int .i64 a0_0,.int .i64 a0_1,.slice A0_2 l0_2.length c0_2,.slice A0_3 l0_3.length c0_3,.slice A0_4 l0_4.length c0_4],.agg #[.int .i64 a1_0,.int .i64 a1_1,.slice A1_2 l1_2.length c1_2]] w fun e w'=>e = .returned (.bool r)∧Below w.heap.size w w':=by
 have S:=St.init (w:=w) (dc k42_heap at42 hr0_2 hc0_2 (dc (Kd.heap_int .i64) (atI .i64) hr0_3 hc0_3 (dc (Kd.heap_int .i64) (atI .i64) hr0_4 hc0_4 (dc k42_heap at42 hr1_2 hc1_2 dn))))
 clear hr0_2 hc0_2 hr0_3 hc0_3 hr0_4 hc0_4 hr1_2 hc1_2
 have F:=S.fc
 have H:=h;clear h;unfold spec_syMeets.f at H
 go_enter Try.func138,Try.ntmps138
 go_wp2_with (first | ((with_reducible refine gd 2 rfl (L ?_));refine bo 2 (.agg #[_,_,_,_,_]) S ?_;clear S F;intro gb601 W S;have F:=S.fc) | ((with_reducible refine gd 3 rfl (L ?_));refine bo 3 (.agg #[_,_,_]) S ?_;clear S F;intro gb602 W S;have F:=S.fc) | ((with_reducible refine gd 5 rfl (L ?_));refine al 5 S zi30 ?_;clear S F;intro gb603 W S;have F:=S.fc) | ((with_reducible refine gs (t:=30) rfl (L ?_));(first | refine sb (.agg #[_,_,_]) S sz30 ?_ | refine ro (.agg #[_,_,_]) S sz30 ?_ (ho:=rfl) (hx:=rfl) (hy:=rfl));(clear S F;intro W S;have F:=S.fc)) | ((with_reducible refine gs (t:=80) rfl (L ?_));(first | refine sb (.agg #[_,_,_]) S sz80 ?_ | refine ro (.agg #[_,_,_]) S sz80 ?_ (ho:=rfl) (hx:=rfl) (hy:=rfl));(clear S F;intro W S;have F:=S.fc)))
 go_loopg [14] k (fun kq v14 w'=>∃ (x14_1:Int) (x604000_1:Int) (x604001_1:Int) (x604002_1:List (S42)) (Ax604002_1:Option Addr) (cx604002_1:Nat),v14 = .int .i64 x14_1∧spec_syMeets.l0 kq l0_3 (l0_3.length:Int) x14_1 a0_0 a0_1 l0_2 l0_3 l0_4 a1_0 a1_1 l1_2 x604000_1 x604001_1 x604002_1 = some r∧kq ≤ k∧St w w (fun _=>False) [bor at42 Ax604002_1 cx604002_1 x604002_1,bor at42 A0_2 c0_2 l0_2,bor (atI .i64) A0_3 c0_3 l0_3,bor (atI .i64) A0_4 c0_4 l0_4,bor at42 A1_2 c1_2 l1_2] w'  [box gb603 30 [.int .i64 x604000_1,.int .i64 x604001_1,.slice Ax604002_1 x604002_1.length cx604002_1],box gb602 30 [.int .i64 a1_0,.int .i64 a1_1,.slice A1_2 l1_2.length c1_2],box gb601 27 [.int .i64 a0_0,.int .i64 a0_1,.slice A0_2 l0_2.length c0_2,.slice A0_3 l0_3.length c0_3,.slice A0_4 l0_4.length c0_4]])
 case atStart=>exact ⟨0,a1_0,a1_1,l1_2,_,_,(by first | rfl | (simp;done) | (simp [*];done) | (rw [w6_ (by omega) (by omega)])),H,Nat.le_refl _,(S.dk [3,0,1,2,3])⟩
 case round =>
  clear H S F
  obtain ⟨x14_1,x604000_1,x604001_1,x604002_1,Ax604002_1,cx604002_1,rfl,HA,HK1,S⟩:=hrel
  have F:=S.fc
  cases gk with
  | zero=>exact absurd HA (by simp [spec_syMeets.l0])
  | succ k1 =>
   have H:=HA;clear HA;simp only [spec_syMeets.l0,F] at H
   replace H:=sp_ H;rcases H with ⟨c12,H⟩ | ⟨c12,H⟩
   · skip
     replace H:=np_ H;obtain ⟨c13,H⟩:=H
     replace H:=np_ H;obtain ⟨c14,H⟩:=H
     replace H:=Option.bind_eq_some_iff.mp H;obtain ⟨⟨t605,t606,t607,t608,t609,t610⟩,A15,H⟩:=H;(try dsimp only at H)
     replace H:=Option.bind_eq_some_iff.mp H;obtain ⟨t615,A16,H⟩:=H;(try dsimp only at H)
     replace H:=np_ H;obtain ⟨c17,H⟩:=H
     replace H:=sp_ H;rcases H with ⟨c18,H⟩ | ⟨c18,H⟩
     · skip
       replace c18:=ceq c18
       go_wp2_with (first | ((with_reducible refine gate_callee (f:=141) rfl (L ?_));refine cl (some 22) Try.func141 (spec_flRun.calls _ _ _ _ _ _ _ _ _ _ _ _ _ _ S.c S.n A15) (hargs:=by (simp only [ma_,mb_,mc_,F] <;> rfl)) (h:=?_);rintro e W ⟨v611,rfl,ho0,hb⟩;refine ⟨_,rfl,?_⟩;replace S:=S.got at42 hb ho0;obtain ⟨At610,ct610,rfl,S⟩:=S;clear F hb ho0;have F:=S.fc) | ((with_reducible refine gd 8 rfl (L ?_));refine al 8 S zi80 ?_;clear S F;intro gb613 W S;have F:=S.fc) | ((with_reducible refine gd 9 rfl (L ?_));refine al 9 S zi30 ?_;clear S F;intro gb614 W S;have F:=S.fc) | ((with_reducible refine gs (t:=30) rfl (L ?_));(first | refine sb (.agg #[_,_,_]) S sz30 ?_ | refine ro (.agg #[_,_,_]) S sz30 ?_ (ho:=rfl) (hx:=rfl) (hy:=rfl));(clear S F;intro W S;have F:=S.fc)) | ((with_reducible refine gs (t:=80) rfl (L ?_));(first | refine sb (.agg #[_,_,_]) S sz80 ?_ | refine ro (.agg #[_,_,_]) S sz80 ?_ (ho:=rfl) (hx:=rfl) (hy:=rfl));(clear S F;intro W S;have F:=S.fc)))
       refine rq S [(0,3),(0,5),(1,0),(1,1),(1,4),(0,6),(1,7),(2,2),(0,8)] [] (h:=?_);clear S F;intro W S;have S0:=S;have F:=S.fc
       repeat (first | (refine q0 (h:=?_)) | (refine q1 S0 (h:=?_)) | (refine q0n (h:=?_)) | (refine q1n S0 (h:=?_)))
       refine lk2 (by rfl) (by exact (Eq.refl true)) ?_;refine cl (some 27) Try.func142 (spec_syEnd.calls _ _ _ _ _ _ _ _ _ _ S.c S.n A16) (hargs:=by (simp only [ma_,mb_,mc_,F] <;> rfl)) (h:=?_);rintro e W ⟨rfl,hb⟩;refine ⟨_,rfl,?_⟩;replace S:=S.go hb;clear F hb;have F:=S.fc
       clear S0;have S0:=S;refine ⟨S0,?_⟩
       repeat (first | (refine q0 (h:=?_)) | (refine q1 S0 (h:=?_)) | (refine q0n (h:=?_)) | (refine q1n S0 (h:=?_)))
       refine oz ?_
       try clear S0
       go_wp2_with (first | ((with_reducible refine gs (t:=30) rfl (L ?_));(first | refine sb (.agg #[_,_,_]) S sz30 ?_ | refine ro (.agg #[_,_,_]) S sz30 ?_ (ho:=rfl) (hx:=rfl) (hy:=rfl));(clear S F;intro W S;have F:=S.fc)) | ((with_reducible refine gs (t:=80) rfl (L ?_));(first | refine sb (.agg #[_,_,_]) S sz80 ?_ | refine ro (.agg #[_,_,_]) S sz80 ?_ (ho:=rfl) (hx:=rfl) (hy:=rfl));(clear S F;intro W S;have F:=S.fc)))
       go_roundg k1
       case measure=>omega
       case rel=>exact ⟨(wrap64 (x14_1 + 1)),t608,t609,t610,_,_,(by first | rfl | (simp;done) | (simp [*];done) | (rw [w6_ (by omega) (by omega)])),H,(by first | omega | exact Nat.le_refl _),((S.fzr At610 rfl).dk [0,2,3,4,5]).tl.tl.tl⟩
     · skip
       replace c18:=cne c18
       obtain rfl:=Option.some.inj H
       go_wp2_with (first | ((with_reducible refine gate_callee (f:=141) rfl (L ?_));refine cl (some 22) Try.func141 (spec_flRun.calls _ _ _ _ _ _ _ _ _ _ _ _ _ _ S.c S.n A15) (hargs:=by (simp only [ma_,mb_,mc_,F] <;> rfl)) (h:=?_);rintro e W ⟨v611,rfl,ho0,hb⟩;refine ⟨_,rfl,?_⟩;replace S:=S.got at42 hb ho0;obtain ⟨At610,ct610,rfl,S⟩:=S;clear F hb ho0;have F:=S.fc) | ((with_reducible refine gd 8 rfl (L ?_));refine al 8 S zi80 ?_;clear S F;intro gb613 W S;have F:=S.fc) | ((with_reducible refine gd 9 rfl (L ?_));refine al 9 S zi30 ?_;clear S F;intro gb614 W S;have F:=S.fc) | ((with_reducible refine gs (t:=30) rfl (L ?_));(first | refine sb (.agg #[_,_,_]) S sz30 ?_ | refine ro (.agg #[_,_,_]) S sz30 ?_ (ho:=rfl) (hx:=rfl) (hy:=rfl));(clear S F;intro W S;have F:=S.fc)) | ((with_reducible refine gs (t:=80) rfl (L ?_));(first | refine sb (.agg #[_,_,_]) S sz80 ?_ | refine ro (.agg #[_,_,_]) S sz80 ?_ (ho:=rfl) (hx:=rfl) (hy:=rfl));(clear S F;intro W S;have F:=S.fc)))
       refine rq S [(0,3),(0,5),(1,0),(1,1),(1,4),(0,6),(1,7),(2,2),(0,8)] [] (h:=?_);clear S F;intro W S;have S0:=S;have F:=S.fc
       repeat (first | (refine q0 (h:=?_)) | (refine q1 S0 (h:=?_)) | (refine q0n (h:=?_)) | (refine q1n S0 (h:=?_)))
       refine lk2 (by rfl) (by exact (Eq.refl true)) ?_;refine cl (some 27) Try.func142 (spec_syEnd.calls _ _ _ _ _ _ _ _ _ _ S.c S.n A16) (hargs:=by (simp only [ma_,mb_,mc_,F] <;> rfl)) (h:=?_);rintro e W ⟨rfl,hb⟩;refine ⟨_,rfl,?_⟩;replace S:=S.go hb;clear F hb;have F:=S.fc
       clear S0;have S0:=S;refine ⟨S0,?_⟩
       repeat (first | (refine q0 (h:=?_)) | (refine q1 S0 (h:=?_)) | (refine q0n (h:=?_)) | (refine q1n S0 (h:=?_)))
       refine oz ?_
       try clear S0
       go_wp2_with (first | ((with_reducible refine gs (t:=30) rfl (L ?_));(first | refine sb (.agg #[_,_,_]) S sz30 ?_ | refine ro (.agg #[_,_,_]) S sz30 ?_ (ho:=rfl) (hx:=rfl) (hy:=rfl));(clear S F;intro W S;have F:=S.fc)) | ((with_reducible refine gs (t:=80) rfl (L ?_));(first | refine sb (.agg #[_,_,_]) S sz80 ?_ | refine ro (.agg #[_,_,_]) S sz80 ?_ (ho:=rfl) (hx:=rfl) (hy:=rfl));(clear S F;intro W S;have F:=S.fc)))
       go_ret
       exact ⟨(by first | rfl | (simp [e0_,e1_] <;> rfl) | (simp [*,e0_,e1_] <;> rfl)),S.below⟩
   · skip
     obtain rfl:=Option.some.inj H
     go_wp2_with (first | ((with_reducible refine gs (t:=30) rfl (L ?_));(first | refine sb (.agg #[_,_,_]) S sz30 ?_ | refine ro (.agg #[_,_,_]) S sz30 ?_ (ho:=rfl) (hx:=rfl) (hy:=rfl));(clear S F;intro W S;have F:=S.fc)) | ((with_reducible refine gs (t:=80) rfl (L ?_));(first | refine sb (.agg #[_,_,_]) S sz80 ?_ | refine ro (.agg #[_,_,_]) S sz80 ?_ (ho:=rfl) (hx:=rfl) (hy:=rfl));(clear S F;intro W S;have F:=S.fc)))
     go_ret
     exact ⟨(by first | rfl | (simp [e0_,e1_] <;> rfl) | (simp [*,e0_,e1_] <;> rfl)),S.below⟩

/-! ### spec_syCount: function 94 -/
def spec_syCount.l0:Nat→List Int→Int→Int→Int→Int→Int→Int→List (S42)→List Int→List Int→Option (List Int × Int × Int)
  | 0,_,_,_,_,_,_,_,_,_,_=>none
  | k + 1,x5,x6,x7,x8,x9,x618000,x618001,x618002,x618003,x618004=>(spec_syTried.f k x618000 x618001 x618002 x618003 x618004).bind fun t621=>(if x9 < t621 then ((spec_syBoard.f k x618000 x618001 x618002 x618003 x618004 x9).bind fun bt622=>((spec_syMeets.f k x618000 x618001 x618002 x618003 x618004 bt622.1 bt622.2.1 bt622.2.2).bind fun t628=>(if t628 = true then ((spec_sySize.f k bt622.1 bt622.2.1 bt622.2.2).bind fun t629=>(if 0 ≤ t629 then (if t629 < (x5.length:Int) then ((some (x5.set (t629:Int).toNat (wrap64 ((rd x5 t629) + 1)):List Int)).bind fun y631=>(if x6 < 0 then (if x7 < 0 then (spec_syCount.l0 k y631 x9 x9 t629 (wrap64 (x9 + 1)) x618000 x618001 x618002 x618003 x618004) else (if t629 < x8 then (spec_syCount.l0 k y631 x9 x9 t629 (wrap64 (x9 + 1)) x618000 x618001 x618002 x618003 x618004) else (spec_syCount.l0 k y631 x9 x7 x8 (wrap64 (x9 + 1)) x618000 x618001 x618002 x618003 x618004))) else (if x7 < 0 then (spec_syCount.l0 k y631 x6 x9 t629 (wrap64 (x9 + 1)) x618000 x618001 x618002 x618003 x618004) else (if t629 < x8 then (spec_syCount.l0 k y631 x6 x9 t629 (wrap64 (x9 + 1)) x618000 x618001 x618002 x618003 x618004) else (spec_syCount.l0 k y631 x6 x7 x8 (wrap64 (x9 + 1)) x618000 x618001 x618002 x618003 x618004))))) else (none)) else (none))) else (spec_syCount.l0 k x5 x6 x7 x8 (wrap64 (x9 + 1)) x618000 x618001 x618002 x618003 x618004)))) else (some (x5,x6,x7)))
def spec_syCount.f (k:Nat) (a0_0:Int) (a0_1:Int) (l0_2:List (S42)) (l0_3:List Int) (l0_4:List Int):Option (List Int × Int × Int):=if 0 ≤ (wrap64 ((wrap64 (a0_0 * a0_1)) + 1)) then (if (wrap64 ((wrap64 (a0_0 * a0_1)) + 1):Int).toNat ≤ 35184372088832 then (spec_syCount.l0 k (List.replicate (wrap64 ((wrap64 (a0_0 * a0_1)) + 1):Int).toNat 0) (-1) (-1) 0 0 a0_0 a0_1 l0_2 l0_3 l0_4) else (none)) else (none)
theorem spec_syCount.calls (k:Nat) (a0_0:Int) (a0_1:Int) (A0_2:Option Addr) (c0_2:Nat) (l0_2:List (S42)) (A0_3:Option Addr) (c0_3:Nat) (l0_3:List Int) (A0_4:Option Addr) (c0_4:Nat) (l0_4:List Int) (r1:List Int) (r2:Int) (r3:Int) (w:World) (hr0_2:Kd.C k42 w A0_2 l0_2.length l0_2) (hc0_2:l0_2.length ≤ c0_2) (hr0_3:Kd.C (Kd.int .i64) w A0_3 l0_3.length l0_3) (hc0_3:l0_3.length ≤ c0_3) (hr0_4:Kd.C (Kd.int .i64) w A0_4 l0_4.length l0_4) (hc0_4:l0_4.length ≤ c0_4) (h:spec_syCount.f k a0_0 a0_1 l0_2 l0_3 l0_4 = some (r1,r2,r3)) :
    Calls Try.prog 94 #[.agg #[.int .i64 a0_0,.int .i64 a0_1,.slice A0_2 l0_2.length c0_2,.slice A0_3 l0_3.length c0_3,.slice A0_4 l0_4.length c0_4]] w fun e w'=>∃ v0_:Value,e = .returned (.tuple #[v0_,.int .i64 r2,.int .i64 r3])∧Kd.R (Kd.int .i64) 3 w' w.heap.size (fun _=>True) v0_ r1∧Below w.heap.size w w':=by
 have S:=St.init (w:=w) (dc k42_heap at42 hr0_2 hc0_2 (dc (Kd.heap_int .i64) (atI .i64) hr0_3 hc0_3 (dc (Kd.heap_int .i64) (atI .i64) hr0_4 hc0_4 dn)))
 clear hr0_2 hc0_2 hr0_3 hc0_3 hr0_4 hc0_4
 have F:=S.fc
 have H:=h;clear h;unfold spec_syCount.f at H
 obtain ⟨ji2,hji2⟩:∃ j_:Int,(wrap64 ((wrap64 (a0_0 * a0_1)) + 1)) = j_:=⟨_,rfl⟩;simp only [hji2] at H
 have hji2w:(IntKind.i64.wrap ((wrap64 (a0_0 * a0_1)) + 1)) = ji2:=(i64_w _).trans hji2
 replace H:=np_ H;obtain ⟨c3,H⟩:=H;(try simp only [F] at c3)
 replace H:=np_ H;obtain ⟨c4,H⟩:=H;(try simp only [F] at c4)
 (first | (with_reducible replace H:=ob_ H;obtain ⟨y618,hy618,H⟩:=H;(try dsimp only at H)) | (obtain ⟨y618,hy618⟩:∃ y_:List Int,y_ = (List.replicate (ji2:Int).toNat 0):=⟨_,rfl⟩;(try rw [← hy618] at H);(try simp only [Option.bind_some] at H)));have Ny618:=Aside0.mk hy618;clear hy618
 go_enter Try.func94,Try.ntmps94
 go_wp2_with (first | ((with_reducible refine gd 1 rfl (L ?_));refine bo 1 (.agg #[_,_,_,_,_]) S ?_;clear S F;intro gb617 W S;have F:=S.fc) | ((with_reducible refine gd 18 rfl (L ?_));refine mka 18 (atI .i64) S Try.underlying25 info3 ?_;clear S F;intro Ay618 cy618 W S;(try simp only [Int.reduceToNat] at S ⊢);(try rw [← Ny618.out] at S ⊢);have F:=S.fc) | ((with_reducible refine gs (t:=3) rfl (L ?_));(first | refine sb (.int _ _) S sz3 ?_ | refine ro (.int _ _) S sz3 ?_ (ho:=rfl) (hx:=rfl) (hy:=rfl));clear S F;intro W S;(try rw [← Ny618.out] at S);have F:=S.fc) | ((with_reducible refine gs (t:=30) rfl (L ?_));(first | refine sb (.agg #[_,_,_]) S sz30 ?_ | refine ro (.agg #[_,_,_]) S sz30 ?_ (ho:=rfl) (hx:=rfl) (hy:=rfl));clear S F;intro W S;(try rw [← Ny618.out] at S);have F:=S.fc))
 go_loopg [6,7,8,9] k (fun kq v6 v7 v8 v9 w'=>∃ (x5_1:List Int) (x6_1:Int) (x7_1:Int) (x8_1:Int) (x9_1:Int),v6 = .int .i64 x6_1∧v7 = .int .i64 x7_1∧v8 = .int .i64 x8_1∧v9 = .int .i64 x9_1∧spec_syCount.l0 kq x5_1 x6_1 x7_1 x8_1 x9_1 a0_0 a0_1 l0_2 l0_3 l0_4 = some (r1,r2,r3)∧kq ≤ k∧St w w (fun _=>False) [bor at42 A0_2 c0_2 l0_2,bor (atI .i64) A0_3 c0_3 l0_3,bor (atI .i64) A0_4 c0_4 l0_4] w'  [row (atI .i64) 3 Ay618 y618.length cy618 x5_1,box gb617 27 [.int .i64 a0_0,.int .i64 a0_1,.slice A0_2 l0_2.length c0_2,.slice A0_3 l0_3.length c0_3,.slice A0_4 l0_4.length c0_4]])
 case atStart=>exact ⟨y618,(-1),(-1),0,0,(by first | rfl | (simp;done) | (simp [*];done) | (rw [w6_ (by omega) (by omega)])),(by first | rfl | (simp;done) | (simp [*];done) | (rw [w6_ (by omega) (by omega)])),(by first | rfl | (simp;done) | (simp [*];done) | (rw [w6_ (by omega) (by omega)])),(by first | rfl | (simp;done) | (simp [*];done) | (rw [w6_ (by omega) (by omega)])),(by first | exact H | (simp only [F];exact H)),Nat.le_refl _,S⟩
 case round =>
  clear H S F
  obtain ⟨x5_1,x6_1,x7_1,x8_1,x9_1,rfl,rfl,rfl,rfl,HA,HK1,S⟩:=hrel
  have F:=S.fc
  cases gk with
  | zero=>exact absurd HA (by simp [spec_syCount.l0])
  | succ k1 =>
   have H:=HA;clear HA;simp only [spec_syCount.l0,F] at H
   replace H:=Option.bind_eq_some_iff.mp H;obtain ⟨t621,A9,H⟩:=H;(try dsimp only at H)
   replace H:=sp_ H;rcases H with ⟨c10,H⟩ | ⟨c10,H⟩
   · skip
     replace H:=Option.bind_eq_some_iff.mp H;obtain ⟨⟨t622,t623,t624⟩,A11,H⟩:=H;(try dsimp only at H)
     replace H:=Option.bind_eq_some_iff.mp H;obtain ⟨t628,A12,H⟩:=H;(try dsimp only at H)
     replace H:=sp_ H;rcases H with ⟨c13,H⟩ | ⟨c13,H⟩
     · skip
       subst c13
       replace H:=Option.bind_eq_some_iff.mp H;obtain ⟨t629,A14,H⟩:=H;(try dsimp only at H)
       replace H:=np_ H;obtain ⟨c15,H⟩:=H;(try simp only [F] at c15)
       replace H:=np_ H;obtain ⟨c16,H⟩:=H;(try simp only [F] at c16)
       (first | (with_reducible replace H:=ob_ H;obtain ⟨y631,hy631,H⟩:=H;(try dsimp only at H)) | (obtain ⟨y631,hy631⟩:∃ y_:List Int,y_ = (x5_1.set (t629:Int).toNat (wrap64 ((rd x5_1 t629) + 1))):=⟨_,rfl⟩;(try rw [← hy631] at H);(try simp only [Option.bind_some] at H)));have Ny631:=Aside0.mk hy631;clear hy631
       replace H:=sp_ H;rcases H with ⟨c18,H⟩ | ⟨c18,H⟩
       · skip
         replace H:=sp_ H;rcases H with ⟨c19,H⟩ | ⟨c19,H⟩
         · skip
           go_wp2_with (first | ((with_reducible refine gate_callee (f:=129) rfl (L ?_));refine cl (some 21) Try.func129 (spec_syTried.calls _ _ _ _ _ _ _ _ _ _ _ _ _ _ S.c S.n S.c S.n S.c S.n A9) (hargs:=by (simp only [ma_,mb_,mc_,F] <;> rfl)) (h:=?_);rintro e W ⟨rfl,hb⟩;refine ⟨_,rfl,?_⟩;replace S:=S.go hb;clear F hb;have F:=S.fc) | ((with_reducible refine gate_callee (f:=95) rfl (L ?_));refine cl (some 27) Try.func95 (spec_syBoard.calls _ _ _ _ _ _ _ _ _ _ _ _ _ _ _ _ _ S.c S.n S.c S.n S.c S.n A11) (hargs:=by (simp only [ma_,mb_,mc_,F] <;> rfl)) (h:=?_);rintro e W ⟨v625,rfl,ho0,hb⟩;refine ⟨_,rfl,?_⟩;replace S:=S.got at42 hb ho0;obtain ⟨At624,ct624,rfl,S⟩:=S;clear F hb ho0;(try rw [← Ny618.out] at S);(try rw [← Ny631.out] at S);have F:=S.fc) | ((with_reducible refine gd 10 rfl (L ?_));refine al 10 S zi30 ?_;clear S F;intro gb627 W S;have F:=S.fc) | ((with_reducible refine gate_callee (f:=138) rfl (L ?_));refine cl (some 30) Try.func138 (spec_syMeets.calls _ _ _ _ _ _ _ _ _ _ _ _ _ _ _ _ _ _ _ S.c S.n S.c S.n S.c S.n S.c S.n A12) (hargs:=by (simp only [ma_,mb_,mc_,F] <;> rfl)) (h:=?_);rintro e W ⟨rfl,hb⟩;refine ⟨_,rfl,?_⟩;replace S:=S.go hb;clear F hb;have F:=S.fc) | ((with_reducible refine gate_callee (f:=130) rfl (L ?_));refine cl (some 33) Try.func130 (spec_sySize.calls _ _ _ _ _ _ _ _ S.c S.n A14) (hargs:=by (simp only [ma_,mb_,mc_,F] <;> rfl)) (h:=?_);rintro e W ⟨rfl,hb⟩;refine ⟨_,rfl,?_⟩;replace S:=S.go hb;clear F hb;have F:=S.fc) | ((with_reducible refine gs (t:=3) rfl (L ?_));(first | refine sb (.int _ _) S sz3 ?_ | refine ro (.int _ _) S sz3 ?_ (ho:=rfl) (hx:=rfl) (hy:=rfl));clear S F;intro W S;(try rw [← Ny618.out] at S);(try rw [← Ny631.out] at S);have F:=S.fc) | ((with_reducible refine gs (t:=30) rfl (L ?_));(first | refine sb (.agg #[_,_,_]) S sz30 ?_ | refine ro (.agg #[_,_,_]) S sz30 ?_ (ho:=rfl) (hx:=rfl) (hy:=rfl));clear S F;intro W S;(try rw [← Ny618.out] at S);(try rw [← Ny631.out] at S);have F:=S.fc))
           go_roundg k1
           case measure=>omega
           case rel=>exact ⟨y631,x9_1,x9_1,t629,(wrap64 (x9_1 + 1)),(by first | rfl | (simp;done) | (simp [*];done) | (rw [w6_ (by omega) (by omega)])),(by first | rfl | (simp;done) | (simp [*];done) | (rw [w6_ (by omega) (by omega)])),(by first | rfl | (simp;done) | (simp [*];done) | (rw [w6_ (by omega) (by omega)])),(by first | rfl | (simp;done) | (simp [*];done) | (rw [w6_ (by omega) (by omega)])),(by first | exact H | (simp only [F];exact H)),(by first | omega | exact Nat.le_refl _),S.tl.tl⟩
         · skip
           replace H:=sp_ H;rcases H with ⟨c37,H⟩ | ⟨c37,H⟩
           · skip
             go_wp2_with (first | ((with_reducible refine gate_callee (f:=129) rfl (L ?_));refine cl (some 21) Try.func129 (spec_syTried.calls _ _ _ _ _ _ _ _ _ _ _ _ _ _ S.c S.n S.c S.n S.c S.n A9) (hargs:=by (simp only [ma_,mb_,mc_,F] <;> rfl)) (h:=?_);rintro e W ⟨rfl,hb⟩;refine ⟨_,rfl,?_⟩;replace S:=S.go hb;clear F hb;have F:=S.fc) | ((with_reducible refine gate_callee (f:=95) rfl (L ?_));refine cl (some 27) Try.func95 (spec_syBoard.calls _ _ _ _ _ _ _ _ _ _ _ _ _ _ _ _ _ S.c S.n S.c S.n S.c S.n A11) (hargs:=by (simp only [ma_,mb_,mc_,F] <;> rfl)) (h:=?_);rintro e W ⟨v625,rfl,ho0,hb⟩;refine ⟨_,rfl,?_⟩;replace S:=S.got at42 hb ho0;obtain ⟨At624,ct624,rfl,S⟩:=S;clear F hb ho0;(try rw [← Ny618.out] at S);(try rw [← Ny631.out] at S);have F:=S.fc) | ((with_reducible refine gd 10 rfl (L ?_));refine al 10 S zi30 ?_;clear S F;intro gb627 W S;have F:=S.fc) | ((with_reducible refine gate_callee (f:=138) rfl (L ?_));refine cl (some 30) Try.func138 (spec_syMeets.calls _ _ _ _ _ _ _ _ _ _ _ _ _ _ _ _ _ _ _ S.c S.n S.c S.n S.c S.n S.c S.n A12) (hargs:=by (simp only [ma_,mb_,mc_,F] <;> rfl)) (h:=?_);rintro e W ⟨rfl,hb⟩;refine ⟨_,rfl,?_⟩;replace S:=S.go hb;clear F hb;have F:=S.fc) | ((with_reducible refine gate_callee (f:=130) rfl (L ?_));refine cl (some 33) Try.func130 (spec_sySize.calls _ _ _ _ _ _ _ _ S.c S.n A14) (hargs:=by (simp only [ma_,mb_,mc_,F] <;> rfl)) (h:=?_);rintro e W ⟨rfl,hb⟩;refine ⟨_,rfl,?_⟩;replace S:=S.go hb;clear F hb;have F:=S.fc) | ((with_reducible refine gs (t:=3) rfl (L ?_));(first | refine sb (.int _ _) S sz3 ?_ | refine ro (.int _ _) S sz3 ?_ (ho:=rfl) (hx:=rfl) (hy:=rfl));clear S F;intro W S;(try rw [← Ny618.out] at S);(try rw [← Ny631.out] at S);have F:=S.fc) | ((with_reducible refine gs (t:=30) rfl (L ?_));(first | refine sb (.agg #[_,_,_]) S sz30 ?_ | refine ro (.agg #[_,_,_]) S sz30 ?_ (ho:=rfl) (hx:=rfl) (hy:=rfl));clear S F;intro W S;(try rw [← Ny618.out] at S);(try rw [← Ny631.out] at S);have F:=S.fc))
             go_roundg k1
             case measure=>omega
             case rel=>exact ⟨y631,x9_1,x9_1,t629,(wrap64 (x9_1 + 1)),(by first | rfl | (simp;done) | (simp [*];done) | (rw [w6_ (by omega) (by omega)])),(by first | rfl | (simp;done) | (simp [*];done) | (rw [w6_ (by omega) (by omega)])),(by first | rfl | (simp;done) | (simp [*];done) | (rw [w6_ (by omega) (by omega)])),(by first | rfl | (simp;done) | (simp [*];done) | (rw [w6_ (by omega) (by omega)])),(by first | exact H | (simp only [F];exact H)),(by first | omega | exact Nat.le_refl _),S.tl.tl⟩
           · skip
             go_wp2_with (first | ((with_reducible refine gate_callee (f:=129) rfl (L ?_));refine cl (some 21) Try.func129 (spec_syTried.calls _ _ _ _ _ _ _ _ _ _ _ _ _ _ S.c S.n S.c S.n S.c S.n A9) (hargs:=by (simp only [ma_,mb_,mc_,F] <;> rfl)) (h:=?_);rintro e W ⟨rfl,hb⟩;refine ⟨_,rfl,?_⟩;replace S:=S.go hb;clear F hb;have F:=S.fc) | ((with_reducible refine gate_callee (f:=95) rfl (L ?_));refine cl (some 27) Try.func95 (spec_syBoard.calls _ _ _ _ _ _ _ _ _ _ _ _ _ _ _ _ _ S.c S.n S.c S.n S.c S.n A11) (hargs:=by (simp only [ma_,mb_,mc_,F] <;> rfl)) (h:=?_);rintro e W ⟨v625,rfl,ho0,hb⟩;refine ⟨_,rfl,?_⟩;replace S:=S.got at42 hb ho0;obtain ⟨At624,ct624,rfl,S⟩:=S;clear F hb ho0;(try rw [← Ny618.out] at S);(try rw [← Ny631.out] at S);have F:=S.fc) | ((with_reducible refine gd 10 rfl (L ?_));refine al 10 S zi30 ?_;clear S F;intro gb627 W S;have F:=S.fc) | ((with_reducible refine gate_callee (f:=138) rfl (L ?_));refine cl (some 30) Try.func138 (spec_syMeets.calls _ _ _ _ _ _ _ _ _ _ _ _ _ _ _ _ _ _ _ S.c S.n S.c S.n S.c S.n S.c S.n A12) (hargs:=by (simp only [ma_,mb_,mc_,F] <;> rfl)) (h:=?_);rintro e W ⟨rfl,hb⟩;refine ⟨_,rfl,?_⟩;replace S:=S.go hb;clear F hb;have F:=S.fc) | ((with_reducible refine gate_callee (f:=130) rfl (L ?_));refine cl (some 33) Try.func130 (spec_sySize.calls _ _ _ _ _ _ _ _ S.c S.n A14) (hargs:=by (simp only [ma_,mb_,mc_,F] <;> rfl)) (h:=?_);rintro e W ⟨rfl,hb⟩;refine ⟨_,rfl,?_⟩;replace S:=S.go hb;clear F hb;have F:=S.fc) | ((with_reducible refine gs (t:=3) rfl (L ?_));(first | refine sb (.int _ _) S sz3 ?_ | refine ro (.int _ _) S sz3 ?_ (ho:=rfl) (hx:=rfl) (hy:=rfl));clear S F;intro W S;(try rw [← Ny618.out] at S);(try rw [← Ny631.out] at S);have F:=S.fc) | ((with_reducible refine gs (t:=30) rfl (L ?_));(first | refine sb (.agg #[_,_,_]) S sz30 ?_ | refine ro (.agg #[_,_,_]) S sz30 ?_ (ho:=rfl) (hx:=rfl) (hy:=rfl));clear S F;intro W S;(try rw [← Ny618.out] at S);(try rw [← Ny631.out] at S);have F:=S.fc))
             go_roundg k1
             case measure=>omega
             case rel=>exact ⟨y631,x9_1,x7_1,x8_1,(wrap64 (x9_1 + 1)),(by first | rfl | (simp;done) | (simp [*];done) | (rw [w6_ (by omega) (by omega)])),(by first | rfl | (simp;done) | (simp [*];done) | (rw [w6_ (by omega) (by omega)])),(by first | rfl | (simp;done) | (simp [*];done) | (rw [w6_ (by omega) (by omega)])),(by first | rfl | (simp;done) | (simp [*];done) | (rw [w6_ (by omega) (by omega)])),(by first | exact H | (simp only [F];exact H)),(by first | omega | exact Nat.le_refl _),S.tl.tl⟩
       · skip
         replace H:=sp_ H;rcases H with ⟨c72,H⟩ | ⟨c72,H⟩
         · skip
           go_wp2_with (first | ((with_reducible refine gate_callee (f:=129) rfl (L ?_));refine cl (some 21) Try.func129 (spec_syTried.calls _ _ _ _ _ _ _ _ _ _ _ _ _ _ S.c S.n S.c S.n S.c S.n A9) (hargs:=by (simp only [ma_,mb_,mc_,F] <;> rfl)) (h:=?_);rintro e W ⟨rfl,hb⟩;refine ⟨_,rfl,?_⟩;replace S:=S.go hb;clear F hb;have F:=S.fc) | ((with_reducible refine gate_callee (f:=95) rfl (L ?_));refine cl (some 27) Try.func95 (spec_syBoard.calls _ _ _ _ _ _ _ _ _ _ _ _ _ _ _ _ _ S.c S.n S.c S.n S.c S.n A11) (hargs:=by (simp only [ma_,mb_,mc_,F] <;> rfl)) (h:=?_);rintro e W ⟨v625,rfl,ho0,hb⟩;refine ⟨_,rfl,?_⟩;replace S:=S.got at42 hb ho0;obtain ⟨At624,ct624,rfl,S⟩:=S;clear F hb ho0;(try rw [← Ny618.out] at S);(try rw [← Ny631.out] at S);have F:=S.fc) | ((with_reducible refine gd 10 rfl (L ?_));refine al 10 S zi30 ?_;clear S F;intro gb627 W S;have F:=S.fc) | ((with_reducible refine gate_callee (f:=138) rfl (L ?_));refine cl (some 30) Try.func138 (spec_syMeets.calls _ _ _ _ _ _ _ _ _ _ _ _ _ _ _ _ _ _ _ S.c S.n S.c S.n S.c S.n S.c S.n A12) (hargs:=by (simp only [ma_,mb_,mc_,F] <;> rfl)) (h:=?_);rintro e W ⟨rfl,hb⟩;refine ⟨_,rfl,?_⟩;replace S:=S.go hb;clear F hb;have F:=S.fc) | ((with_reducible refine gate_callee (f:=130) rfl (L ?_));refine cl (some 33) Try.func130 (spec_sySize.calls _ _ _ _ _ _ _ _ S.c S.n A14) (hargs:=by (simp only [ma_,mb_,mc_,F] <;> rfl)) (h:=?_);rintro e W ⟨rfl,hb⟩;refine ⟨_,rfl,?_⟩;replace S:=S.go hb;clear F hb;have F:=S.fc) | ((with_reducible refine gs (t:=3) rfl (L ?_));(first | refine sb (.int _ _) S sz3 ?_ | refine ro (.int _ _) S sz3 ?_ (ho:=rfl) (hx:=rfl) (hy:=rfl));clear S F;intro W S;(try rw [← Ny618.out] at S);(try rw [← Ny631.out] at S);have F:=S.fc) | ((with_reducible refine gs (t:=30) rfl (L ?_));(first | refine sb (.agg #[_,_,_]) S sz30 ?_ | refine ro (.agg #[_,_,_]) S sz30 ?_ (ho:=rfl) (hx:=rfl) (hy:=rfl));clear S F;intro W S;(try rw [← Ny618.out] at S);(try rw [← Ny631.out] at S);have F:=S.fc))
           go_roundg k1
           case measure=>omega
           case rel=>exact ⟨y631,x6_1,x9_1,t629,(wrap64 (x9_1 + 1)),(by first | rfl | (simp;done) | (simp [*];done) | (rw [w6_ (by omega) (by omega)])),(by first | rfl | (simp;done) | (simp [*];done) | (rw [w6_ (by omega) (by omega)])),(by first | rfl | (simp;done) | (simp [*];done) | (rw [w6_ (by omega) (by omega)])),(by first | rfl | (simp;done) | (simp [*];done) | (rw [w6_ (by omega) (by omega)])),(by first | exact H | (simp only [F];exact H)),(by first | omega | exact Nat.le_refl _),S.tl.tl⟩
         · skip
           replace H:=sp_ H;rcases H with ⟨c90,H⟩ | ⟨c90,H⟩
           · skip
             go_wp2_with (first | ((with_reducible refine gate_callee (f:=129) rfl (L ?_));refine cl (some 21) Try.func129 (spec_syTried.calls _ _ _ _ _ _ _ _ _ _ _ _ _ _ S.c S.n S.c S.n S.c S.n A9) (hargs:=by (simp only [ma_,mb_,mc_,F] <;> rfl)) (h:=?_);rintro e W ⟨rfl,hb⟩;refine ⟨_,rfl,?_⟩;replace S:=S.go hb;clear F hb;have F:=S.fc) | ((with_reducible refine gate_callee (f:=95) rfl (L ?_));refine cl (some 27) Try.func95 (spec_syBoard.calls _ _ _ _ _ _ _ _ _ _ _ _ _ _ _ _ _ S.c S.n S.c S.n S.c S.n A11) (hargs:=by (simp only [ma_,mb_,mc_,F] <;> rfl)) (h:=?_);rintro e W ⟨v625,rfl,ho0,hb⟩;refine ⟨_,rfl,?_⟩;replace S:=S.got at42 hb ho0;obtain ⟨At624,ct624,rfl,S⟩:=S;clear F hb ho0;(try rw [← Ny618.out] at S);(try rw [← Ny631.out] at S);have F:=S.fc) | ((with_reducible refine gd 10 rfl (L ?_));refine al 10 S zi30 ?_;clear S F;intro gb627 W S;have F:=S.fc) | ((with_reducible refine gate_callee (f:=138) rfl (L ?_));refine cl (some 30) Try.func138 (spec_syMeets.calls _ _ _ _ _ _ _ _ _ _ _ _ _ _ _ _ _ _ _ S.c S.n S.c S.n S.c S.n S.c S.n A12) (hargs:=by (simp only [ma_,mb_,mc_,F] <;> rfl)) (h:=?_);rintro e W ⟨rfl,hb⟩;refine ⟨_,rfl,?_⟩;replace S:=S.go hb;clear F hb;have F:=S.fc) | ((with_reducible refine gate_callee (f:=130) rfl (L ?_));refine cl (some 33) Try.func130 (spec_sySize.calls _ _ _ _ _ _ _ _ S.c S.n A14) (hargs:=by (simp only [ma_,mb_,mc_,F] <;> rfl)) (h:=?_);rintro e W ⟨rfl,hb⟩;refine ⟨_,rfl,?_⟩;replace S:=S.go hb;clear F hb;have F:=S.fc) | ((with_reducible refine gs (t:=3) rfl (L ?_));(first | refine sb (.int _ _) S sz3 ?_ | refine ro (.int _ _) S sz3 ?_ (ho:=rfl) (hx:=rfl) (hy:=rfl));clear S F;intro W S;(try rw [← Ny618.out] at S);(try rw [← Ny631.out] at S);have F:=S.fc) | ((with_reducible refine gs (t:=30) rfl (L ?_));(first | refine sb (.agg #[_,_,_]) S sz30 ?_ | refine ro (.agg #[_,_,_]) S sz30 ?_ (ho:=rfl) (hx:=rfl) (hy:=rfl));clear S F;intro W S;(try rw [← Ny618.out] at S);(try rw [← Ny631.out] at S);have F:=S.fc))
             go_roundg k1
             case measure=>omega
             case rel=>exact ⟨y631,x6_1,x9_1,t629,(wrap64 (x9_1 + 1)),(by first | rfl | (simp;done) | (simp [*];done) | (rw [w6_ (by omega) (by omega)])),(by first | rfl | (simp;done) | (simp [*];done) | (rw [w6_ (by omega) (by omega)])),(by first | rfl | (simp;done) | (simp [*];done) | (rw [w6_ (by omega) (by omega)])),(by first | rfl | (simp;done) | (simp [*];done) | (rw [w6_ (by omega) (by omega)])),(by first | exact H | (simp only [F];exact H)),(by first | omega | exact Nat.le_refl _),S.tl.tl⟩
           · skip
             go_wp2_with (first | ((with_reducible refine gate_callee (f:=129) rfl (L ?_));refine cl (some 21) Try.func129 (spec_syTried.calls _ _ _ _ _ _ _ _ _ _ _ _ _ _ S.c S.n S.c S.n S.c S.n A9) (hargs:=by (simp only [ma_,mb_,mc_,F] <;> rfl)) (h:=?_);rintro e W ⟨rfl,hb⟩;refine ⟨_,rfl,?_⟩;replace S:=S.go hb;clear F hb;have F:=S.fc) | ((with_reducible refine gate_callee (f:=95) rfl (L ?_));refine cl (some 27) Try.func95 (spec_syBoard.calls _ _ _ _ _ _ _ _ _ _ _ _ _ _ _ _ _ S.c S.n S.c S.n S.c S.n A11) (hargs:=by (simp only [ma_,mb_,mc_,F] <;> rfl)) (h:=?_);rintro e W ⟨v625,rfl,ho0,hb⟩;refine ⟨_,rfl,?_⟩;replace S:=S.got at42 hb ho0;obtain ⟨At624,ct624,rfl,S⟩:=S;clear F hb ho0;(try rw [← Ny618.out] at S);(try rw [← Ny631.out] at S);have F:=S.fc) | ((with_reducible refine gd 10 rfl (L ?_));refine al 10 S zi30 ?_;clear S F;intro gb627 W S;have F:=S.fc) | ((with_reducible refine gate_callee (f:=138) rfl (L ?_));refine cl (some 30) Try.func138 (spec_syMeets.calls _ _ _ _ _ _ _ _ _ _ _ _ _ _ _ _ _ _ _ S.c S.n S.c S.n S.c S.n S.c S.n A12) (hargs:=by (simp only [ma_,mb_,mc_,F] <;> rfl)) (h:=?_);rintro e W ⟨rfl,hb⟩;refine ⟨_,rfl,?_⟩;replace S:=S.go hb;clear F hb;have F:=S.fc) | ((with_reducible refine gate_callee (f:=130) rfl (L ?_));refine cl (some 33) Try.func130 (spec_sySize.calls _ _ _ _ _ _ _ _ S.c S.n A14) (hargs:=by (simp only [ma_,mb_,mc_,F] <;> rfl)) (h:=?_);rintro e W ⟨rfl,hb⟩;refine ⟨_,rfl,?_⟩;replace S:=S.go hb;clear F hb;have F:=S.fc) | ((with_reducible refine gs (t:=3) rfl (L ?_));(first | refine sb (.int _ _) S sz3 ?_ | refine ro (.int _ _) S sz3 ?_ (ho:=rfl) (hx:=rfl) (hy:=rfl));clear S F;intro W S;(try rw [← Ny618.out] at S);(try rw [← Ny631.out] at S);have F:=S.fc) | ((with_reducible refine gs (t:=30) rfl (L ?_));(first | refine sb (.agg #[_,_,_]) S sz30 ?_ | refine ro (.agg #[_,_,_]) S sz30 ?_ (ho:=rfl) (hx:=rfl) (hy:=rfl));clear S F;intro W S;(try rw [← Ny618.out] at S);(try rw [← Ny631.out] at S);have F:=S.fc))
             go_roundg k1
             case measure=>omega
             case rel=>exact ⟨y631,x6_1,x7_1,x8_1,(wrap64 (x9_1 + 1)),(by first | rfl | (simp;done) | (simp [*];done) | (rw [w6_ (by omega) (by omega)])),(by first | rfl | (simp;done) | (simp [*];done) | (rw [w6_ (by omega) (by omega)])),(by first | rfl | (simp;done) | (simp [*];done) | (rw [w6_ (by omega) (by omega)])),(by first | rfl | (simp;done) | (simp [*];done) | (rw [w6_ (by omega) (by omega)])),(by first | exact H | (simp only [F];exact H)),(by first | omega | exact Nat.le_refl _),S.tl.tl⟩
     · skip
       replace c13:=cbf c13;subst c13
       go_wp2_with (first | ((with_reducible refine gate_callee (f:=129) rfl (L ?_));refine cl (some 21) Try.func129 (spec_syTried.calls _ _ _ _ _ _ _ _ _ _ _ _ _ _ S.c S.n S.c S.n S.c S.n A9) (hargs:=by (simp only [ma_,mb_,mc_,F] <;> rfl)) (h:=?_);rintro e W ⟨rfl,hb⟩;refine ⟨_,rfl,?_⟩;replace S:=S.go hb;clear F hb;have F:=S.fc) | ((with_reducible refine gate_callee (f:=95) rfl (L ?_));refine cl (some 27) Try.func95 (spec_syBoard.calls _ _ _ _ _ _ _ _ _ _ _ _ _ _ _ _ _ S.c S.n S.c S.n S.c S.n A11) (hargs:=by (simp only [ma_,mb_,mc_,F] <;> rfl)) (h:=?_);rintro e W ⟨v625,rfl,ho0,hb⟩;refine ⟨_,rfl,?_⟩;replace S:=S.got at42 hb ho0;obtain ⟨At624,ct624,rfl,S⟩:=S;clear F hb ho0;(try rw [← Ny618.out] at S);have F:=S.fc) | ((with_reducible refine gd 10 rfl (L ?_));refine al 10 S zi30 ?_;clear S F;intro gb627 W S;have F:=S.fc) | ((with_reducible refine gate_callee (f:=138) rfl (L ?_));refine cl (some 30) Try.func138 (spec_syMeets.calls _ _ _ _ _ _ _ _ _ _ _ _ _ _ _ _ _ _ _ S.c S.n S.c S.n S.c S.n S.c S.n A12) (hargs:=by (simp only [ma_,mb_,mc_,F] <;> rfl)) (h:=?_);rintro e W ⟨rfl,hb⟩;refine ⟨_,rfl,?_⟩;replace S:=S.go hb;clear F hb;have F:=S.fc) | ((with_reducible refine gs (t:=3) rfl (L ?_));(first | refine sb (.int _ _) S sz3 ?_ | refine ro (.int _ _) S sz3 ?_ (ho:=rfl) (hx:=rfl) (hy:=rfl));clear S F;intro W S;(try rw [← Ny618.out] at S);have F:=S.fc) | ((with_reducible refine gs (t:=30) rfl (L ?_));(first | refine sb (.agg #[_,_,_]) S sz30 ?_ | refine ro (.agg #[_,_,_]) S sz30 ?_ (ho:=rfl) (hx:=rfl) (hy:=rfl));clear S F;intro W S;(try rw [← Ny618.out] at S);have F:=S.fc))
       go_roundg k1
       case measure=>omega
       case rel=>exact ⟨x5_1,x6_1,x7_1,x8_1,(wrap64 (x9_1 + 1)),(by first | rfl | (simp;done) | (simp [*];done) | (rw [w6_ (by omega) (by omega)])),(by first | rfl | (simp;done) | (simp [*];done) | (rw [w6_ (by omega) (by omega)])),(by first | rfl | (simp;done) | (simp [*];done) | (rw [w6_ (by omega) (by omega)])),(by first | rfl | (simp;done) | (simp [*];done) | (rw [w6_ (by omega) (by omega)])),(by first | exact H | (simp only [F];exact H)),(by first | omega | exact Nat.le_refl _),S.tl.tl⟩
   · skip
     simp only [Option.some.injEq,Prod.mk.injEq] at H
     obtain ⟨rfl,rfl,rfl⟩:=H
     go_wp2_with (first | ((with_reducible refine gate_callee (f:=129) rfl (L ?_));refine cl (some 21) Try.func129 (spec_syTried.calls _ _ _ _ _ _ _ _ _ _ _ _ _ _ S.c S.n S.c S.n S.c S.n A9) (hargs:=by (simp only [ma_,mb_,mc_,F] <;> rfl)) (h:=?_);rintro e W ⟨rfl,hb⟩;refine ⟨_,rfl,?_⟩;replace S:=S.go hb;clear F hb;have F:=S.fc) | ((with_reducible refine gs (t:=3) rfl (L ?_));(first | refine sb (.int _ _) S sz3 ?_ | refine ro (.int _ _) S sz3 ?_ (ho:=rfl) (hx:=rfl) (hy:=rfl));clear S F;intro W S;(try rw [← Ny618.out] at S);have F:=S.fc) | ((with_reducible refine gs (t:=30) rfl (L ?_));(first | refine sb (.agg #[_,_,_]) S sz30 ?_ | refine ro (.agg #[_,_,_]) S sz30 ?_ (ho:=rfl) (hx:=rfl) (hy:=rfl));clear S F;intro W S;(try rw [← Ny618.out] at S);have F:=S.fc))
     go_ret3
     exact ⟨_,(by first | rfl | (simp [e0_,e1_] <;> rfl) | (simp [*,e0_,e1_] <;> rfl)),(by first | exact S.r | exact Kd.R_nil _ _ _ _ _),S.below⟩

/-! ### spec_FirstSolution: function 11 -/
def spec_FirstSolution.f (k:Nat) (a0_0:Int) (a0_1:Int) (l0_2:List (S42)) (l0_3:List Int) (l0_4:List Int):Option (Int × Int × (List (S42)) × Bool):=(spec_syGood.f k a0_0 a0_1 l0_2 l0_3 l0_4).bind fun t634=>(if t634 = true then ((spec_syCount.f k a0_0 a0_1 l0_2 l0_3 l0_4).bind fun bt635=>(if bt635.2.1 < 0 then (some (0,0,([]:List (S42)),false)) else ((spec_syBoard.f k a0_0 a0_1 l0_2 l0_3 l0_4 bt635.2.1).bind fun bt640=>(some (bt640.1,bt640.2.1,bt640.2.2,true))))) else (some (0,0,([]:List (S42)),false)))
theorem spec_FirstSolution.calls (k:Nat) (a0_0:Int) (a0_1:Int) (A0_2:Option Addr) (c0_2:Nat) (l0_2:List (S42)) (A0_3:Option Addr) (c0_3:Nat) (l0_3:List Int) (A0_4:Option Addr) (c0_4:Nat) (l0_4:List Int) (r1:Int) (r2:Int) (r3:List (S42)) (r4:Bool) (w:World) (hr0_2:Kd.C k42 w A0_2 l0_2.length l0_2) (hc0_2:l0_2.length ≤ c0_2) (hr0_3:Kd.C (Kd.int .i64) w A0_3 l0_3.length l0_3) (hc0_3:l0_3.length ≤ c0_3) (hr0_4:Kd.C (Kd.int .i64) w A0_4 l0_4.length l0_4) (hc0_4:l0_4.length ≤ c0_4) (h:spec_FirstSolution.f k a0_0 a0_1 l0_2 l0_3 l0_4 = some (r1,r2,r3,r4)) :
    Calls Try.prog 11 #[.agg #[.int .i64 a0_0,.int .i64 a0_1,.slice A0_2 l0_2.length c0_2,.slice A0_3 l0_3.length c0_3,.slice A0_4 l0_4.length c0_4]] w fun e w'=>∃ v2_:Value,e = .returned (.tuple #[.agg #[.int .i64 r1,.int .i64 r2,v2_],.bool r4])∧Kd.R k42 42 w' w.heap.size (fun _=>True) v2_ r3∧Below w.heap.size w w':=by
 have S:=St.init (w:=w) (dc k42_heap at42 hr0_2 hc0_2 (dc (Kd.heap_int .i64) (atI .i64) hr0_3 hc0_3 (dc (Kd.heap_int .i64) (atI .i64) hr0_4 hc0_4 dn)))
 clear hr0_2 hc0_2 hr0_3 hc0_3 hr0_4 hc0_4
 have F:=S.fc
 have H:=h;clear h;unfold spec_FirstSolution.f at H
 replace H:=Option.bind_eq_some_iff.mp H;obtain ⟨t634,A2,H⟩:=H;(try dsimp only at H)
 replace H:=sp_ H;rcases H with ⟨c3,H⟩ | ⟨c3,H⟩
 · skip
   subst c3
   replace H:=Option.bind_eq_some_iff.mp H;obtain ⟨⟨t635,t638,t639⟩,A4,H⟩:=H;(try dsimp only at H)
   replace H:=sp_ H;rcases H with ⟨c5,H⟩ | ⟨c5,H⟩
   · skip
     simp only [Option.some.injEq,Prod.mk.injEq] at H
     obtain ⟨rfl,rfl,rfl,rfl⟩:=H
     go_enter Try.func11,Try.ntmps11
     go_wp2_with (first | ((with_reducible refine gd 1 rfl (L ?_));refine bo 1 (.agg #[_,_,_,_,_]) S ?_;clear S F;intro gb632 W S;have F:=S.fc) | ((with_reducible refine gd 2 rfl (L ?_));refine al 2 S zi30 ?_;clear S F;intro gb633 W S;have F:=S.fc) | ((with_reducible refine gate_callee (f:=93) rfl (L ?_));refine cl (some 8) Try.func93 (spec_syGood.calls _ _ _ _ _ _ _ _ _ _ _ _ _ _ S.c S.n S.c S.n S.c S.n A2) (hargs:=by (simp only [ma_,mb_,mc_,F] <;> rfl)) (h:=?_);rintro e W ⟨rfl,hb⟩;refine ⟨_,rfl,?_⟩;replace S:=S.go hb;clear F hb;have F:=S.fc) | ((with_reducible refine gate_callee (f:=94) rfl (L ?_));refine cl (some 13) Try.func94 (spec_syCount.calls _ _ _ _ _ _ _ _ _ _ _ _ _ _ _ _ S.c S.n S.c S.n S.c S.n A4) (hargs:=by (simp only [ma_,mb_,mc_,F] <;> rfl)) (h:=?_);rintro e W ⟨v636,rfl,ho0,hb⟩;refine ⟨_,rfl,?_⟩;replace S:=S.got (atI .i64) hb ho0;obtain ⟨At635,ct635,rfl,S⟩:=S;clear F hb ho0;have F:=S.fc) | ((with_reducible refine gs (t:=30) rfl (L ?_));(first | refine sb (.agg #[_,_,_]) S sz30 ?_ | refine ro (.agg #[_,_,_]) S sz30 ?_ (ho:=rfl) (hx:=rfl) (hy:=rfl));(clear S F;intro W S;have F:=S.fc)))
     refine bodyPost_ret (results_ct rfl _ _ gb633 30 #[.int .i64 0,.int .i64 0,.slice none 0 0] (0,0) _ rfl S.hb Try.underlying30 rfl (by kernel_rfl)) rfl ?_
     exact ⟨_,(by first | rfl | (simp [e0_,e1_] <;> rfl) | (simp [*,e0_,e1_] <;> rfl)),(by first | exact S.r | exact Kd.R_nil _ _ _ _ _),S.below⟩
   · skip
     replace H:=Option.bind_eq_some_iff.mp H;obtain ⟨⟨t640,t641,t642⟩,A14,H⟩:=H;(try dsimp only at H)
     simp only [Option.some.injEq,Prod.mk.injEq] at H
     obtain ⟨rfl,rfl,rfl,rfl⟩:=H
     go_enter Try.func11,Try.ntmps11
     go_wp2_with (first | ((with_reducible refine gd 1 rfl (L ?_));refine bo 1 (.agg #[_,_,_,_,_]) S ?_;clear S F;intro gb632 W S;have F:=S.fc) | ((with_reducible refine gd 2 rfl (L ?_));refine al 2 S zi30 ?_;clear S F;intro gb633 W S;have F:=S.fc) | ((with_reducible refine gate_callee (f:=93) rfl (L ?_));refine cl (some 8) Try.func93 (spec_syGood.calls _ _ _ _ _ _ _ _ _ _ _ _ _ _ S.c S.n S.c S.n S.c S.n A2) (hargs:=by (simp only [ma_,mb_,mc_,F] <;> rfl)) (h:=?_);rintro e W ⟨rfl,hb⟩;refine ⟨_,rfl,?_⟩;replace S:=S.go hb;clear F hb;have F:=S.fc) | ((with_reducible refine gate_callee (f:=94) rfl (L ?_));refine cl (some 13) Try.func94 (spec_syCount.calls _ _ _ _ _ _ _ _ _ _ _ _ _ _ _ _ S.c S.n S.c S.n S.c S.n A4) (hargs:=by (simp only [ma_,mb_,mc_,F] <;> rfl)) (h:=?_);rintro e W ⟨v636,rfl,ho0,hb⟩;refine ⟨_,rfl,?_⟩;replace S:=S.got (atI .i64) hb ho0;obtain ⟨At635,ct635,rfl,S⟩:=S;clear F hb ho0;have F:=S.fc) | ((with_reducible refine gate_callee (f:=95) rfl (L ?_));refine cl (some 22) Try.func95 (spec_syBoard.calls _ _ _ _ _ _ _ _ _ _ _ _ _ _ _ _ _ S.c S.n S.c S.n S.c S.n A14) (hargs:=by (simp only [ma_,mb_,mc_,F] <;> rfl)) (h:=?_);rintro e W ⟨v643,rfl,ho0,hb⟩;refine ⟨_,rfl,?_⟩;replace S:=S.got at42 hb ho0;obtain ⟨At642,ct642,rfl,S⟩:=S;clear F hb ho0;have F:=S.fc) | ((with_reducible refine gs (t:=30) rfl (L ?_));(first | refine sb (.agg #[_,_,_]) S sz30 ?_ | refine ro (.agg #[_,_,_]) S sz30 ?_ (ho:=rfl) (hx:=rfl) (hy:=rfl));(clear S F;intro W S;have F:=S.fc)))
     refine bodyPost_ret (results_ct rfl _ _ gb633 30 #[.int .i64 t640,.int .i64 t641,.slice At642 t642.length ct642] (0,0) _ rfl S.hb Try.underlying30 rfl (by kernel_rfl)) rfl ?_
     exact ⟨_,(by first | rfl | (simp [e0_,e1_] <;> rfl) | (simp [*,e0_,e1_] <;> rfl)),(by first | exact S.r | exact Kd.R_nil _ _ _ _ _),S.below⟩
 · skip
   replace c3:=cbf c3;subst c3
   simp only [Option.some.injEq,Prod.mk.injEq] at H
   obtain ⟨rfl,rfl,rfl,rfl⟩:=H
   go_enter Try.func11,Try.ntmps11
   go_wp2_with (first | ((with_reducible refine gd 1 rfl (L ?_));refine bo 1 (.agg #[_,_,_,_,_]) S ?_;clear S F;intro gb632 W S;have F:=S.fc) | ((with_reducible refine gd 2 rfl (L ?_));refine al 2 S zi30 ?_;clear S F;intro gb633 W S;have F:=S.fc) | ((with_reducible refine gate_callee (f:=93) rfl (L ?_));refine cl (some 8) Try.func93 (spec_syGood.calls _ _ _ _ _ _ _ _ _ _ _ _ _ _ S.c S.n S.c S.n S.c S.n A2) (hargs:=by (simp only [ma_,mb_,mc_,F] <;> rfl)) (h:=?_);rintro e W ⟨rfl,hb⟩;refine ⟨_,rfl,?_⟩;replace S:=S.go hb;clear F hb;have F:=S.fc) | ((with_reducible refine gs (t:=30) rfl (L ?_));(first | refine sb (.agg #[_,_,_]) S sz30 ?_ | refine ro (.agg #[_,_,_]) S sz30 ?_ (ho:=rfl) (hx:=rfl) (hy:=rfl));(clear S F;intro W S;have F:=S.fc)))
   refine bodyPost_ret (results_ct rfl _ _ gb633 30 #[.int .i64 0,.int .i64 0,.slice none 0 0] (0,0) _ rfl S.hb Try.underlying30 rfl (by kernel_rfl)) rfl ?_
   exact ⟨_,(by first | rfl | (simp [e0_,e1_] <;> rfl) | (simp [*,e0_,e1_] <;> rfl)),(by first | exact S.r | exact Kd.R_nil _ _ _ _ _),S.below⟩

/-! ### impl_countSolutions: function 96 -/
def impl_countSolutions.l0:Nat→Int→Int→Int→Int→List (S42)→List Int→List Int→Option (Int)
 | 0,_,_,_,_,_,_,_=>none
 | k + 1,x3,x10,x646000,x646001,x646002,x646003,x646004=>(impl_boardsTried.f k x646000 x646001 x646002 x646003 x646004).bind fun t646=>(if x10 < t646 then ((impl_boardOf.f k x646000 x646001 x646002 x646003 x646004 x10).bind fun bt647=>((impl_hasEnds.f k x646000 x646001 x646002 x646003 x646004 bt647.1 bt647.2.1 bt647.2.2).bind fun t653=>(if t653 = true then (impl_countSolutions.l0 k (wrap64 (x3 + 1)) (wrap64 (x10 + 1)) x646000 x646001 x646002 x646003 x646004) else (impl_countSolutions.l0 k x3 (wrap64 (x10 + 1)) x646000 x646001 x646002 x646003 x646004)))) else (some x3))
def impl_countSolutions.f (k:Nat) (a0_0:Int) (a0_1:Int) (l0_2:List (S42)) (l0_3:List Int) (l0_4:List Int):Option (Int):=impl_countSolutions.l0 k 0 0 a0_0 a0_1 l0_2 l0_3 l0_4
theorem count_fold (r c:Int) (p:List S42) (e ns:List Int):∀ (k:Nat) (s n q:Int),impl_countSolutions.l0 k s n r c p e ns = some q→solFold (fun _ s _ _ _=>some (wrap64 (s + 1),true)) r c p e ns k n s = some (q,true)
 | 0,_,_,_,h=>by simp [impl_countSolutions.l0] at h
 | k + 1,s,n,q,h=>by
  simp only [impl_countSolutions.l0] at h
  simp only [solFold]
  obtain ⟨t,h1,h⟩:=Option.bind_eq_some_iff.mp h
  rw [h1]
  simp only [Option.bind_some]
  split at h
  · rename_i ct
    rw [if_pos ct]
    obtain ⟨b,h2,h⟩:=Option.bind_eq_some_iff.mp h
    obtain ⟨y,h3,h⟩:=Option.bind_eq_some_iff.mp h
    rw [h2]
    simp only [Option.bind_some]
    rw [h3]
    simp only [Option.bind_some]
    split at h
    · rename_i cy
      rw [if_pos cy,if_pos trivial]
      exact count_fold r c p e ns k _ _ _ h
    · rename_i cy
      rw [if_neg cy]
      exact count_fold r c p e ns k _ _ _ h
  · rename_i ct
    rw [if_neg ct]
    cases h;rfl
theorem impl_countSolutions.calls (k:Nat) (a0_0:Int) (a0_1:Int) (A0_2:Option Addr) (c0_2:Nat) (l0_2:List (S42)) (A0_3:Option Addr) (c0_3:Nat) (l0_3:List Int) (A0_4:Option Addr) (c0_4:Nat) (l0_4:List Int) (r:Int) (w:World) (hr0_2:Kd.C k42 w A0_2 l0_2.length l0_2) (hc0_2:l0_2.length ≤ c0_2) (hr0_3:Kd.C (Kd.int .i64) w A0_3 l0_3.length l0_3) (hc0_3:l0_3.length ≤ c0_3) (hr0_4:Kd.C (Kd.int .i64) w A0_4 l0_4.length l0_4) (hc0_4:l0_4.length ≤ c0_4) (h:impl_countSolutions.f k a0_0 a0_1 l0_2 l0_3 l0_4 = some r) :
  Calls Try.prog 96 #[.agg #[.int .i64 a0_0,.int .i64 a0_1,.slice A0_2 l0_2.length c0_2,.slice A0_3 l0_3.length c0_3,.slice A0_4 l0_4.length c0_4]] w fun e w'=>e = .returned (.int .i64 r)∧Below w.heap.size w w':=by
 replace h:=count_fold _ _ _ _ _ k _ _ _ h
 have S:=St.init (w:=w) (dc k42_heap at42 hr0_2 hc0_2 (dc (Kd.heap_int .i64) (atI .i64) hr0_3 hc0_3 (dc (Kd.heap_int .i64) (atI .i64) hr0_4 hc0_4 dn)))
 have F:=S.fc
 refine (callsIn_wide (n:=9)).1 ?_
 refine callsIn_of_wp_marks Try.func96 rfl trivial ?_ rfl
 simp only [Try.ntmps96,List.size_toArray,List.length_cons,List.length_nil,Nat.reduceAdd,Nat.reduceSub,Array.replicate_succ,Array.replicate_zero,List.push_toArray,List.append_toArray,List.nil_append,List.cons_append]
 refine wpIn_wide.2 ?_
 go_wp2_with (first | ((with_reducible refine gd 1 rfl (L ?_));refine bo 1 (.agg #[_,_,_,_,_]) S ?_;clear S F;intro gb W S;have F:=S.fc) | ((with_reducible refine gd 3 rfl (L ?_));refine al 3 S zi3 ?_;clear S F;intro gn W S;have F:=S.fc) | ((with_reducible refine gs (t:=3) rfl (L ?_));(first | refine sb (.int .i64 _) S sz3 ?_ | refine ro (.int .i64 _) S sz3 ?_ (ho:=rfl) (hx:=rfl) (hy:=rfl));(clear S F;intro W S;have F:=S.fc)) | ((with_reducible refine gate_callee (f:=92) rfl (L ?_));have hgn:=bx_of S;refine cl (some 5) Try.func92 (impl_solutionsOf.calls _ _ _ _ _ _ _ _ _ _ _ W) (hargs:=by (simp only [ma_,mb_,mc_,F] <;> rfl)) (h:=?_);rintro e W2 ⟨gc,rfl,hgc,hge,hb⟩;refine ⟨_,rfl,?_⟩;replace S:=S.go hb;clear F hb;have F:=S.fc))
 (try simp only [Act.put,za_,zb_,zc_])
 have hB:=S.below
 have hgn2:=bx_of S
 have hlt:=blk_lt hgn2.1
 have hlc:=blk_lt hgc
 have hne:gc ≠ gn:=by have:=blk_lt hgn.1;omega
 have hsz:=hB.size
 clear F S hgn
 refine (wpIn_wide (n:=9)).1 ?_
 refine wpIn_folds (σ:=Int) (gf:=181) (lb:=#[.pointer (some ⟨gc,0,none⟩)]) (fin:=fun s' go=>(r,true) = (s',go)) (s0:=0) rfl (by decide) rfl trivial (enters_ Try.func181 (by kernel_rfl) rfl)
  (fun Wl hb hz=>sols_folds (fun _ s _ _ _=>some (wrap64 (s + 1),true)) _ k gc a0_0 a0_1 A0_2 c0_2 l0_2 A0_3 c0_3 l0_3 A0_4 c0_4 l0_4 0 (r,true) (fun j=>j = gn∨j = W2.heap.size + 1) 0 Wl (Nat.zero_le _) (fun W' hk=>?hq) hc0_2 hc0_3 hc0_4 h)
  kept_trans (fun W o _=>kept_put _ _ (.inr rfl)) (fun s args W s' go hR=>by obtain ⟨_,_,_,_,_,_,_,rfl,_⟩:=hR;rfl)
  (fun s W=>bxr gn 3 [.int .i64 s] W∧Below w.heap.size w W) (fun _ _ _=>False)
  (fun s W W' hs hg=>⟨bxr_grown hs.1 hg (by omega),hs.2.grown hg hs.2.size (fun k e=>by cases e;omega)⟩) (fun _ _ _ _ h _=>h)
  ⟨hgn2.1,hB⟩
  (fun s args a' s' go W=>(bxr gn 3 [.int .i64 s] W∧Below w.heap.size w W)∧s' = wrap64 (s + 1)∧go = true∧∃ v,a' = { tmps:=#[.agg #[.int .i64 a0_0,.int .i64 a0_1,.slice A0_2 l0_2.length c0_2,.slice A0_3 l0_3.length c0_3,.slice A0_4 l0_4.length c0_4],.pointer (some ⟨gb,0,none⟩),.int .i64 0,.pointer (some ⟨gn,0,none⟩),.agg #[.int .i64 a0_0,.int .i64 a0_1,.slice A0_2 l0_2.length c0_2,.slice A0_3 l0_3.length c0_3,.slice A0_4 l0_4.length c0_4],.func (.func 181) #[] #[.pointer (some ⟨gc,0,none⟩)],v,undef,undef,undef],defers:=[] }) ?hA ?assign ?body ?done ?stop
 case hq =>
  have key:∀ j,j < w.heap.size→W'.heap[j]? = w.heap[j]?:=fun j hj=>(hk.2 j (by have:=hb.size;omega) (by have:=hgn2.2;omega)).trans ((hb.block j (by omega)).trans (hB.block j hj))
  exact ⟨(hk.2 gc (by have:=hb.size;omega) (by omega)).trans ((hb.block gc hlc).trans hgc),k42_heap.C key hr0_2,(Kd.heap_int .i64).C key hr0_3,(Kd.heap_int .i64).C key hr0_4⟩
 case hA=>exact fun s args a' s' go _ W W' hs hg=>⟨⟨bxr_grown hs.1.1 hg (by omega),hs.1.2.grown hg hs.1.2.size (fun k e=>by cases e;omega)⟩,hs.2⟩
 case assign =>
  intro l s args W s' go K hz hi hR hK
  obtain ⟨_,bR,bC,bX,hst,A,cap,rfl,_⟩:=hR
  cases hst
  exact wpIn_skip (hK _ _ (KeepsFrom.refl _ _) (Kept.refl _ _) ⟨hi,rfl,rfl,.agg #[.int .i64 bR,.int .i64 bC,.slice A bX.length cap],by simp⟩)
 case body =>
  rintro l s args a' W s' go ⟨⟨hc,hB3⟩,rfl,rfl,v,rfl⟩
  have S:=St_box hB3 hgn2.2 hc dn
  have F:=S.fc
  refine wpIn_block (reg_in rfl (by rintro ⟨_,_,h⟩;exact h) ?_)
  go_wp2_with ((with_reducible refine gs (t:=3) rfl (L ?_));(first | refine sb (.int .i64 _) S sz3 ?_ | refine ro (.int .i64 _) S sz3 ?_ (ho:=rfl) (hx:=rfl) (hy:=rfl));(clear S F;intro W S;have F:=S.fc))
  exact ⟨rfl,keeps_of hc S.kept,S.kept.mono (fun _ h=>.inl h),bx_at S 0 rfl,S.below⟩
 case done =>
  rintro s' W hs ⟨hc,hB3⟩ hD
  cases hs
  have hcell:=(blk_cell hc 0).trans rfl
  go_wp2
  refine ⟨by simp,.inl ⟨_,_,rfl,run_takeDeferred hD,?_⟩⟩
  exact ⟨_,results_tmp rfl _ _ _,rfl,hB3.grown (grownBy_putObj' W _ _) hB3.size (fun k e=>by cases e;exact hsz)⟩
 case stop=>exact fun c s' W _ h _=>h.elim

/-! ### impl_LeastRows: function 12 -/
def impl_LeastRows.l0:Nat→Int→Int→Int→List (S42)→List Int→List Int→Int→Int→List (S42)→List Int→List Int→Option (Int × Bool)
  | 0,_,_,_,_,_,_,_,_,_,_,_=>none
  | k + 1,x5,x655000,x655001,x655002,x655003,x655004,x657000,x657001,x657002,x657003,x657004=>if x5 ≤ x655000 then ((impl_countSolutions.f k x5 x657001 x657002 x657003 x657004).bind fun t657=>(if t657 > 0 then (some (x5,true)) else (impl_LeastRows.l0 k (wrap64 (x5 + 1)) x655000 x655001 x655002 x655003 x655004 x5 x657001 x657002 x657003 x657004))) else (some (0,false))
def impl_LeastRows.f (k:Nat) (a0_0:Int) (a0_1:Int) (l0_2:List (S42)) (l0_3:List Int) (l0_4:List Int):Option (Int × Bool):=(impl_IsChallenge.f k a0_0 a0_1 l0_2 l0_3 l0_4).bind fun t655=>(if t655 = true then (impl_LeastRows.l0 k 1 a0_0 a0_1 l0_2 l0_3 l0_4 a0_0 a0_1 l0_2 l0_3 l0_4) else (some (0,false)))
theorem impl_LeastRows.calls (k:Nat) (a0_0:Int) (a0_1:Int) (A0_2:Option Addr) (c0_2:Nat) (l0_2:List (S42)) (A0_3:Option Addr) (c0_3:Nat) (l0_3:List Int) (A0_4:Option Addr) (c0_4:Nat) (l0_4:List Int) (r1:Int) (r2:Bool) (w:World) (hr0_2:Kd.C k42 w A0_2 l0_2.length l0_2) (hc0_2:l0_2.length ≤ c0_2) (hr0_3:Kd.C (Kd.int .i64) w A0_3 l0_3.length l0_3) (hc0_3:l0_3.length ≤ c0_3) (hr0_4:Kd.C (Kd.int .i64) w A0_4 l0_4.length l0_4) (hc0_4:l0_4.length ≤ c0_4) (h:impl_LeastRows.f k a0_0 a0_1 l0_2 l0_3 l0_4 = some (r1,r2)) :
    Calls Try.prog 12 #[.agg #[.int .i64 a0_0,.int .i64 a0_1,.slice A0_2 l0_2.length c0_2,.slice A0_3 l0_3.length c0_3,.slice A0_4 l0_4.length c0_4]] w fun e w'=>e = .returned (.tuple #[.int .i64 r1,.bool r2])∧Below w.heap.size w w':=by
 have S:=St.init (w:=w) (dc k42_heap at42 hr0_2 hc0_2 (dc (Kd.heap_int .i64) (atI .i64) hr0_3 hc0_3 (dc (Kd.heap_int .i64) (atI .i64) hr0_4 hc0_4 dn)))
 clear hr0_2 hc0_2 hr0_3 hc0_3 hr0_4 hc0_4
 have F:=S.fc
 have H:=h;clear h;unfold impl_LeastRows.f at H
 replace H:=Option.bind_eq_some_iff.mp H;obtain ⟨t655,A2,H⟩:=H;(try dsimp only at H)
 replace H:=sp_ H;rcases H with ⟨c3,H⟩ | ⟨c3,H⟩
 · skip
   subst c3
   go_enter Try.func12,Try.ntmps12
   go_wp2_with (first | ((with_reducible refine gd 1 rfl (L ?_));refine bo 1 (.agg #[_,_,_,_,_]) S ?_;clear S F;intro gb654 W S;have F:=S.fc) | ((with_reducible refine gate_callee (f:=37) rfl (L ?_));refine cl (some 7) Try.func37 (impl_IsChallenge.calls _ _ _ _ _ _ _ _ _ _ _ _ _ _ S.c S.n S.c S.n S.c S.n A2) (hargs:=by (simp only [ma_,mb_,mc_,F] <;> rfl)) (h:=?_);rintro e W ⟨rfl,hb⟩;refine ⟨_,rfl,?_⟩;replace S:=S.go hb;clear F hb;have F:=S.fc) | ((with_reducible refine gd 4 rfl (L ?_));refine al 4 S zi27 ?_;clear S F;intro gb656 W S;have F:=S.fc) | ((with_reducible refine gs (t:=3) rfl (L ?_));(first | refine sb (.int _ _) S sz3 ?_ | refine ro (.int _ _) S sz3 ?_ (ho:=rfl) (hx:=rfl) (hy:=rfl));(clear S F;intro W S;have F:=S.fc)) | ((with_reducible refine gs (t:=27) rfl (L ?_));(first | refine sb (.agg #[_,_,_,_,_]) S sz27 ?_ | refine ro (.agg #[_,_,_,_,_]) S sz27 ?_ (ho:=rfl) (hx:=rfl) (hy:=rfl));(clear S F;intro W S;have F:=S.fc)))
   go_loopg [5] k (fun kq v5 w'=>∃ (x5_1:Int) (x657000_1:Int),v5 = .int .i64 x5_1∧impl_LeastRows.l0 kq x5_1 a0_0 a0_1 l0_2 l0_3 l0_4 x657000_1 a0_1 l0_2 l0_3 l0_4 = some (r1,r2)∧kq ≤ k∧St w w (fun _=>False) [bor at42 A0_2 c0_2 l0_2,bor (atI .i64) A0_3 c0_3 l0_3,bor (atI .i64) A0_4 c0_4 l0_4] w'  [box gb656 27 [.int .i64 x657000_1,.int .i64 a0_1,.slice A0_2 l0_2.length c0_2,.slice A0_3 l0_3.length c0_3,.slice A0_4 l0_4.length c0_4],box gb654 27 [.int .i64 a0_0,.int .i64 a0_1,.slice A0_2 l0_2.length c0_2,.slice A0_3 l0_3.length c0_3,.slice A0_4 l0_4.length c0_4]])
   case atStart=>exact ⟨1,a0_0,(by first | rfl | (simp;done) | (simp [*];done) | (rw [w6_ (by omega) (by omega)])),H,Nat.le_refl _,S⟩
   case round =>
    clear H S F
    obtain ⟨x5_1,x657000_1,rfl,HA,HK1,S⟩:=hrel
    have F:=S.fc
    cases gk with
    | zero=>exact absurd HA (by simp [impl_LeastRows.l0])
    | succ k1 =>
     have H:=HA;clear HA;simp only [impl_LeastRows.l0,F] at H
     replace H:=sp_ H;rcases H with ⟨c11,H⟩ | ⟨c11,H⟩
     · skip
       replace H:=Option.bind_eq_some_iff.mp H;obtain ⟨t657,A12,H⟩:=H;(try dsimp only at H)
       replace H:=sp_ H;rcases H with ⟨c13,H⟩ | ⟨c13,H⟩
       · skip
         simp only [Option.some.injEq,Prod.mk.injEq] at H
         obtain ⟨rfl,rfl⟩:=H
         go_wp2_with (first | ((with_reducible refine gate_callee (f:=96) rfl (L ?_));refine cl (some 19) Try.func96 (impl_countSolutions.calls _ _ _ _ _ _ _ _ _ _ _ _ _ _ S.c S.n S.c S.n S.c S.n A12) (hargs:=by (simp only [ma_,mb_,mc_,F] <;> rfl)) (h:=?_);rintro e W ⟨rfl,hb⟩;refine ⟨_,rfl,?_⟩;replace S:=S.go hb;clear F hb;have F:=S.fc) | ((with_reducible refine gs (t:=3) rfl (L ?_));(first | refine sb (.int _ _) S sz3 ?_ | refine ro (.int _ _) S sz3 ?_ (ho:=rfl) (hx:=rfl) (hy:=rfl));(clear S F;intro W S;have F:=S.fc)) | ((with_reducible refine gs (t:=27) rfl (L ?_));(first | refine sb (.agg #[_,_,_,_,_]) S sz27 ?_ | refine ro (.agg #[_,_,_,_,_]) S sz27 ?_ (ho:=rfl) (hx:=rfl) (hy:=rfl));(clear S F;intro W S;have F:=S.fc)))
         go_ret2
         exact ⟨(by first | rfl | (simp [e0_,e1_] <;> rfl) | (simp [*,e0_,e1_] <;> rfl)),S.below⟩
       · skip
         go_wp2_with (first | ((with_reducible refine gate_callee (f:=96) rfl (L ?_));refine cl (some 19) Try.func96 (impl_countSolutions.calls _ _ _ _ _ _ _ _ _ _ _ _ _ _ S.c S.n S.c S.n S.c S.n A12) (hargs:=by (simp only [ma_,mb_,mc_,F] <;> rfl)) (h:=?_);rintro e W ⟨rfl,hb⟩;refine ⟨_,rfl,?_⟩;replace S:=S.go hb;clear F hb;have F:=S.fc) | ((with_reducible refine gs (t:=3) rfl (L ?_));(first | refine sb (.int _ _) S sz3 ?_ | refine ro (.int _ _) S sz3 ?_ (ho:=rfl) (hx:=rfl) (hy:=rfl));(clear S F;intro W S;have F:=S.fc)) | ((with_reducible refine gs (t:=27) rfl (L ?_));(first | refine sb (.agg #[_,_,_,_,_]) S sz27 ?_ | refine ro (.agg #[_,_,_,_,_]) S sz27 ?_ (ho:=rfl) (hx:=rfl) (hy:=rfl));(clear S F;intro W S;have F:=S.fc)))
         go_roundg k1
         case measure=>omega
         case rel=>exact ⟨(wrap64 (x5_1 + 1)),x5_1,(by first | rfl | (simp;done) | (simp [*];done) | (rw [w6_ (by omega) (by omega)])),H,(by first | omega | exact Nat.le_refl _),S⟩
     · skip
       simp only [Option.some.injEq,Prod.mk.injEq] at H
       obtain ⟨rfl,rfl⟩:=H
       go_wp2_with (first | ((with_reducible refine gs (t:=3) rfl (L ?_));(first | refine sb (.int _ _) S sz3 ?_ | refine ro (.int _ _) S sz3 ?_ (ho:=rfl) (hx:=rfl) (hy:=rfl));(clear S F;intro W S;have F:=S.fc)) | ((with_reducible refine gs (t:=27) rfl (L ?_));(first | refine sb (.agg #[_,_,_,_,_]) S sz27 ?_ | refine ro (.agg #[_,_,_,_,_]) S sz27 ?_ (ho:=rfl) (hx:=rfl) (hy:=rfl));(clear S F;intro W S;have F:=S.fc)))
       go_ret2
       exact ⟨(by first | rfl | (simp [e0_,e1_] <;> rfl) | (simp [*,e0_,e1_] <;> rfl)),S.below⟩
 · skip
   replace c3:=cbf c3;subst c3
   simp only [Option.some.injEq,Prod.mk.injEq] at H
   obtain ⟨rfl,rfl⟩:=H
   go_enter Try.func12,Try.ntmps12
   go_wp2_with (first | ((with_reducible refine gd 1 rfl (L ?_));refine bo 1 (.agg #[_,_,_,_,_]) S ?_;clear S F;intro gb654 W S;have F:=S.fc) | ((with_reducible refine gate_callee (f:=37) rfl (L ?_));refine cl (some 7) Try.func37 (impl_IsChallenge.calls _ _ _ _ _ _ _ _ _ _ _ _ _ _ S.c S.n S.c S.n S.c S.n A2) (hargs:=by (simp only [ma_,mb_,mc_,F] <;> rfl)) (h:=?_);rintro e W ⟨rfl,hb⟩;refine ⟨_,rfl,?_⟩;replace S:=S.go hb;clear F hb;have F:=S.fc) | ((with_reducible refine gs (t:=3) rfl (L ?_));(first | refine sb (.int _ _) S sz3 ?_ | refine ro (.int _ _) S sz3 ?_ (ho:=rfl) (hx:=rfl) (hy:=rfl));(clear S F;intro W S;have F:=S.fc)) | ((with_reducible refine gs (t:=27) rfl (L ?_));(first | refine sb (.agg #[_,_,_,_,_]) S sz27 ?_ | refine ro (.agg #[_,_,_,_,_]) S sz27 ?_ (ho:=rfl) (hx:=rfl) (hy:=rfl));(clear S F;intro W S;have F:=S.fc)))
   go_ret2
   exact ⟨(by first | rfl | (simp [e0_,e1_] <;> rfl) | (simp [*,e0_,e1_] <;> rfl)),S.below⟩

/-! ### spec_syCan: function 97 -/
def spec_syCan.l0:Nat→Int→Int→Int→List (S42)→List Int→List Int→Option (Bool)
  | 0,_,_,_,_,_,_=>none
  | k + 1,x3,x659000,x659001,x659002,x659003,x659004=>(spec_syTried.f k x659000 x659001 x659002 x659003 x659004).bind fun t659=>(if x3 < t659 then ((spec_syBoard.f k x659000 x659001 x659002 x659003 x659004 x3).bind fun bt660=>((spec_syMeets.f k x659000 x659001 x659002 x659003 x659004 bt660.1 bt660.2.1 bt660.2.2).bind fun t665=>(if t665 = true then (some true) else (spec_syCan.l0 k (wrap64 (x3 + 1)) x659000 x659001 x659002 x659003 x659004)))) else (some false))
def spec_syCan.f (k:Nat) (a0_0:Int) (a0_1:Int) (l0_2:List (S42)) (l0_3:List Int) (l0_4:List Int):Option (Bool):=spec_syCan.l0 k 0 a0_0 a0_1 l0_2 l0_3 l0_4
theorem spec_syCan.calls (k:Nat) (a0_0:Int) (a0_1:Int) (A0_2:Option Addr) (c0_2:Nat) (l0_2:List (S42)) (A0_3:Option Addr) (c0_3:Nat) (l0_3:List Int) (A0_4:Option Addr) (c0_4:Nat) (l0_4:List Int) (r:Bool) (w:World) (hr0_2:Kd.C k42 w A0_2 l0_2.length l0_2) (hc0_2:l0_2.length ≤ c0_2) (hr0_3:Kd.C (Kd.int .i64) w A0_3 l0_3.length l0_3) (hc0_3:l0_3.length ≤ c0_3) (hr0_4:Kd.C (Kd.int .i64) w A0_4 l0_4.length l0_4) (hc0_4:l0_4.length ≤ c0_4) (h:spec_syCan.f k a0_0 a0_1 l0_2 l0_3 l0_4 = some r) :
    Calls Try.prog 97 #[.agg #[.int .i64 a0_0,.int .i64 a0_1,.slice A0_2 l0_2.length c0_2,.slice A0_3 l0_3.length c0_3,.slice A0_4 l0_4.length c0_4]] w fun e w'=>e = .returned (.bool r)∧Below w.heap.size w w':=by
 have S:=St.init (w:=w) (dc k42_heap at42 hr0_2 hc0_2 (dc (Kd.heap_int .i64) (atI .i64) hr0_3 hc0_3 (dc (Kd.heap_int .i64) (atI .i64) hr0_4 hc0_4 dn)))
 clear hr0_2 hc0_2 hr0_3 hc0_3 hr0_4 hc0_4
 have F:=S.fc
 have H:=h;clear h;unfold spec_syCan.f at H
 go_enter Try.func97,Try.ntmps97
 go_wp2_with (first | ((with_reducible refine gd 1 rfl (L ?_));refine bo 1 (.agg #[_,_,_,_,_]) S ?_;clear S F;intro gb658 W S;have F:=S.fc))
 go_loopg [3] k (fun kq v3 w'=>∃ (x3_1:Int),v3 = .int .i64 x3_1∧spec_syCan.l0 kq x3_1 a0_0 a0_1 l0_2 l0_3 l0_4 = some r∧kq ≤ k∧St w w (fun _=>False) [bor at42 A0_2 c0_2 l0_2,bor (atI .i64) A0_3 c0_3 l0_3,bor (atI .i64) A0_4 c0_4 l0_4] w'  [box gb658 27 [.int .i64 a0_0,.int .i64 a0_1,.slice A0_2 l0_2.length c0_2,.slice A0_3 l0_3.length c0_3,.slice A0_4 l0_4.length c0_4]])
 case atStart=>exact ⟨0,(by first | rfl | (simp;done) | (simp [*];done) | (rw [w6_ (by omega) (by omega)])),H,Nat.le_refl _,S⟩
 case round =>
  clear H S F
  obtain ⟨x3_1,rfl,HA,HK1,S⟩:=hrel
  have F:=S.fc
  cases gk with
  | zero=>exact absurd HA (by simp [spec_syCan.l0])
  | succ k1 =>
   have H:=HA;clear HA;simp only [spec_syCan.l0,F] at H
   replace H:=Option.bind_eq_some_iff.mp H;obtain ⟨t659,A3,H⟩:=H;(try dsimp only at H)
   replace H:=sp_ H;rcases H with ⟨c4,H⟩ | ⟨c4,H⟩
   · skip
     replace H:=Option.bind_eq_some_iff.mp H;obtain ⟨⟨t660,t661,t662⟩,A5,H⟩:=H;(try dsimp only at H)
     replace H:=Option.bind_eq_some_iff.mp H;obtain ⟨t665,A6,H⟩:=H;(try dsimp only at H)
     replace H:=sp_ H;rcases H with ⟨c7,H⟩ | ⟨c7,H⟩
     · skip
       subst c7
       obtain rfl:=Option.some.inj H
       go_wp2_with (first | ((with_reducible refine gate_callee (f:=129) rfl (L ?_));refine cl (some 6) Try.func129 (spec_syTried.calls _ _ _ _ _ _ _ _ _ _ _ _ _ _ S.c S.n S.c S.n S.c S.n A3) (hargs:=by (simp only [ma_,mb_,mc_,F] <;> rfl)) (h:=?_);rintro e W ⟨rfl,hb⟩;refine ⟨_,rfl,?_⟩;replace S:=S.go hb;clear F hb;have F:=S.fc))
       refine rq S [(0,2),(1,0),(1,1),(2,3),(2,4)] [] (h:=?_);clear S F;intro W S;have S0:=S;have F:=S.fc
       repeat (first | (refine q0 (h:=?_)) | (refine q1 S0 (h:=?_)) | (refine q0n (h:=?_)) | (refine q1n S0 (h:=?_)))
       refine lk2 (by rfl) (by exact (Eq.refl true)) ?_;refine cl (some 13) Try.func95 (spec_syBoard.calls _ _ _ _ _ _ _ _ _ _ _ _ _ _ _ _ _ S.c S.n S.c S.n S.c S.n A5) (hargs:=by (simp only [ma_,mb_,mc_,F] <;> rfl)) (h:=?_);rintro e W ⟨v663,rfl,ho0,hb⟩;refine ⟨_,rfl,?_⟩;replace S:=S.got at42 hb ho0;obtain ⟨At662,ct662,rfl,S⟩:=S;clear F hb ho0;have F:=S.fc
       clear S0;have S0:=S.tl;refine ⟨S0,?_⟩
       refine lk2 (by rfl) (by exact (Eq.refl true)) ?_;refine cl (some 14) Try.func138 (spec_syMeets.calls _ _ _ _ _ _ _ _ _ _ _ _ _ _ _ _ _ _ _ S.c S.n S.c S.n S.c S.n S.c S.n A6) (hargs:=by (simp only [ma_,mb_,mc_,F] <;> rfl)) (h:=?_);rintro e W ⟨rfl,hb⟩;refine ⟨_,rfl,?_⟩;replace S:=S.go hb;clear F hb;have F:=S.fc
       clear S0;have S0:=S.tl;refine ⟨S0,?_⟩
       refine oz ?_
       try clear S0
       try go_wp2
       go_ret
       exact ⟨(by first | rfl | (simp [e0_,e1_] <;> rfl) | (simp [*,e0_,e1_] <;> rfl)),S.below⟩
     · skip
       replace c7:=cbf c7;subst c7
       go_wp2_with (first | ((with_reducible refine gate_callee (f:=129) rfl (L ?_));refine cl (some 6) Try.func129 (spec_syTried.calls _ _ _ _ _ _ _ _ _ _ _ _ _ _ S.c S.n S.c S.n S.c S.n A3) (hargs:=by (simp only [ma_,mb_,mc_,F] <;> rfl)) (h:=?_);rintro e W ⟨rfl,hb⟩;refine ⟨_,rfl,?_⟩;replace S:=S.go hb;clear F hb;have F:=S.fc))
       refine rq S [(0,2),(1,0),(1,1),(2,3),(2,4)] [] (h:=?_);clear S F;intro W S;have S0:=S;have F:=S.fc
       repeat (first | (refine q0 (h:=?_)) | (refine q1 S0 (h:=?_)) | (refine q0n (h:=?_)) | (refine q1n S0 (h:=?_)))
       refine lk2 (by rfl) (by exact (Eq.refl true)) ?_;refine cl (some 13) Try.func95 (spec_syBoard.calls _ _ _ _ _ _ _ _ _ _ _ _ _ _ _ _ _ S.c S.n S.c S.n S.c S.n A5) (hargs:=by (simp only [ma_,mb_,mc_,F] <;> rfl)) (h:=?_);rintro e W ⟨v663,rfl,ho0,hb⟩;refine ⟨_,rfl,?_⟩;replace S:=S.got at42 hb ho0;obtain ⟨At662,ct662,rfl,S⟩:=S;clear F hb ho0;have F:=S.fc
       clear S0;have S0:=S.tl;refine ⟨S0,?_⟩
       refine lk2 (by rfl) (by exact (Eq.refl true)) ?_;refine cl (some 14) Try.func138 (spec_syMeets.calls _ _ _ _ _ _ _ _ _ _ _ _ _ _ _ _ _ _ _ S.c S.n S.c S.n S.c S.n S.c S.n A6) (hargs:=by (simp only [ma_,mb_,mc_,F] <;> rfl)) (h:=?_);rintro e W ⟨rfl,hb⟩;refine ⟨_,rfl,?_⟩;replace S:=S.go hb;clear F hb;have F:=S.fc
       clear S0;have S0:=S.tl;refine ⟨S0,?_⟩
       refine oz ?_
       try clear S0
       try go_wp2
       go_roundg k1
       case measure=>omega
       case rel=>exact ⟨(wrap64 (x3_1 + 1)),(by first | rfl | (simp;done) | (simp [*];done) | (rw [w6_ (by omega) (by omega)])),H,(by first | omega | exact Nat.le_refl _),S.tl⟩
   · skip
     obtain rfl:=Option.some.inj H
     go_wp2_with (first | ((with_reducible refine gate_callee (f:=129) rfl (L ?_));refine cl (some 6) Try.func129 (spec_syTried.calls _ _ _ _ _ _ _ _ _ _ _ _ _ _ S.c S.n S.c S.n S.c S.n A3) (hargs:=by (simp only [ma_,mb_,mc_,F] <;> rfl)) (h:=?_);rintro e W ⟨rfl,hb⟩;refine ⟨_,rfl,?_⟩;replace S:=S.go hb;clear F hb;have F:=S.fc))
     go_ret
     exact ⟨(by first | rfl | (simp [e0_,e1_] <;> rfl) | (simp [*,e0_,e1_] <;> rfl)),S.below⟩

/-! ### spec_LeastRows: function 13 -/
def spec_LeastRows.l0:Nat→Int→Int→Int→Int→List (S42)→List Int→List Int→Option (Int × Bool)
  | 0,_,_,_,_,_,_,_=>none
  | k + 1,x4,x5,x667000,x667001,x667002,x667003,x667004=>if x5 ≤ x4 then ((spec_syCan.f k x5 x667001 x667002 x667003 x667004).bind fun t668=>(if t668 = true then (some (x5,true)) else (spec_LeastRows.l0 k x4 (wrap64 (x5 + 1)) x5 x667001 x667002 x667003 x667004))) else (some (0,false))
def spec_LeastRows.f (k:Nat) (a0_0:Int) (a0_1:Int) (l0_2:List (S42)) (l0_3:List Int) (l0_4:List Int):Option (Int × Bool):=(spec_syGood.f k a0_0 a0_1 l0_2 l0_3 l0_4).bind fun t667=>(if t667 = true then (spec_LeastRows.l0 k a0_0 1 a0_0 a0_1 l0_2 l0_3 l0_4) else (some (0,false)))
theorem spec_LeastRows.calls (k:Nat) (a0_0:Int) (a0_1:Int) (A0_2:Option Addr) (c0_2:Nat) (l0_2:List (S42)) (A0_3:Option Addr) (c0_3:Nat) (l0_3:List Int) (A0_4:Option Addr) (c0_4:Nat) (l0_4:List Int) (r1:Int) (r2:Bool) (w:World) (hr0_2:Kd.C k42 w A0_2 l0_2.length l0_2) (hc0_2:l0_2.length ≤ c0_2) (hr0_3:Kd.C (Kd.int .i64) w A0_3 l0_3.length l0_3) (hc0_3:l0_3.length ≤ c0_3) (hr0_4:Kd.C (Kd.int .i64) w A0_4 l0_4.length l0_4) (hc0_4:l0_4.length ≤ c0_4) (h:spec_LeastRows.f k a0_0 a0_1 l0_2 l0_3 l0_4 = some (r1,r2)) :
    Calls Try.prog 13 #[.agg #[.int .i64 a0_0,.int .i64 a0_1,.slice A0_2 l0_2.length c0_2,.slice A0_3 l0_3.length c0_3,.slice A0_4 l0_4.length c0_4]] w fun e w'=>e = .returned (.tuple #[.int .i64 r1,.bool r2])∧Below w.heap.size w w':=by
 have S:=St.init (w:=w) (dc k42_heap at42 hr0_2 hc0_2 (dc (Kd.heap_int .i64) (atI .i64) hr0_3 hc0_3 (dc (Kd.heap_int .i64) (atI .i64) hr0_4 hc0_4 dn)))
 clear hr0_2 hc0_2 hr0_3 hc0_3 hr0_4 hc0_4
 have F:=S.fc
 have H:=h;clear h;unfold spec_LeastRows.f at H
 replace H:=Option.bind_eq_some_iff.mp H;obtain ⟨t667,A2,H⟩:=H;(try dsimp only at H)
 replace H:=sp_ H;rcases H with ⟨c3,H⟩ | ⟨c3,H⟩
 · skip
   subst c3
   go_enter Try.func13,Try.ntmps13
   go_wp2_with (first | ((with_reducible refine gd 1 rfl (L ?_));refine bo 1 (.agg #[_,_,_,_,_]) S ?_;clear S F;intro gb666 W S;have F:=S.fc) | ((with_reducible refine gate_callee (f:=93) rfl (L ?_));refine cl (some 7) Try.func93 (spec_syGood.calls _ _ _ _ _ _ _ _ _ _ _ _ _ _ S.c S.n S.c S.n S.c S.n A2) (hargs:=by (simp only [ma_,mb_,mc_,F] <;> rfl)) (h:=?_);rintro e W ⟨rfl,hb⟩;refine ⟨_,rfl,?_⟩;replace S:=S.go hb;clear F hb;have F:=S.fc) | ((with_reducible refine gs (t:=3) rfl (L ?_));(first | refine sb (.int _ _) S sz3 ?_ | refine ro (.int _ _) S sz3 ?_ (ho:=rfl) (hx:=rfl) (hy:=rfl));(clear S F;intro W S;have F:=S.fc)))
   go_loopg [5] k (fun kq v5 w'=>∃ (x5_1:Int) (x667000_1:Int),v5 = .int .i64 x5_1∧spec_LeastRows.l0 kq a0_0 x5_1 x667000_1 a0_1 l0_2 l0_3 l0_4 = some (r1,r2)∧kq ≤ k∧St w w (fun _=>False) [bor at42 A0_2 c0_2 l0_2,bor (atI .i64) A0_3 c0_3 l0_3,bor (atI .i64) A0_4 c0_4 l0_4] w'  [box gb666 27 [.int .i64 x667000_1,.int .i64 a0_1,.slice A0_2 l0_2.length c0_2,.slice A0_3 l0_3.length c0_3,.slice A0_4 l0_4.length c0_4]])
   case atStart=>exact ⟨1,a0_0,(by first | rfl | (simp;done) | (simp [*];done) | (rw [w6_ (by omega) (by omega)])),H,Nat.le_refl _,S⟩
   case round =>
    clear H S F
    obtain ⟨x5_1,x667000_1,rfl,HA,HK1,S⟩:=hrel
    have F:=S.fc
    cases gk with
    | zero=>exact absurd HA (by simp [spec_LeastRows.l0])
    | succ k1 =>
     have H:=HA;clear HA;simp only [spec_LeastRows.l0,F] at H
     replace H:=sp_ H;rcases H with ⟨c8,H⟩ | ⟨c8,H⟩
     · skip
       replace H:=Option.bind_eq_some_iff.mp H;obtain ⟨t668,A9,H⟩:=H;(try dsimp only at H)
       replace H:=sp_ H;rcases H with ⟨c10,H⟩ | ⟨c10,H⟩
       · skip
         subst c10
         simp only [Option.some.injEq,Prod.mk.injEq] at H
         obtain ⟨rfl,rfl⟩:=H
         go_wp2_with (first | ((with_reducible refine gate_callee (f:=97) rfl (L ?_));refine cl (some 19) Try.func97 (spec_syCan.calls _ _ _ _ _ _ _ _ _ _ _ _ _ _ S.c S.n S.c S.n S.c S.n A9) (hargs:=by (simp only [ma_,mb_,mc_,F] <;> rfl)) (h:=?_);rintro e W ⟨rfl,hb⟩;refine ⟨_,rfl,?_⟩;replace S:=S.go hb;clear F hb;have F:=S.fc) | ((with_reducible refine gs (t:=3) rfl (L ?_));(first | refine sb (.int _ _) S sz3 ?_ | refine ro (.int _ _) S sz3 ?_ (ho:=rfl) (hx:=rfl) (hy:=rfl));(clear S F;intro W S;have F:=S.fc)))
         go_ret2
         exact ⟨(by first | rfl | (simp [e0_,e1_] <;> rfl) | (simp [*,e0_,e1_] <;> rfl)),S.below⟩
       · skip
         replace c10:=cbf c10;subst c10
         go_wp2_with (first | ((with_reducible refine gate_callee (f:=97) rfl (L ?_));refine cl (some 19) Try.func97 (spec_syCan.calls _ _ _ _ _ _ _ _ _ _ _ _ _ _ S.c S.n S.c S.n S.c S.n A9) (hargs:=by (simp only [ma_,mb_,mc_,F] <;> rfl)) (h:=?_);rintro e W ⟨rfl,hb⟩;refine ⟨_,rfl,?_⟩;replace S:=S.go hb;clear F hb;have F:=S.fc) | ((with_reducible refine gs (t:=3) rfl (L ?_));(first | refine sb (.int _ _) S sz3 ?_ | refine ro (.int _ _) S sz3 ?_ (ho:=rfl) (hx:=rfl) (hy:=rfl));(clear S F;intro W S;have F:=S.fc)))
         go_roundg k1
         case measure=>omega
         case rel=>exact ⟨(wrap64 (x5_1 + 1)),x5_1,(by first | rfl | (simp;done) | (simp [*];done) | (rw [w6_ (by omega) (by omega)])),H,(by first | omega | exact Nat.le_refl _),S⟩
     · skip
       simp only [Option.some.injEq,Prod.mk.injEq] at H
       obtain ⟨rfl,rfl⟩:=H
       go_wp2_with (first | ((with_reducible refine gs (t:=3) rfl (L ?_));(first | refine sb (.int _ _) S sz3 ?_ | refine ro (.int _ _) S sz3 ?_ (ho:=rfl) (hx:=rfl) (hy:=rfl));(clear S F;intro W S;have F:=S.fc)))
       go_ret2
       exact ⟨(by first | rfl | (simp [e0_,e1_] <;> rfl) | (simp [*,e0_,e1_] <;> rfl)),S.below⟩
 · skip
   replace c3:=cbf c3;subst c3
   simp only [Option.some.injEq,Prod.mk.injEq] at H
   obtain ⟨rfl,rfl⟩:=H
   go_enter Try.func13,Try.ntmps13
   go_wp2_with (first | ((with_reducible refine gd 1 rfl (L ?_));refine bo 1 (.agg #[_,_,_,_,_]) S ?_;clear S F;intro gb666 W S;have F:=S.fc) | ((with_reducible refine gate_callee (f:=93) rfl (L ?_));refine cl (some 7) Try.func93 (spec_syGood.calls _ _ _ _ _ _ _ _ _ _ _ _ _ _ S.c S.n S.c S.n S.c S.n A2) (hargs:=by (simp only [ma_,mb_,mc_,F] <;> rfl)) (h:=?_);rintro e W ⟨rfl,hb⟩;refine ⟨_,rfl,?_⟩;replace S:=S.go hb;clear F hb;have F:=S.fc) | ((with_reducible refine gs (t:=3) rfl (L ?_));(first | refine sb (.int _ _) S sz3 ?_ | refine ro (.int _ _) S sz3 ?_ (ho:=rfl) (hx:=rfl) (hy:=rfl));(clear S F;intro W S;have F:=S.fc)))
   go_ret2
   exact ⟨(by first | rfl | (simp [e0_,e1_] <;> rfl) | (simp [*,e0_,e1_] <;> rfl)),S.below⟩

/-! ### impl_UsefulParts: function 14 -/
mutual
def impl_UsefulParts.j0:Nat→Bool→Int→Int→List (S42)→List Int→List Int→Option (List Int × Bool)
 | 0,_,_,_,_,_,_=>none
 | k + 1,x14,x670000,x670001,x670002,x670003,x670004=>if x14 = true then (some (([]:List Int),false)) else (impl_UsefulParts.l0 k (([]:List Int)) (x670002.length:Int) 0 x670000 x670001 x670002 x670003 x670004)
def impl_UsefulParts.l0:Nat→List Int→Int→Int→Int→Int→List (S42)→List Int→List Int→Option (List Int × Bool)
 | 0,_,_,_,_,_,_,_,_=>none
 | k + 1,x4,x18,x19,x670000,x670001,x670002,x670003,x670004=>if x19 < x18 then ((some (([]:List (S42)):List (S42))).bind fun y676=>(if 0 ≤ x19 then (if x19 ≤ (x670002.length:Int) then ((some (x670002.take (x19:Int).toNat:List (S42))).bind fun y679=>(if y676.length + y679.length < 8796093022208 then ((some (y676 ++ y679:List (S42))).bind fun y683=>(if 0 ≤ (wrap64 (x19 + 1)) then (if (wrap64 (x19 + 1)) ≤ (x670002.length:Int) then ((some (x670002.drop ((wrap64 (x19 + 1)):Int).toNat:List (S42))).bind fun y686=>(if y683.length + y686.length < 8796093022208 then ((impl_countSolutions.f k x670000 x670001 (y683 ++ y686) x670003 x670004).bind fun t693=>(if t693 = 0 then (if x4.length < 17592186044416 then (impl_UsefulParts.l0 k (x4 ++ [x19]) x18 (wrap64 (x19 + 1)) x670000 x670001 x670002 x670003 x670004) else (none)) else (impl_UsefulParts.l0 k x4 x18 (wrap64 (x19 + 1)) x670000 x670001 x670002 x670003 x670004))) else (none))) else (none)) else (none))) else (none))) else (none)) else (none))) else (some (x4,true))
end
def impl_UsefulParts.f (k:Nat) (a0_0:Int) (a0_1:Int) (l0_2:List (S42)) (l0_3:List Int) (l0_4:List Int):Option (List Int × Bool):=(impl_IsChallenge.f k a0_0 a0_1 l0_2 l0_3 l0_4).bind fun t670=>(if t670 = true then ((impl_countSolutions.f k a0_0 a0_1 l0_2 l0_3 l0_4).bind fun t671=>(impl_UsefulParts.j0 k (t671 == 0) a0_0 a0_1 l0_2 l0_3 l0_4)) else (impl_UsefulParts.j0 k true a0_0 a0_1 l0_2 l0_3 l0_4))
def impl_UsefulParts.T8:Bool × List (List Nat × List Nat):=(true,[([],[]),([],[]),([1],[1]),([],[]),([2,3],[2,3]),([0,4],[0,4]),([],[]),([6],[6]),([],[]),([8],[8]),([7,9],[7,9]),([5,10,5],[5,10]),([0,1,2,3,4,5,6,7,8,9,10,11],[]),([12,11,11,0,1,2,3,4,5,6,7,8,9,10,11],[11,12])])
def impl_UsefulParts.B8:List Nat:=[0,0,2,0,14,31,0,64,0,256,960,2047,4095,8191]
theorem impl_UsefulParts.tab8:rtab .any (opsOf Try.f14 8) = impl_UsefulParts.T8:=by kernel_rfl
theorem impl_UsefulParts.bits8:waitsOk impl_UsefulParts.T8.2 impl_UsefulParts.B8 = true:=by kernel_rfl
theorem impl_UsefulParts.calls (k:Nat) (a0_0:Int) (a0_1:Int) (A0_2:Option Addr) (c0_2:Nat) (l0_2:List (S42)) (A0_3:Option Addr) (c0_3:Nat) (l0_3:List Int) (A0_4:Option Addr) (c0_4:Nat) (l0_4:List Int) (r1:List Int) (r2:Bool) (w:World) (hr0_2:Kd.C k42 w A0_2 l0_2.length l0_2) (hc0_2:l0_2.length ≤ c0_2) (hr0_3:Kd.C (Kd.int .i64) w A0_3 l0_3.length l0_3) (hc0_3:l0_3.length ≤ c0_3) (hr0_4:Kd.C (Kd.int .i64) w A0_4 l0_4.length l0_4) (hc0_4:l0_4.length ≤ c0_4) (h:impl_UsefulParts.f k a0_0 a0_1 l0_2 l0_3 l0_4 = some (r1,r2)) :
  Calls Try.prog 14 #[.agg #[.int .i64 a0_0,.int .i64 a0_1,.slice A0_2 l0_2.length c0_2,.slice A0_3 l0_3.length c0_3,.slice A0_4 l0_4.length c0_4]] w fun e w'=>∃ v0_:Value,e = .returned (.tuple #[v0_,.bool r2])∧Kd.R (Kd.int .i64) 3 w' w.heap.size (fun _=>True) v0_ r1∧Below w.heap.size w w':=by
 have HR0_2:=Aside0.mk hr0_2;have HC0_2:=Aside0.mk hc0_2;clear hr0_2 hc0_2;have HR0_3:=Aside0.mk hr0_3;have HC0_3:=Aside0.mk hc0_3;clear hr0_3 hc0_3;have HR0_4:=Aside0.mk hr0_4;have HC0_4:=Aside0.mk hc0_4;clear hr0_4 hc0_4;have HB:=Aside0.mk (Below.refl w.heap.size w);have H:((impl_IsChallenge.f k a0_0 a0_1 l0_2 l0_3 l0_4).bind fun t670=>(if t670 = true then ((impl_countSolutions.f k a0_0 a0_1 l0_2 l0_3 l0_4).bind fun t671=>(impl_UsefulParts.j0 k (t671 == 0) a0_0 a0_1 l0_2 l0_3 l0_4)) else (impl_UsefulParts.j0 k true a0_0 a0_1 l0_2 l0_3 l0_4))) = some (r1,r2):=h;clear h;have HC2:=Aside0.mk H;clear H;go_enter Try.func14,Try.ntmps14;go_upto_region 1 with (first | ((with_reducible refine gate_dst (N:=1) rfl ?_);refine box_event ?hg (N:=1) ?hd (cs:=#[.int .i64 a0_0,.int .i64 a0_1,.slice A0_2 l0_2.length c0_2,.slice A0_3 l0_3.length c0_3,.slice A0_4 l0_4.length c0_4]) (t:=27) ?hr ?_;(case hd=>rfl);(case hg=>rfl);(case hr=>first | (go_simp;done) | (go_simp;rfl));intro gb669 hg w3 hbox hb;refine ev4 (bs HB hb) (hbox) (gle hg HB) (gle hg HB) ?_;clear HB;intro HB BK669 GW669 GE669;clear hb hbox hg))
 (try simp only [Act.put,za_,zb_,zc_])
 go_cut [14] (fun v14 wc=>∃ (kq:Nat) (x14_1:Bool),v14 = .bool x14_1∧Aside0 (impl_UsefulParts.j0 kq x14_1 a0_0 a0_1 l0_2 l0_3 l0_4 = some (r1,r2))∧Aside0 (kq ≤ k)∧Aside0 (wc.heap[gb669]? = some (.cells #[.int .i64 a0_0,.int .i64 a0_1,(.slice A0_2 l0_2.length c0_2),(.slice A0_3 l0_3.length c0_3),(.slice A0_4 l0_4.length c0_4)] 27 (0,0)))∧Aside0 (Below w.heap.size w wc))
 case first =>
  have H:=HC2.out;clear HC2;replace H:=Option.bind_eq_some_iff.mp H;obtain ⟨t670,A40,H⟩:=H;(try dsimp only at H)
  have A4:=Aside0.mk A40;clear A40;by_cases c5:t670 = true
  ·subst c5;have H1:((impl_countSolutions.f k a0_0 a0_1 l0_2 l0_3 l0_4).bind fun t671=>(impl_UsefulParts.j0 k (t671 == 0) a0_0 a0_1 l0_2 l0_3 l0_4)) = some (r1,r2):=by rw [if_pos rfl] at H;exact H
   clear H;have H:=H1;clear H1;replace H:=Option.bind_eq_some_iff.mp H;obtain ⟨t671,A60,H⟩:=H;(try dsimp only at H)
   have A6:=Aside0.mk A60;clear A60;have H':=Aside0.mk H;clear H;obtain ⟨hcz7_0,hcz7_1,hcz7_2,hcz7_3,hcz7_4,hfz7_0,hfz7_1,hfz7_2,hfz7_3,hfz7_4⟩:=bt5 BK669;go_wp2_with (first | ((with_reducible refine gate_callee (f:=37) rfl ?_);refine gL_ (some 8) Try.func37 #[.agg #[.int .i64 a0_0,.int .i64 a0_1,.slice A0_2 l0_2.length c0_2,.slice A0_3 l0_3.length c0_3,.slice A0_4 l0_4.length c0_4]] (h:=?_);(with_reducible refine (impl_IsChallenge.calls k a0_0 a0_1 _ _ l0_2 _ _ l0_3 _ _ l0_4 true _ (Kd.C_mv (Kd.C_below HR0_2.out HB.out)) HC0_2.out (Kd.C_mv (Kd.C_below HR0_3.out HB.out)) HC0_3.out (Kd.C_mv (Kd.C_below HR0_4.out HB.out)) HC0_4.out A4.out).mono ?_);rintro e w8 ⟨rfl,hb⟩;refine ⟨_,rfl,?_⟩;refine ev2 (kb BK669 hb) (bs HB hb) ?_;clear BK669 HB;intro BK669 HB;(try clear hb);obtain ⟨hcz9_0,hcz9_1,hcz9_2,hcz9_3,hcz9_4,hfz9_0,hfz9_1,hfz9_2,hfz9_3,hfz9_4⟩:=bt5 BK669) | (go_at_call 96;(with_reducible refine (impl_countSolutions.calls k a0_0 a0_1 _ _ l0_2 _ _ l0_3 _ _ l0_4 t671 _ (Kd.C_mv (Kd.C_below HR0_2.out HB.out)) HC0_2.out (Kd.C_mv (Kd.C_below HR0_3.out HB.out)) HC0_3.out (Kd.C_mv (Kd.C_below HR0_4.out HB.out)) HC0_4.out A6.out).mono ?_);rintro e w10 ⟨rfl,hb⟩;refine ev2 (kb BK669 hb) (bs HB hb) ?_;clear BK669 HB;intro BK669 HB;(try clear hb)))
   go_meet
   case rel=>exact ⟨_,((t671 == 0)),(by first | rfl | (simp;done) | (simp [*];done)),H',⟨by first | omega | exact Nat.le_refl _⟩,⟨km_ BK669⟩,⟨bm HB⟩⟩
  ·replace c5:=Bool.eq_false_iff.mpr c5;subst c5;have H1:(impl_UsefulParts.j0 k true a0_0 a0_1 l0_2 l0_3 l0_4) = some (r1,r2):=by rw [if_neg (show ¬ (false = true) by decide)] at H;exact H
   clear H;have H:=H1;clear H1;have H':=Aside0.mk H;clear H;obtain ⟨hcz11_0,hcz11_1,hcz11_2,hcz11_3,hcz11_4,hfz11_0,hfz11_1,hfz11_2,hfz11_3,hfz11_4⟩:=bt5 BK669;go_wp2_with (first | ((with_reducible refine gate_callee (f:=37) rfl ?_);refine gL_ (some 8) Try.func37 #[.agg #[.int .i64 a0_0,.int .i64 a0_1,.slice A0_2 l0_2.length c0_2,.slice A0_3 l0_3.length c0_3,.slice A0_4 l0_4.length c0_4]] (h:=?_);(with_reducible refine (impl_IsChallenge.calls k a0_0 a0_1 _ _ l0_2 _ _ l0_3 _ _ l0_4 false _ (Kd.C_mv (Kd.C_below HR0_2.out HB.out)) HC0_2.out (Kd.C_mv (Kd.C_below HR0_3.out HB.out)) HC0_3.out (Kd.C_mv (Kd.C_below HR0_4.out HB.out)) HC0_4.out A4.out).mono ?_);rintro e w12 ⟨rfl,hb⟩;refine ⟨_,rfl,?_⟩;refine ev2 (kb BK669 hb) (bs HB hb) ?_;clear BK669 HB;intro BK669 HB;(try clear hb)))
   go_meet
   case rel=>exact ⟨_,(true),(by first | rfl | (simp;done) | (simp [*];done)),H',⟨by first | omega | exact Nat.le_refl _⟩,⟨km_ BK669⟩,⟨bm HB⟩⟩
 case rest =>
  clear HC2;(try clear c1);obtain ⟨kq,x14_1,rfl,HA,HJ1,BK669,HB⟩:=hcut;cases kq with
  | zero=>exact absurd HA.out (by simp [impl_UsefulParts.j0])
  | succ kj1 =>
   have H:=HA.out;clear HA;simp only [impl_UsefulParts.j0] at H;by_cases c13:x14_1 = true
   ·subst c13;have H1:(some (([]:List Int),false)) = some (r1,r2):=by rw [if_pos rfl] at H;exact H
    clear H;have H:=H1;clear H1;simp only [Option.some.injEq,Prod.mk.injEq] at H;obtain ⟨rfl,rfl⟩:=H;go_wp2;go_ret2
    exact ⟨_,by first | rfl | (simp [e0_,e1_] <;> rfl) | (simp [*,e0_,e1_] <;> rfl),by first | exact Kd.R_nil _ _ _ _ _ | exact Kd.N_nil _ _ _ _ _ | exact Kd.V_nil _ _ _ _ _ | exact Kd.Q_nil _ _ _ _ _ | exact Kd.S_nil _ _ _ _ _,bm HB⟩
   ·replace c13:=Bool.eq_false_iff.mpr c13;subst c13;have H1:(impl_UsefulParts.l0 kj1 (([]:List Int)) (l0_2.length:Int) 0 a0_0 a0_1 l0_2 l0_3 l0_4) = some (r1,r2):=by rw [if_neg (show ¬ (false = true) by decide)] at H;exact H
    clear H;have H:=H1;clear H1;obtain ⟨y672,hy672⟩:∃ y_:List Int,y_ = (([]:List Int)):=⟨_,rfl⟩
    replace H:(impl_UsefulParts.l0 kj1 y672 (l0_2.length:Int) 0 a0_0 a0_1 l0_2 l0_3 l0_4) = some (r1,r2):=by first | (rw [hy672];with_reducible exact H) | (have H2_:=(Option.bind_some _ _).symm.trans H;rw [hy672];with_reducible exact H2_) | (have H2_:=(Option.bind_some _ _).symm.trans H;with_reducible exact H2_) | with_reducible exact H | (rw [hy672];exact H) | exact H
    have Ny672:=Aside0.mk hy672;clear hy672;have H':=Aside0.mk H;clear H;go_wp2_with (first | ((with_reducible refine gate_dst (N:=15) rfl ?_);refine Kd.R_lit (Kd.int .i64) _ 3 ?hg (N:=15) ?hd (xs:=([]:List Int)) (inner:=[]) (ok:=fun _=>True) (okp:=fun _=>True) ?hr ?hp (fun _ hk=>hk) trivial (Below.refl _ _) (Nat.le_refl _) (by simp) ?_;(case hd=>rfl);(case hg=>rfl);(case hr=>first | (go_simp;done) | (go_simp;rfl));(case hp=>exact (Reps.none _ _));intro v673 w14 ho15 hb hg_ hnew_;clear hg_ hnew_;(first | rw [← Ny672.out] at ho15 | (simp only [Int.reduceToNat] at ho15;rw [← Ny672.out] at ho15));refine ev3 (Kd.R_lower ho15 (below_size (bm HB))) (kb BK669 hb) (bs HB hb) ?_;clear BK669 HB;intro HO674 BK669 HB;clear hb ho15;obtain ⟨hcz16_0,hcz16_1,hcz16_2,hcz16_3,hcz16_4,hfz16_0,hfz16_1,hfz16_2,hfz16_3,hfz16_4⟩:=bt5 BK669))
    go_loopg [4,19] kj1 (fun kq v4 v19 w'=>∃ (x4_2:List Int) (x19_2:Int),v19 = .int .i64 x19_2∧Aside0 (impl_UsefulParts.l0 kq x4_2 (l0_2.length:Int) x19_2 a0_0 a0_1 l0_2 l0_3 l0_4 = some (r1,r2))∧Aside0 (kq ≤ kj1)∧Aside0 (Kd.R (Kd.int .i64) 3 w' w.heap.size (fun _=>True) v4 x4_2)∧Aside0 (w'.heap[gb669]? = some (.cells #[.int .i64 a0_0,.int .i64 a0_1,(.slice A0_2 l0_2.length c0_2),(.slice A0_3 l0_3.length c0_3),(.slice A0_4 l0_4.length c0_4)] 27 (0,0)))∧Aside0 (Below w.heap.size w w'))
    case atStart=>exact ⟨(y672),(0),(by first | rfl | (simp;done) | (simp [*];done)),H',⟨Nat.le_refl _⟩,⟨Kd.R_mv HO674.out⟩,⟨km_ BK669⟩,⟨bm HB⟩⟩
    case round =>
     clear H';(try clear c1);(try clear p2);(try clear c13);(try clear c14);(try clear hcz16_0 hcz16_1 hcz16_2 hcz16_3 hcz16_4 hfz16_0 hfz16_1 hfz16_2 hfz16_3 hfz16_4);obtain ⟨x4_2,x19_2,rfl,HA,HK2,HO_4,BK669,HB⟩:=hrel;cases gk with
     | zero=>exact absurd HA.out (by simp [impl_UsefulParts.l0])
     | succ k2 =>
      have H:=HA.out;clear HA;simp only [impl_UsefulParts.l0] at H;by_cases c17:x19_2 < (l0_2.length:Int)
      ·rw [if_pos c17] at H;have c17b0:decide (x19_2 < (l0_2.length:Int)) = true:=decide_eq_true c17;clear c17;obtain ⟨y676,hy676⟩:∃ y_:List (S42),y_ = (([]:List (S42))):=⟨_,rfl⟩
       replace H:(if 0 ≤ x19_2 then (if x19_2 ≤ (l0_2.length:Int) then ((some (l0_2.take (x19_2:Int).toNat:List (S42))).bind fun y679=>(if y676.length + y679.length < 8796093022208 then ((some (y676 ++ y679:List (S42))).bind fun y683=>(if 0 ≤ (wrap64 (x19_2 + 1)) then (if (wrap64 (x19_2 + 1)) ≤ (l0_2.length:Int) then ((some (l0_2.drop ((wrap64 (x19_2 + 1)):Int).toNat:List (S42))).bind fun y686=>(if y683.length + y686.length < 8796093022208 then ((impl_countSolutions.f k2 a0_0 a0_1 (y683 ++ y686) l0_3 l0_4).bind fun t693=>(if t693 = 0 then (if x4_2.length < 17592186044416 then (impl_UsefulParts.l0 k2 (x4_2 ++ [x19_2]) (l0_2.length:Int) (wrap64 (x19_2 + 1)) a0_0 a0_1 l0_2 l0_3 l0_4) else (none)) else (impl_UsefulParts.l0 k2 x4_2 (l0_2.length:Int) (wrap64 (x19_2 + 1)) a0_0 a0_1 l0_2 l0_3 l0_4))) else (none))) else (none)) else (none))) else (none))) else (none)) else (none)) = some (r1,r2):=by first | (rw [hy676];with_reducible exact H) | (have H2_:=(Option.bind_some _ _).symm.trans H;rw [hy676];with_reducible exact H2_) | (have H2_:=(Option.bind_some _ _).symm.trans H;with_reducible exact H2_) | with_reducible exact H | (rw [hy676];exact H) | exact H
       have Ny676:=Aside0.mk hy676;clear hy676;replace H:=np_ H;obtain ⟨c18,H⟩:=H;have c18b0:=eq_true c18;have c18b1:decide (0 ≤ x19_2) = true:=decide_eq_true c18;clear c18;replace H:=np_ H;obtain ⟨c19,H⟩:=H;have c19b0:=eq_true c19;have c19b1:decide (x19_2 ≤ (l0_2.length:Int)) = true:=decide_eq_true c19;clear c19;obtain ⟨y679,hy679⟩:∃ y_:List (S42),y_ = (l0_2.take (x19_2:Int).toNat):=⟨_,rfl⟩
       replace H:(if y676.length + y679.length < 8796093022208 then ((some (y676 ++ y679:List (S42))).bind fun y683=>(if 0 ≤ (wrap64 (x19_2 + 1)) then (if (wrap64 (x19_2 + 1)) ≤ (l0_2.length:Int) then ((some (l0_2.drop ((wrap64 (x19_2 + 1)):Int).toNat:List (S42))).bind fun y686=>(if y683.length + y686.length < 8796093022208 then ((impl_countSolutions.f k2 a0_0 a0_1 (y683 ++ y686) l0_3 l0_4).bind fun t693=>(if t693 = 0 then (if x4_2.length < 17592186044416 then (impl_UsefulParts.l0 k2 (x4_2 ++ [x19_2]) (l0_2.length:Int) (wrap64 (x19_2 + 1)) a0_0 a0_1 l0_2 l0_3 l0_4) else (none)) else (impl_UsefulParts.l0 k2 x4_2 (l0_2.length:Int) (wrap64 (x19_2 + 1)) a0_0 a0_1 l0_2 l0_3 l0_4))) else (none))) else (none)) else (none))) else (none)) = some (r1,r2):=by first | (rw [hy679];with_reducible exact H) | (have H2_:=(Option.bind_some _ _).symm.trans H;rw [hy679];with_reducible exact H2_) | (have H2_:=(Option.bind_some _ _).symm.trans H;with_reducible exact H2_) | with_reducible exact H | (rw [hy679];exact H) | exact H
       have Ny679:=Aside0.mk hy679;clear hy679;replace H:=np_ H;obtain ⟨c20,H⟩:=H;have LMc20:=Aside0.mk c20;clear c20;obtain ⟨y683,hy683⟩:∃ y_:List (S42),y_ = (y676 ++ y679):=⟨_,rfl⟩
       replace H:(if 0 ≤ (wrap64 (x19_2 + 1)) then (if (wrap64 (x19_2 + 1)) ≤ (l0_2.length:Int) then ((some (l0_2.drop ((wrap64 (x19_2 + 1)):Int).toNat:List (S42))).bind fun y686=>(if y683.length + y686.length < 8796093022208 then ((impl_countSolutions.f k2 a0_0 a0_1 (y683 ++ y686) l0_3 l0_4).bind fun t693=>(if t693 = 0 then (if x4_2.length < 17592186044416 then (impl_UsefulParts.l0 k2 (x4_2 ++ [x19_2]) (l0_2.length:Int) (wrap64 (x19_2 + 1)) a0_0 a0_1 l0_2 l0_3 l0_4) else (none)) else (impl_UsefulParts.l0 k2 x4_2 (l0_2.length:Int) (wrap64 (x19_2 + 1)) a0_0 a0_1 l0_2 l0_3 l0_4))) else (none))) else (none)) else (none)) = some (r1,r2):=by first | (rw [hy683];with_reducible exact H) | (have H2_:=(Option.bind_some _ _).symm.trans H;rw [hy683];with_reducible exact H2_) | (have H2_:=(Option.bind_some _ _).symm.trans H;with_reducible exact H2_) | with_reducible exact H | (rw [hy683];exact H) | exact H
       have Ny683:=Aside0.mk hy683;clear hy683;obtain ⟨ji21,hji21⟩:∃ j_:Int,(wrap64 (x19_2 + 1)) = j_:=⟨_,rfl⟩
       replace H:(if 0 ≤ (ji21) then (if (ji21) ≤ (l0_2.length:Int) then ((some (l0_2.drop ((ji21):Int).toNat:List (S42))).bind fun y686=>(if y683.length + y686.length < 8796093022208 then ((impl_countSolutions.f k2 a0_0 a0_1 (y683 ++ y686) l0_3 l0_4).bind fun t693=>(if t693 = 0 then (if x4_2.length < 17592186044416 then (impl_UsefulParts.l0 k2 (x4_2 ++ [x19_2]) (l0_2.length:Int) ji21 a0_0 a0_1 l0_2 l0_3 l0_4) else (none)) else (impl_UsefulParts.l0 k2 x4_2 (l0_2.length:Int) ji21 a0_0 a0_1 l0_2 l0_3 l0_4))) else (none))) else (none)) else (none)) = some (r1,r2):=by first | (rw [hji21] at H;exact H) | (simp only [hji21] at H ⊢;exact H)
       have hji21w:(IntKind.i64.wrap (x19_2 + 1)) = ji21:=(i64_w _).trans hji21;replace H:=np_ H;obtain ⟨c22,H⟩:=H;have c22b0:=eq_true c22;have c22b1:decide (0 ≤ (ji21)) = true:=decide_eq_true c22;clear c22;replace H:=np_ H;obtain ⟨c23,H⟩:=H;have c23b0:=eq_true c23;have c23b1:decide ((ji21) ≤ (l0_2.length:Int)) = true:=decide_eq_true c23;clear c23;obtain ⟨y686,hy686⟩:∃ y_:List (S42),y_ = (l0_2.drop ((ji21):Int).toNat):=⟨_,rfl⟩
       replace H:(if y683.length + y686.length < 8796093022208 then ((impl_countSolutions.f k2 a0_0 a0_1 (y683 ++ y686) l0_3 l0_4).bind fun t693=>(if t693 = 0 then (if x4_2.length < 17592186044416 then (impl_UsefulParts.l0 k2 (x4_2 ++ [x19_2]) (l0_2.length:Int) ji21 a0_0 a0_1 l0_2 l0_3 l0_4) else (none)) else (impl_UsefulParts.l0 k2 x4_2 (l0_2.length:Int) ji21 a0_0 a0_1 l0_2 l0_3 l0_4))) else (none)) = some (r1,r2):=by first | (rw [hy686];with_reducible exact H) | (have H2_:=(Option.bind_some _ _).symm.trans H;rw [hy686];with_reducible exact H2_) | (have H2_:=(Option.bind_some _ _).symm.trans H;with_reducible exact H2_) | with_reducible exact H | (rw [hy686];exact H) | exact H
       have Ny686:=Aside0.mk hy686;clear hy686;replace H:=np_ H;obtain ⟨c24,H⟩:=H;have LMc24:=Aside0.mk c24;clear c24;obtain ⟨y690,hy690⟩:∃ y_:List (S42),y_ = (y683 ++ y686):=⟨_,rfl⟩
       replace H:((impl_countSolutions.f k2 a0_0 a0_1 y690 l0_3 l0_4).bind fun t693=>(if t693 = 0 then (if x4_2.length < 17592186044416 then (impl_UsefulParts.l0 k2 (x4_2 ++ [x19_2]) (l0_2.length:Int) ji21 a0_0 a0_1 l0_2 l0_3 l0_4) else (none)) else (impl_UsefulParts.l0 k2 x4_2 (l0_2.length:Int) ji21 a0_0 a0_1 l0_2 l0_3 l0_4))) = some (r1,r2):=by first | (rw [hy690];with_reducible exact H) | (have H2_:=(Option.bind_some _ _).symm.trans H;rw [hy690];with_reducible exact H2_) | (have H2_:=(Option.bind_some _ _).symm.trans H;with_reducible exact H2_) | with_reducible exact H | (rw [hy690];exact H) | exact H
       have Ny690:=Aside0.mk hy690;clear hy690;replace H:=Option.bind_eq_some_iff.mp H;obtain ⟨t693,A250,H⟩:=H;(try dsimp only at H)
       have A25:=Aside0.mk A250;clear A250;by_cases c26:t693 = 0
       ·rw [if_pos c26] at H;have c26b0:(t693 == 0) = true:=beq_iff_eq.mpr c26;have c26b1:(t693 != 0) = false:=bne_eq_false_iff_eq.mpr c26;clear c26;replace H:=np_ H;obtain ⟨c27,H⟩:=H;have LMc27:=Aside0.mk c27;clear c27;obtain ⟨y694,hy694⟩:∃ y_:List Int,y_ = (x4_2 ++ [x19_2]):=⟨_,rfl⟩
        replace H:(impl_UsefulParts.l0 k2 y694 (l0_2.length:Int) ji21 a0_0 a0_1 l0_2 l0_3 l0_4) = some (r1,r2):=by first | (rw [hy694];with_reducible exact H) | (have H2_:=(Option.bind_some _ _).symm.trans H;rw [hy694];with_reducible exact H2_) | (have H2_:=(Option.bind_some _ _).symm.trans H;with_reducible exact H2_) | with_reducible exact H | (rw [hy694];exact H) | exact H
        have Ny694:=Aside0.mk hy694;clear hy694;have H':=Aside0.mk H;clear H;obtain ⟨hcz28_0,hcz28_1,hcz28_2,hcz28_3,hcz28_4,hfz28_0,hfz28_1,hfz28_2,hfz28_3,hfz28_4⟩:=bt5 BK669;try go_wp2_with (first | ((with_reducible refine gate_dst (N:=6) rfl ?_);refine box_event ?hg (N:=6) ?hd (cs:=#[.int .i64 0,.int .i64 0,.slice none 0 0,.slice none 0 0,.slice none 0 0]) (t:=27) ?hr ?_;(case hd=>rfl);(case hg=>rfl);(case hr=>first | (go_simp;done) | (go_simp;rfl));intro gb675 hg w29 hbox hb;refine ev8 (Kd.R_below (Kd.R_mv HO_4.out) hb) (kb BK669 hb) (bs HB hb) (hbox) (gle hg HB) (gle hg HB) (gnf hg BK669) (gne hg BK669) ?_;clear HO_4 BK669 HB;intro HO_4 BK669 HB BK675 GW675 GE675 NB669_675 NB675_669;clear hb hbox hg;have hnb30:=NB675_669.out;have hnc30:=NB669_675.out;obtain ⟨hcz31_0,hcz31_1,hcz31_2,hcz31_3,hcz31_4,hfz31_0,hfz31_1,hfz31_2,hfz31_3,hfz31_4⟩:=bt5 BK675))
        have n0_:Aside0 (Kd.R (Kd.int .i64) 3 (((((w29.setCell ⟨gb675,0,none⟩ (.int .i64 a0_0)).setCell ⟨gb675,1,none⟩ (.int .i64 a0_1)).setCell ⟨gb675,2,none⟩ (.slice A0_2 l0_2.length c0_2)).setCell ⟨gb675,3,none⟩ (.slice A0_3 l0_3.length c0_3)).setCell ⟨gb675,4,none⟩ (.slice A0_4 l0_4.length c0_4)) w.heap.size (fun _=>True) u4 x4_2):=⟨Kd.R_mv (Kd.R_mono (ok':=fun k_=>True) (Kd.R_far (p:=⟨gb675,4,none⟩) (Kd.R_far (p:=⟨gb675,3,none⟩) (Kd.R_far (p:=⟨gb675,2,none⟩) (Kd.R_far (p:=⟨gb675,1,none⟩) (Kd.R_far (p:=⟨gb675,0,none⟩) (Kd.R_types HO_4.out BK675.out (by decide)) (fun _ hk=>hk.2) (.int .i64 a0_0)) (fun _ hk=>hk.2) (.int .i64 a0_1)) (fun _ hk=>hk.2) (.slice A0_2 l0_2.length c0_2)) (fun _ hk=>hk.2) (.slice A0_3 l0_3.length c0_3)) (fun _ hk=>hk.2) (.slice A0_4 l0_4.length c0_4)) (fun _ hk=>trivial))⟩
        have n1_:Aside0 ((((((w29.setCell ⟨gb675,0,none⟩ (.int .i64 a0_0)).setCell ⟨gb675,1,none⟩ (.int .i64 a0_1)).setCell ⟨gb675,2,none⟩ (.slice A0_2 l0_2.length c0_2)).setCell ⟨gb675,3,none⟩ (.slice A0_3 l0_3.length c0_3)).setCell ⟨gb675,4,none⟩ (.slice A0_4 l0_4.length c0_4)).heap[gb669]? = some (.cells #[.int .i64 a0_0,.int .i64 a0_1,.slice A0_2 l0_2.length c0_2,.slice A0_3 l0_3.length c0_3,.slice A0_4 l0_4.length c0_4] 27 (0,0))):=⟨fp BK669 rfl⟩
        have n2_:Aside0 ((((((w29.setCell ⟨gb675,0,none⟩ (.int .i64 a0_0)).setCell ⟨gb675,1,none⟩ (.int .i64 a0_1)).setCell ⟨gb675,2,none⟩ (.slice A0_2 l0_2.length c0_2)).setCell ⟨gb675,3,none⟩ (.slice A0_3 l0_3.length c0_3)).setCell ⟨gb675,4,none⟩ (.slice A0_4 l0_4.length c0_4)).heap[gb675]? = some (.cells #[.int .i64 a0_0,.int .i64 a0_1,.slice A0_2 l0_2.length c0_2,.slice A0_3 l0_3.length c0_3,.slice A0_4 l0_4.length c0_4] 27 (0,0))):=⟨fp BK675 rfl⟩
        have n3_:Aside0 (Below w.heap.size w (((((w29.setCell ⟨gb675,0,none⟩ (.int .i64 a0_0)).setCell ⟨gb675,1,none⟩ (.int .i64 a0_1)).setCell ⟨gb675,2,none⟩ (.slice A0_2 l0_2.length c0_2)).setCell ⟨gb675,3,none⟩ (.slice A0_3 l0_3.length c0_3)).setCell ⟨gb675,4,none⟩ (.slice A0_4 l0_4.length c0_4))):=⟨bm HB⟩
        (try clear HO_4);(try clear BK669);(try clear BK675);(try clear HB);generalize (((((w29.setCell ⟨gb675,0,none⟩ (.int .i64 a0_0)).setCell ⟨gb675,1,none⟩ (.int .i64 a0_1)).setCell ⟨gb675,2,none⟩ (.slice A0_2 l0_2.length c0_2)).setCell ⟨gb675,3,none⟩ (.slice A0_3 l0_3.length c0_3)).setCell ⟨gb675,4,none⟩ (.slice A0_4 l0_4.length c0_4)) = w32 at n0_ n1_ n2_ n3_ ⊢
        have HO_4:=n0_;have BK669:=n1_;have BK675:=n2_;have HB:=n3_;clear n0_ n1_ n2_ n3_;refine ev4 (Kd.R_drew HO_4.out) (blk_drew BK669.out) (blk_drew BK675.out) (below_drew1 HB.out) ?_;clear HO_4 BK669 BK675 HB;intro HO_4 BK669 BK675 HB;have q34:(x19_2:Int) ≤ ((l0_2.length:Int):Int):=of_decide_eq_true (by first | (with_reducible assumption) | assumption);obtain ⟨i034,hi034,_,hsz34,_⟩:=info_parts info42;have hroom34:l0_2.length ≤ c0_2:=HC0_2.out;have hC34:Kd.C k42 _ A0_2 l0_2.length l0_2:=HR0_2.out;have hcut34:=cut_to (P:=Try.prog) 24 42 .i64 Try.underlying24 hi034 A0_2 l0_2.length c0_2 x19_2 (of_decide_eq_true (by first | (with_reducible assumption) | assumption)) q34 hroom34;have hr34:=Kd.C_take (m:=(x19_2:Int).toNat) hC34 (by omega);have hy34:y679.length = (x19_2:Int).toNat:=(by rw [Ny679.out,List.length_take];omega)
        rw [← Ny679.out] at hr34;rw [← hy34] at hcut34;have HR682:=Aside0.mk hr34;have HC682:=Aside0.mk (show y679.length ≤ c0_2 from by omega);clear hr34 hC34 hroom34 hi034 hsz34;have KY34:=Aside0.mk hy34;clear hy34;replace q34:=eq_true q34;have q35:((ji21):Int) ≤ ((l0_2.length:Int):Int):=of_decide_eq_true (by first | (with_reducible assumption) | assumption);obtain ⟨i035,hi035,_,hsz35,_⟩:=info_parts info42;have hroom35:l0_2.length ≤ c0_2:=HC0_2.out;have hC35:Kd.C k42 _ A0_2 l0_2.length l0_2:=HR0_2.out;have q035:(0:Int) ≤ ((ji21):Int):=of_decide_eq_true (by first | (with_reducible assumption) | assumption);have hcut35:=cut_from (P:=Try.prog) 24 42 .i64 Try.underlying24 hi035 2 hsz35 A0_2 l0_2.length c0_2 (ji21) q035 q35;have hr35:=Kd.C_drop (m:=((ji21):Int).toNat) (c:=c0_2) hC35 (by omega) hroom35;obtain ⟨A35,hA35⟩:∃ A1,A1 = (if c0_2 = ((ji21):Int).toNat then A0_2 else (A0_2:Option Addr).map (·.add (((ji21):Int).toNat * 2))):=⟨_,rfl⟩
        obtain ⟨c35,hc35⟩:∃ c1,c1 = c0_2 - ((ji21):Int).toNat:=⟨_,rfl⟩
        have hy35:y686.length = l0_2.length - ((ji21):Int).toNat:=(by rw [Ny686.out,List.length_drop] <;> omega)
        rw [show (l0_2).drop ((ji21):Int).toNat = y686 from Ny686.out.symm] at hr35;replace hr35:Kd.C k42 _ A35 y686.length y686:=(by rw [hA35];exact hr35)
        rw [← hy35,← hA35,← hc35] at hcut35;have HR689:=Aside0.mk hr35;have HC689:=Aside0.mk (show y686.length ≤ c35 from by rw [hy35,hc35];exact Nat.sub_le_sub_right hroom35 _);clear hr35 hC35 hroom35 hi035 hsz35 hc35;have KY35:=Aside0.mk hy35;have KA35:=Aside0.mk hA35;clear hy35 hA35;replace q35:=eq_true q35;refine start_ (n:=14) (S:=fun w'=>w'.cell? ⟨gb669,0,none⟩ = some (.int .i64 a0_0)∧w'.cell? ⟨gb669,1,none⟩ = some (.int .i64 a0_1)∧w'.cell? ⟨gb669,2,none⟩ = some (.slice A0_2 l0_2.length c0_2)∧w'.cell? ⟨gb669,3,none⟩ = some (.slice A0_3 l0_3.length c0_3)∧w'.cell? ⟨gb669,4,none⟩ = some (.slice A0_4 l0_4.length c0_4)) (ds:=[]) #[Z,Z,Z,Z,Z,Z,Z,Z,Z,Z,Z,Z,Z,Z] (by kernel_rfl) rfl rfl ⟨(blk_cell BK669.out 0).trans rfl,(blk_cell BK669.out 1).trans rfl,(blk_cell BK669.out 2).trans rfl,(blk_cell BK669.out 3).trans rfl,(blk_cell BK669.out 4).trans rfl⟩ (fun hHeld=>?_);refine with_tabW impl_UsefulParts.tab8 impl_UsefulParts.bits8 (fun HT_ HW_=>?_);generalize w32.drew = w33 at HO_4 BK669 BK675 HB HR682 HR689 hHeld ⊢
        refine pA 1 (some 24) ?_ #[Z,Y,Z,Z,Z,Z,Z,Z,Z,Z,Z,Z,Z,Z] rfl rfl HT_ (by kernel_rfl) (fun _ _ _ h=>h) (by rfl) ?_ ?_ ?_ ?_;rotate_left
        ·intro w';go_simp;with_reducible rfl
        rotate_left
        ·simp only [Act.put,za_,zb_,zc_,i64_w,i32_w];rfl
        refine pA 3 (some 26) ?_ #[Z,Y,Z,Y,Z,Z,Z,Z,Z,Z,Z,Z,Z,Z] rfl rfl HT_ (by kernel_rfl) (fun _ _ _ h=>h) (by rfl) ?_ ?_ ?_ ?_;rotate_left
        ·intro w';go_simp;with_reducible rfl
        rotate_left
        ·simp only [Act.put,za_,zb_,zc_,i64_w,i32_w];rfl
        refine pA 6 (some 29) ?_ #[Z,Y,Z,Y,Z,Z,Y,Z,Z,Z,Z,Z,Z,Z] rfl rfl HT_ (by kernel_rfl) (fun _ _ _ h=>h) (by rfl) ?_ ?_ ?_ ?_;rotate_left
        ·intro w';go_simp;with_reducible rfl
        rotate_left
        ·simp only [Act.put,za_,zb_,zc_,i64_w,i32_w];rfl
        refine pA 8 (some 31) ?_ #[Z,Y,Z,Y,Z,Z,Y,Z,Y,Z,Z,Z,Z,Z] rfl rfl HT_ (by kernel_rfl) (fun _ _ _ h=>h) (by rfl) ?_ ?_ ?_ ?_;rotate_left
        ·intro w';go_simp;with_reducible rfl
        rotate_left
        ·simp only [Act.put,za_,zb_,zc_,i64_w,i32_w];rfl
        refine pA 9 (some 32) ?_ #[Z,Y,Z,Y,Z,Z,Y,Z,Y,Y,Z,Z,Z,Z] rfl rfl HT_ (by kernel_rfl) (fun _ _ _ h=>h) (by rfl) ?_ ?_ ?_ ?_;rotate_left
        ·intro w';go_simp;with_reducible rfl
        rotate_left
        ·simp only [Act.put,za_,zb_,zc_,i64_w,i32_w];rfl
        refine tA 2 (some 25) ?_ #[Z,Y,Y,Y,Z,Z,Y,Z,Y,Y,Z,Z,Z,Z] rfl rfl HT_ HW_ (by kernel_rfl) (fun _ _ _ h=>h) (by rfl) ?_ hHeld ?_ ?_ ?_;rotate_left
        ·rintro w' ⟨s0,s1,s2,s3,s4⟩;go_simp;with_reducible rfl
        rotate_left
        ·simp only [Act.put,za_,zb_,zc_,i64_w,i32_w];rfl
        refine pA 4 (some 27) ?_ #[Z,Y,Y,Y,Y,Z,Y,Z,Y,Y,Z,Z,Z,Z] rfl rfl HT_ (by kernel_rfl) (fun _ _ _ h=>h) (by rfl) ?_ ?_ ?_ ?_;rotate_left
        ·intro w';go_simp;with_reducible rfl
        rotate_left
        ·simp only [Act.put,za_,zb_,zc_,i64_w,i32_w];rfl
        refine tA 7 (some 30) ?_ #[Z,Y,Y,Y,Y,Z,Y,Y,Y,Y,Z,Z,Z,Z] rfl rfl HT_ HW_ (by kernel_rfl) (fun _ _ _ h=>h) (by rfl) ?_ hHeld ?_ ?_ ?_;rotate_left
        ·rintro w' ⟨s0,s1,s2,s3,s4⟩;go_simp;with_reducible rfl
        rotate_left
        ·simp only [Act.put,za_,zb_,zc_,i64_w,i32_w];rfl
        refine pA 10 (some 33) ?_ #[Z,Y,Y,Y,Y,Z,Y,Y,Y,Y,Y,Z,Z,Z] rfl rfl HT_ (by kernel_rfl) (fun _ _ _ h=>h) (by rfl) ?_ ?_ ?_ ?_;rotate_left
        ·intro w';go_simp;with_reducible rfl
        rotate_left
        ·simp only [Act.put,za_,zb_,zc_,i64_w,i32_w];rfl
        refine one_ (i:=0) (N:=some 23) #[Y,Y,Y,Y,Y,Z,Y,Y,Y,Y,Y,Z,Z,Z] rfl rfl (one_of HT_.out (by kernel_rfl)) (by decide) (fun K hK=>?_);refine Kd.R_lit_step k42 _ 42 ?hg (N:=23) ?hd (xs:=([]:List (S42))) (inner:=[]) (ok:=fun _=>True) (okp:=fun _=>True) ?hr ?hp (fun _ hk=>hk) trivial (Below.refl _ _) (Nat.le_refl _) (by simp) ?_;(case hd=>rfl);(case hg=>rfl);(case hr=>first | (go_simp;done) | (go_simp;rfl));(case hp=>exact (Reps.none _ _));intro v677 w36 ho37 hb hg_ hnew_;clear hg_ hnew_;(first | rw [← Ny676.out] at ho37 | (simp only [Int.reduceToNat] at ho37;rw [← Ny676.out] at ho37))
        refine ev5 (Kd.R_below (Kd.R_mv HO_4.out) hb) (Kd.R_lower ho37 (below_size (bm HB))) (kb BK669 hb) (kb BK675 hb) (bs HB hb) ?_;clear HO_4 BK669 BK675 HB;intro HO_4 HO678 BK669 BK675 HB;clear hb ho37;refine hK.out _ _ ⟨(blk_cell BK669.out 0).trans rfl,(blk_cell BK669.out 1).trans rfl,(blk_cell BK669.out 2).trans rfl,(blk_cell BK669.out 3).trans rfl,(blk_cell BK669.out 4).trans rfl⟩ (fun hHeld=>?_);clear hK K;refine norm_ (a':=?_) ?_ ?_;rotate_left
        ·show Act.put _ (some 23) _ = _
         simp only [Act.put,za_,zb_,zc_,i64_w,i32_w];rfl
        refine one_ (i:=5) (N:=some 28) #[Y,Y,Y,Y,Y,Y,Y,Y,Y,Y,Y,Z,Z,Z] rfl rfl (one_of HT_.out (by kernel_rfl)) (by decide) (fun K hK=>?_);refine Kd.R_append_rows_step k42 (w0:=w) w.heap.size (by rfl) (.tmp 23) (.tmp 27) 24 42 (.agg #[(.int .i64 0),(.int .i64 0)]) 16 rfl Try.underlying24 info42 rfl (by decide) (by omega) v677 y676 y679 _ _ _ (fun _=>True) (fun _=>False) rfl rfl ?aO ?aR (fun _ _ h=>h) (fun _ h=>h.elim) ?aF ?aB ?aS ?aL ?_;(case aR=>exact Kd.C_mv (Kd.C_below HR682.out HB.out))
        (case aB=>exact (bm HB))
        (case aF=>exact (fun _ _=>trivial))
        (case aO=>exact (Kd.R_mv HO678.out))
        (case aS=>exact (below_size (bm HB)))
        (case aL=>have:=LMc20.out;omega)
        intro v684 w38 ho hb hg hat;rw [← Ny683.out] at ho;refine ev5 (Kd.R_over' (Kd.R_mv HO_4.out) (Kd.R_typed (Kd.R_mv HO678.out)) (by decide) hg) (blk_grown (km_ BK669) hg (Kd.R_ne HO678.out BK669.out (by decide))) (blk_grown (km_ BK675) hg (Kd.R_ne HO678.out BK675.out (by decide))) (hb) (ho) ?_;clear HO_4 BK669 BK675 HB HO678;intro HO_4 BK669 BK675 HB HO685;clear ho hb hg hat;refine hK.out _ _ ⟨(blk_cell BK669.out 0).trans rfl,(blk_cell BK669.out 1).trans rfl,(blk_cell BK669.out 2).trans rfl,(blk_cell BK669.out 3).trans rfl,(blk_cell BK669.out 4).trans rfl⟩ (fun hHeld=>?_);clear hK K;refine norm_ (a':=?_) ?_ ?_;rotate_left
        ·show Act.put _ (some 28) _ = _
         simp only [Act.put,za_,zb_,zc_,i64_w,i32_w];rfl
        refine one_ (i:=11) (N:=some 34) #[Y,Y,Y,Y,Y,Y,Y,Y,Y,Y,Y,Y,Z,Z] rfl rfl (one_of HT_.out (by kernel_rfl)) (by decide) (fun K hK=>?_);refine Kd.R_append_rows_step k42 (w0:=w) w.heap.size (by rfl) (.tmp 28) (.tmp 33) 24 42 (.agg #[(.int .i64 0),(.int .i64 0)]) 16 rfl Try.underlying24 info42 rfl (by decide) (by omega) v684 y683 y686 _ _ _ (fun _=>True) (fun _=>False) rfl rfl ?aO ?aR (fun _ _ h=>h) (fun _ h=>h.elim) ?aF ?aB ?aS ?aL ?_;(case aR=>exact Kd.C_mv (Kd.C_below HR689.out HB.out))
        (case aB=>exact (bm HB))
        (case aF=>exact (fun _ _=>trivial))
        (case aO=>exact (Kd.R_mv HO685.out))
        (case aS=>exact (below_size (bm HB)))
        (case aL=>have:=LMc24.out;omega)
        intro v691 w39 ho hb hg hat;rw [← Ny690.out] at ho;refine ev5 (Kd.R_over' (Kd.R_mv HO_4.out) (Kd.R_typed (Kd.R_mv HO685.out)) (by decide) hg) (blk_grown (km_ BK669) hg (Kd.R_ne HO685.out BK669.out (by decide))) (blk_grown (km_ BK675) hg (Kd.R_ne HO685.out BK675.out (by decide))) (hb) (ho) ?_;clear HO_4 BK669 BK675 HB HO685;intro HO_4 BK669 BK675 HB HO692;clear ho hb hg hat;obtain ⟨Ao40,co40,eo40⟩:=Kd.R_slice HO692.out;(first | subst eo40 | (injection eo40 with f1_ f2_ f3_;have f4_:=f1_.symm;have f5_:=f3_.symm;clear f1_ f2_ f3_;subst f4_;subst f5_))
        refine hK.out _ _ ⟨(blk_cell BK669.out 0).trans rfl,(blk_cell BK669.out 1).trans rfl,(blk_cell BK669.out 2).trans rfl,(blk_cell BK669.out 3).trans rfl,(blk_cell BK669.out 4).trans rfl⟩ (fun hHeld=>?_);clear hK K;refine norm_ (a':=?_) ?_ ?_;rotate_left
        ·show Act.put _ (some 34) _ = _
         simp only [Act.put,za_,zb_,zc_,i64_w,i32_w];rfl
        refine pA 12 (some 35) ?_ #[Y,Y,Y,Y,Y,Y,Y,Y,Y,Y,Y,Y,Y,Z] rfl rfl HT_ (by kernel_rfl) (fun _ _ _ h=>h) (by rfl) ?_ ?_ ?_ ?_;rotate_left
        ·intro w';go_simp;with_reducible rfl
        rotate_left
        ·simp only [Act.put,za_,zb_,zc_,i64_w,i32_w];rfl
        refine one_ (i:=13) (N:=none) #[Y,Y,Y,Y,Y,Y,Y,Y,Y,Y,Y,Y,Y,Y] rfl rfl (one_of HT_.out (by kernel_rfl)) (by decide) (fun K hK=>?_);have hs41:w39.cell? ⟨gb675,2,none⟩ = some (.slice A0_2 l0_2.length c0_2):=(blk_cell BK675.out 2).trans rfl;have hfs41:=blk_frozen BK675.out 2;have hns41_0:=NB669_675.out;have hms41_0:=NB675_669.out;refine skip_ (w1:=?_) (by rfl) rfl ?_ ?_;rotate_left
        ·go_simp;rfl
        refine hK.out _ _ ⟨((cell_far (p:=⟨gb675,_,none⟩) NB669_675.out _).trans (hHeld.1)),((cell_far (p:=⟨gb675,_,none⟩) NB669_675.out _).trans (hHeld.2.1)),((cell_far (p:=⟨gb675,_,none⟩) NB669_675.out _).trans (hHeld.2.2.1)),((cell_far (p:=⟨gb675,_,none⟩) NB669_675.out _).trans (hHeld.2.2.2.1)),((cell_far (p:=⟨gb675,_,none⟩) NB669_675.out _).trans (hHeld.2.2.2.2))⟩ (fun hHeld=>?_);clear hK K;refine done_ (done_of HT_.out (by kernel_rfl)) ?_;obtain ⟨hcz42_0,hcz42_1,hcz42_2,hcz42_3,hcz42_4,hfz42_0,hfz42_1,hfz42_2,hfz42_3,hfz42_4⟩:=bt5 BK675;try go_wp2_with (first | ((with_reducible refine gate_callee (f:=96) rfl ?_);refine gL_ (some 37) Try.func96 #[.agg #[.int .i64 a0_0,.int .i64 a0_1,.slice Ao40 y690.length co40,.slice A0_3 l0_3.length c0_3,.slice A0_4 l0_4.length c0_4]] (h:=?_);(with_reducible refine (impl_countSolutions.calls k2 a0_0 a0_1 _ _ y690 _ _ l0_3 _ _ l0_4 t693 _ ?side1 ((Kd.R_reads' HO692.out).2.1) (Kd.C_below HR0_3.out (bm HB)) HC0_3.out (Kd.C_below HR0_4.out (bm HB)) HC0_4.out A25.out).mono ?_);(case side1=>exact (Kd.R_reads' (Kd.R_ft HO692.out BK675.out (by decide))).2.2);rintro e w43 ⟨rfl,hb⟩;refine ⟨_,rfl,?_⟩;refine ev5 (Kd.R_below (Kd.R_ft HO_4.out BK675.out (by decide)) hb) (Kd.R_below (Kd.R_ft HO692.out BK675.out (by decide)) hb) (blk_below (g:=gb669) (o:=.cells #[.int .i64 a0_0,.int .i64 a0_1,.slice A0_2 l0_2.length c0_2,.slice A0_3 l0_3.length c0_3,.slice A0_4 l0_4.length c0_4] 27 (0,0)) (fp BK669 rfl) hb) (blk_below (g:=gb675) (o:=.cells #[.int .i64 a0_0,.int .i64 a0_1,.slice Ao40 y690.length co40,.slice A0_3 l0_3.length c0_3,.slice A0_4 l0_4.length c0_4] 27 (0,0)) (fp BK675 rfl) hb) (bs HB hb) ?_;clear HO_4 HO692 BK669 BK675 HB;intro HO_4 HO692 BK669 BK675 HB;(try clear hb)) | ((with_reducible refine gate_builtin (b:=.append) (xs:=#[.tmp 39,.tmp 41]) rfl ?_);at_builtin;refine Kd.R_append (Kd.int .i64) (w0:=w) w.heap.size rfl (.tmp 39) (.tmp 41) 25 3 (.int .i64 0) 8 rfl Try.underlying25 info3 rfl (by decide) (by omega) u4 x4_2 x19_2 [.int .i64 x19_2] (fun _=>True) (fun _=>False) rfl rfl ?aP (fun _ hk=>hk.elim) ?aF ?aO ?aB ?aS ?aL ?_;(case aP=>exact rfl);(case aB=>exact (bm HB));(case aF=>exact (fun _ _=>trivial));(case aO=>exact (Kd.R_mv HO_4.out));(case aS=>exact (below_size (bm HB)));(case aL=>have:=LMc27.out;omega);intro v695 w44 ho hb hg hat;rw [← Ny694.out] at ho;refine ev5 (blk_grown (km_ BK669) hg (Kd.R_ne HO_4.out BK669.out (by decide))) (blk_grown (km_ BK675) hg (Kd.R_ne HO_4.out BK675.out (by decide))) (Kd.R_over' (Kd.R_mv HO692.out) (Kd.R_typed (Kd.R_mv HO_4.out)) (by decide) hg) (hb) (ho) ?_;clear BK669 BK675 HO692 HB HO_4;intro BK669 BK675 HO692 HB HO696;clear ho hb hg hat))
        go_roundg k2
        case measure=>have:=HJ1.out;have:=HK2.out;omega
        case rel=>exact ⟨(y694),(ji21),(by first | rfl | (simp;done) | (simp only [← hji21] <;> (first | rfl | simp)) | (simp [*];done)),H',⟨by have:=HJ1.out;have:=HK2.out;omega⟩,⟨Kd.R_mv HO696.out⟩,⟨km_ BK669⟩,⟨bm HB⟩⟩
       ·rw [if_neg c26] at H;have c26b0:(t693 == 0) = false:=beq_eq_false_iff_ne.mpr c26;have c26b1:(t693 != 0) = true:=bne_iff_ne.mpr c26;have H':=Aside0.mk H;clear H;obtain ⟨hcz45_0,hcz45_1,hcz45_2,hcz45_3,hcz45_4,hfz45_0,hfz45_1,hfz45_2,hfz45_3,hfz45_4⟩:=bt5 BK669;try go_wp2_with (first | ((with_reducible refine gate_dst (N:=6) rfl ?_);refine box_event ?hg (N:=6) ?hd (cs:=#[.int .i64 0,.int .i64 0,.slice none 0 0,.slice none 0 0,.slice none 0 0]) (t:=27) ?hr ?_;(case hd=>rfl);(case hg=>rfl);(case hr=>first | (go_simp;done) | (go_simp;rfl));intro gb675 hg w46 hbox hb;refine ev8 (Kd.R_below (Kd.R_mv HO_4.out) hb) (kb BK669 hb) (bs HB hb) (hbox) (gle hg HB) (gle hg HB) (gnf hg BK669) (gne hg BK669) ?_;clear HO_4 BK669 HB;intro HO_4 BK669 HB BK675 GW675 GE675 NB669_675 NB675_669;clear hb hbox hg;have hnb47:=NB675_669.out;have hnc47:=NB669_675.out;obtain ⟨hcz48_0,hcz48_1,hcz48_2,hcz48_3,hcz48_4,hfz48_0,hfz48_1,hfz48_2,hfz48_3,hfz48_4⟩:=bt5 BK675))
        have n0_:Aside0 (Kd.R (Kd.int .i64) 3 (((((w46.setCell ⟨gb675,0,none⟩ (.int .i64 a0_0)).setCell ⟨gb675,1,none⟩ (.int .i64 a0_1)).setCell ⟨gb675,2,none⟩ (.slice A0_2 l0_2.length c0_2)).setCell ⟨gb675,3,none⟩ (.slice A0_3 l0_3.length c0_3)).setCell ⟨gb675,4,none⟩ (.slice A0_4 l0_4.length c0_4)) w.heap.size (fun _=>True) u4 x4_2):=⟨Kd.R_mv (Kd.R_mono (ok':=fun k_=>True) (Kd.R_far (p:=⟨gb675,4,none⟩) (Kd.R_far (p:=⟨gb675,3,none⟩) (Kd.R_far (p:=⟨gb675,2,none⟩) (Kd.R_far (p:=⟨gb675,1,none⟩) (Kd.R_far (p:=⟨gb675,0,none⟩) (Kd.R_types HO_4.out BK675.out (by decide)) (fun _ hk=>hk.2) (.int .i64 a0_0)) (fun _ hk=>hk.2) (.int .i64 a0_1)) (fun _ hk=>hk.2) (.slice A0_2 l0_2.length c0_2)) (fun _ hk=>hk.2) (.slice A0_3 l0_3.length c0_3)) (fun _ hk=>hk.2) (.slice A0_4 l0_4.length c0_4)) (fun _ hk=>trivial))⟩
        have n1_:Aside0 ((((((w46.setCell ⟨gb675,0,none⟩ (.int .i64 a0_0)).setCell ⟨gb675,1,none⟩ (.int .i64 a0_1)).setCell ⟨gb675,2,none⟩ (.slice A0_2 l0_2.length c0_2)).setCell ⟨gb675,3,none⟩ (.slice A0_3 l0_3.length c0_3)).setCell ⟨gb675,4,none⟩ (.slice A0_4 l0_4.length c0_4)).heap[gb669]? = some (.cells #[.int .i64 a0_0,.int .i64 a0_1,.slice A0_2 l0_2.length c0_2,.slice A0_3 l0_3.length c0_3,.slice A0_4 l0_4.length c0_4] 27 (0,0))):=⟨fp BK669 rfl⟩
        have n2_:Aside0 ((((((w46.setCell ⟨gb675,0,none⟩ (.int .i64 a0_0)).setCell ⟨gb675,1,none⟩ (.int .i64 a0_1)).setCell ⟨gb675,2,none⟩ (.slice A0_2 l0_2.length c0_2)).setCell ⟨gb675,3,none⟩ (.slice A0_3 l0_3.length c0_3)).setCell ⟨gb675,4,none⟩ (.slice A0_4 l0_4.length c0_4)).heap[gb675]? = some (.cells #[.int .i64 a0_0,.int .i64 a0_1,.slice A0_2 l0_2.length c0_2,.slice A0_3 l0_3.length c0_3,.slice A0_4 l0_4.length c0_4] 27 (0,0))):=⟨fp BK675 rfl⟩
        have n3_:Aside0 (Below w.heap.size w (((((w46.setCell ⟨gb675,0,none⟩ (.int .i64 a0_0)).setCell ⟨gb675,1,none⟩ (.int .i64 a0_1)).setCell ⟨gb675,2,none⟩ (.slice A0_2 l0_2.length c0_2)).setCell ⟨gb675,3,none⟩ (.slice A0_3 l0_3.length c0_3)).setCell ⟨gb675,4,none⟩ (.slice A0_4 l0_4.length c0_4))):=⟨bm HB⟩
        (try clear HO_4);(try clear BK669);(try clear BK675);(try clear HB);generalize (((((w46.setCell ⟨gb675,0,none⟩ (.int .i64 a0_0)).setCell ⟨gb675,1,none⟩ (.int .i64 a0_1)).setCell ⟨gb675,2,none⟩ (.slice A0_2 l0_2.length c0_2)).setCell ⟨gb675,3,none⟩ (.slice A0_3 l0_3.length c0_3)).setCell ⟨gb675,4,none⟩ (.slice A0_4 l0_4.length c0_4)) = w49 at n0_ n1_ n2_ n3_ ⊢
        have HO_4:=n0_;have BK669:=n1_;have BK675:=n2_;have HB:=n3_;clear n0_ n1_ n2_ n3_;refine ev4 (Kd.R_drew HO_4.out) (blk_drew BK669.out) (blk_drew BK675.out) (below_drew1 HB.out) ?_;clear HO_4 BK669 BK675 HB;intro HO_4 BK669 BK675 HB;have q51:(x19_2:Int) ≤ ((l0_2.length:Int):Int):=of_decide_eq_true (by first | (with_reducible assumption) | assumption);obtain ⟨i051,hi051,_,hsz51,_⟩:=info_parts info42;have hroom51:l0_2.length ≤ c0_2:=HC0_2.out;have hC51:Kd.C k42 _ A0_2 l0_2.length l0_2:=HR0_2.out;have hcut51:=cut_to (P:=Try.prog) 24 42 .i64 Try.underlying24 hi051 A0_2 l0_2.length c0_2 x19_2 (of_decide_eq_true (by first | (with_reducible assumption) | assumption)) q51 hroom51;have hr51:=Kd.C_take (m:=(x19_2:Int).toNat) hC51 (by omega);have hy51:y679.length = (x19_2:Int).toNat:=(by rw [Ny679.out,List.length_take];omega)
        rw [← Ny679.out] at hr51;rw [← hy51] at hcut51;have HR682:=Aside0.mk hr51;have HC682:=Aside0.mk (show y679.length ≤ c0_2 from by omega);clear hr51 hC51 hroom51 hi051 hsz51;have KY51:=Aside0.mk hy51;clear hy51;replace q51:=eq_true q51;have q52:((ji21):Int) ≤ ((l0_2.length:Int):Int):=of_decide_eq_true (by first | (with_reducible assumption) | assumption);obtain ⟨i052,hi052,_,hsz52,_⟩:=info_parts info42;have hroom52:l0_2.length ≤ c0_2:=HC0_2.out;have hC52:Kd.C k42 _ A0_2 l0_2.length l0_2:=HR0_2.out;have q052:(0:Int) ≤ ((ji21):Int):=of_decide_eq_true (by first | (with_reducible assumption) | assumption);have hcut52:=cut_from (P:=Try.prog) 24 42 .i64 Try.underlying24 hi052 2 hsz52 A0_2 l0_2.length c0_2 (ji21) q052 q52;have hr52:=Kd.C_drop (m:=((ji21):Int).toNat) (c:=c0_2) hC52 (by omega) hroom52;obtain ⟨A52,hA52⟩:∃ A1,A1 = (if c0_2 = ((ji21):Int).toNat then A0_2 else (A0_2:Option Addr).map (·.add (((ji21):Int).toNat * 2))):=⟨_,rfl⟩
        obtain ⟨c52,hc52⟩:∃ c1,c1 = c0_2 - ((ji21):Int).toNat:=⟨_,rfl⟩
        have hy52:y686.length = l0_2.length - ((ji21):Int).toNat:=(by rw [Ny686.out,List.length_drop] <;> omega)
        rw [show (l0_2).drop ((ji21):Int).toNat = y686 from Ny686.out.symm] at hr52;replace hr52:Kd.C k42 _ A52 y686.length y686:=(by rw [hA52];exact hr52)
        rw [← hy52,← hA52,← hc52] at hcut52;have HR689:=Aside0.mk hr52;have HC689:=Aside0.mk (show y686.length ≤ c52 from by rw [hy52,hc52];exact Nat.sub_le_sub_right hroom52 _);clear hr52 hC52 hroom52 hi052 hsz52 hc52;have KY52:=Aside0.mk hy52;have KA52:=Aside0.mk hA52;clear hy52 hA52;replace q52:=eq_true q52;refine start_ (n:=14) (S:=fun w'=>w'.cell? ⟨gb669,0,none⟩ = some (.int .i64 a0_0)∧w'.cell? ⟨gb669,1,none⟩ = some (.int .i64 a0_1)∧w'.cell? ⟨gb669,2,none⟩ = some (.slice A0_2 l0_2.length c0_2)∧w'.cell? ⟨gb669,3,none⟩ = some (.slice A0_3 l0_3.length c0_3)∧w'.cell? ⟨gb669,4,none⟩ = some (.slice A0_4 l0_4.length c0_4)) (ds:=[]) #[Z,Z,Z,Z,Z,Z,Z,Z,Z,Z,Z,Z,Z,Z] (by kernel_rfl) rfl rfl ⟨(blk_cell BK669.out 0).trans rfl,(blk_cell BK669.out 1).trans rfl,(blk_cell BK669.out 2).trans rfl,(blk_cell BK669.out 3).trans rfl,(blk_cell BK669.out 4).trans rfl⟩ (fun hHeld=>?_);refine with_tabW impl_UsefulParts.tab8 impl_UsefulParts.bits8 (fun HT_ HW_=>?_);generalize w49.drew = w50 at HO_4 BK669 BK675 HB HR682 HR689 hHeld ⊢
        refine pA 1 (some 24) ?_ #[Z,Y,Z,Z,Z,Z,Z,Z,Z,Z,Z,Z,Z,Z] rfl rfl HT_ (by kernel_rfl) (fun _ _ _ h=>h) (by rfl) ?_ ?_ ?_ ?_;rotate_left
        ·intro w';go_simp;with_reducible rfl
        rotate_left
        ·simp only [Act.put,za_,zb_,zc_,i64_w,i32_w];rfl
        refine pA 3 (some 26) ?_ #[Z,Y,Z,Y,Z,Z,Z,Z,Z,Z,Z,Z,Z,Z] rfl rfl HT_ (by kernel_rfl) (fun _ _ _ h=>h) (by rfl) ?_ ?_ ?_ ?_;rotate_left
        ·intro w';go_simp;with_reducible rfl
        rotate_left
        ·simp only [Act.put,za_,zb_,zc_,i64_w,i32_w];rfl
        refine pA 6 (some 29) ?_ #[Z,Y,Z,Y,Z,Z,Y,Z,Z,Z,Z,Z,Z,Z] rfl rfl HT_ (by kernel_rfl) (fun _ _ _ h=>h) (by rfl) ?_ ?_ ?_ ?_;rotate_left
        ·intro w';go_simp;with_reducible rfl
        rotate_left
        ·simp only [Act.put,za_,zb_,zc_,i64_w,i32_w];rfl
        refine pA 8 (some 31) ?_ #[Z,Y,Z,Y,Z,Z,Y,Z,Y,Z,Z,Z,Z,Z] rfl rfl HT_ (by kernel_rfl) (fun _ _ _ h=>h) (by rfl) ?_ ?_ ?_ ?_;rotate_left
        ·intro w';go_simp;with_reducible rfl
        rotate_left
        ·simp only [Act.put,za_,zb_,zc_,i64_w,i32_w];rfl
        refine pA 9 (some 32) ?_ #[Z,Y,Z,Y,Z,Z,Y,Z,Y,Y,Z,Z,Z,Z] rfl rfl HT_ (by kernel_rfl) (fun _ _ _ h=>h) (by rfl) ?_ ?_ ?_ ?_;rotate_left
        ·intro w';go_simp;with_reducible rfl
        rotate_left
        ·simp only [Act.put,za_,zb_,zc_,i64_w,i32_w];rfl
        refine tA 2 (some 25) ?_ #[Z,Y,Y,Y,Z,Z,Y,Z,Y,Y,Z,Z,Z,Z] rfl rfl HT_ HW_ (by kernel_rfl) (fun _ _ _ h=>h) (by rfl) ?_ hHeld ?_ ?_ ?_;rotate_left
        ·rintro w' ⟨s0,s1,s2,s3,s4⟩;go_simp;with_reducible rfl
        rotate_left
        ·simp only [Act.put,za_,zb_,zc_,i64_w,i32_w];rfl
        refine pA 4 (some 27) ?_ #[Z,Y,Y,Y,Y,Z,Y,Z,Y,Y,Z,Z,Z,Z] rfl rfl HT_ (by kernel_rfl) (fun _ _ _ h=>h) (by rfl) ?_ ?_ ?_ ?_;rotate_left
        ·intro w';go_simp;with_reducible rfl
        rotate_left
        ·simp only [Act.put,za_,zb_,zc_,i64_w,i32_w];rfl
        refine tA 7 (some 30) ?_ #[Z,Y,Y,Y,Y,Z,Y,Y,Y,Y,Z,Z,Z,Z] rfl rfl HT_ HW_ (by kernel_rfl) (fun _ _ _ h=>h) (by rfl) ?_ hHeld ?_ ?_ ?_;rotate_left
        ·rintro w' ⟨s0,s1,s2,s3,s4⟩;go_simp;with_reducible rfl
        rotate_left
        ·simp only [Act.put,za_,zb_,zc_,i64_w,i32_w];rfl
        refine pA 10 (some 33) ?_ #[Z,Y,Y,Y,Y,Z,Y,Y,Y,Y,Y,Z,Z,Z] rfl rfl HT_ (by kernel_rfl) (fun _ _ _ h=>h) (by rfl) ?_ ?_ ?_ ?_;rotate_left
        ·intro w';go_simp;with_reducible rfl
        rotate_left
        ·simp only [Act.put,za_,zb_,zc_,i64_w,i32_w];rfl
        refine one_ (i:=0) (N:=some 23) #[Y,Y,Y,Y,Y,Z,Y,Y,Y,Y,Y,Z,Z,Z] rfl rfl (one_of HT_.out (by kernel_rfl)) (by decide) (fun K hK=>?_);refine Kd.R_lit_step k42 _ 42 ?hg (N:=23) ?hd (xs:=([]:List (S42))) (inner:=[]) (ok:=fun _=>True) (okp:=fun _=>True) ?hr ?hp (fun _ hk=>hk) trivial (Below.refl _ _) (Nat.le_refl _) (by simp) ?_;(case hd=>rfl);(case hg=>rfl);(case hr=>first | (go_simp;done) | (go_simp;rfl));(case hp=>exact (Reps.none _ _));intro v677 w53 ho54 hb hg_ hnew_;clear hg_ hnew_;(first | rw [← Ny676.out] at ho54 | (simp only [Int.reduceToNat] at ho54;rw [← Ny676.out] at ho54))
        refine ev5 (Kd.R_below (Kd.R_mv HO_4.out) hb) (Kd.R_lower ho54 (below_size (bm HB))) (kb BK669 hb) (kb BK675 hb) (bs HB hb) ?_;clear HO_4 BK669 BK675 HB;intro HO_4 HO678 BK669 BK675 HB;clear hb ho54;refine hK.out _ _ ⟨(blk_cell BK669.out 0).trans rfl,(blk_cell BK669.out 1).trans rfl,(blk_cell BK669.out 2).trans rfl,(blk_cell BK669.out 3).trans rfl,(blk_cell BK669.out 4).trans rfl⟩ (fun hHeld=>?_);clear hK K;refine norm_ (a':=?_) ?_ ?_;rotate_left
        ·show Act.put _ (some 23) _ = _
         simp only [Act.put,za_,zb_,zc_,i64_w,i32_w];rfl
        refine one_ (i:=5) (N:=some 28) #[Y,Y,Y,Y,Y,Y,Y,Y,Y,Y,Y,Z,Z,Z] rfl rfl (one_of HT_.out (by kernel_rfl)) (by decide) (fun K hK=>?_);refine Kd.R_append_rows_step k42 (w0:=w) w.heap.size (by rfl) (.tmp 23) (.tmp 27) 24 42 (.agg #[(.int .i64 0),(.int .i64 0)]) 16 rfl Try.underlying24 info42 rfl (by decide) (by omega) v677 y676 y679 _ _ _ (fun _=>True) (fun _=>False) rfl rfl ?aO ?aR (fun _ _ h=>h) (fun _ h=>h.elim) ?aF ?aB ?aS ?aL ?_;(case aR=>exact Kd.C_mv (Kd.C_below HR682.out HB.out))
        (case aB=>exact (bm HB))
        (case aF=>exact (fun _ _=>trivial))
        (case aO=>exact (Kd.R_mv HO678.out))
        (case aS=>exact (below_size (bm HB)))
        (case aL=>have:=LMc20.out;omega)
        intro v684 w55 ho hb hg hat;rw [← Ny683.out] at ho;refine ev5 (Kd.R_over' (Kd.R_mv HO_4.out) (Kd.R_typed (Kd.R_mv HO678.out)) (by decide) hg) (blk_grown (km_ BK669) hg (Kd.R_ne HO678.out BK669.out (by decide))) (blk_grown (km_ BK675) hg (Kd.R_ne HO678.out BK675.out (by decide))) (hb) (ho) ?_;clear HO_4 BK669 BK675 HB HO678;intro HO_4 BK669 BK675 HB HO685;clear ho hb hg hat;refine hK.out _ _ ⟨(blk_cell BK669.out 0).trans rfl,(blk_cell BK669.out 1).trans rfl,(blk_cell BK669.out 2).trans rfl,(blk_cell BK669.out 3).trans rfl,(blk_cell BK669.out 4).trans rfl⟩ (fun hHeld=>?_);clear hK K;refine norm_ (a':=?_) ?_ ?_;rotate_left
        ·show Act.put _ (some 28) _ = _
         simp only [Act.put,za_,zb_,zc_,i64_w,i32_w];rfl
        refine one_ (i:=11) (N:=some 34) #[Y,Y,Y,Y,Y,Y,Y,Y,Y,Y,Y,Y,Z,Z] rfl rfl (one_of HT_.out (by kernel_rfl)) (by decide) (fun K hK=>?_);refine Kd.R_append_rows_step k42 (w0:=w) w.heap.size (by rfl) (.tmp 28) (.tmp 33) 24 42 (.agg #[(.int .i64 0),(.int .i64 0)]) 16 rfl Try.underlying24 info42 rfl (by decide) (by omega) v684 y683 y686 _ _ _ (fun _=>True) (fun _=>False) rfl rfl ?aO ?aR (fun _ _ h=>h) (fun _ h=>h.elim) ?aF ?aB ?aS ?aL ?_;(case aR=>exact Kd.C_mv (Kd.C_below HR689.out HB.out))
        (case aB=>exact (bm HB))
        (case aF=>exact (fun _ _=>trivial))
        (case aO=>exact (Kd.R_mv HO685.out))
        (case aS=>exact (below_size (bm HB)))
        (case aL=>have:=LMc24.out;omega)
        intro v691 w56 ho hb hg hat;rw [← Ny690.out] at ho;refine ev5 (Kd.R_over' (Kd.R_mv HO_4.out) (Kd.R_typed (Kd.R_mv HO685.out)) (by decide) hg) (blk_grown (km_ BK669) hg (Kd.R_ne HO685.out BK669.out (by decide))) (blk_grown (km_ BK675) hg (Kd.R_ne HO685.out BK675.out (by decide))) (hb) (ho) ?_;clear HO_4 BK669 BK675 HB HO685;intro HO_4 BK669 BK675 HB HO692;clear ho hb hg hat;obtain ⟨Ao57,co57,eo57⟩:=Kd.R_slice HO692.out;(first | subst eo57 | (injection eo57 with f1_ f2_ f3_;have f4_:=f1_.symm;have f5_:=f3_.symm;clear f1_ f2_ f3_;subst f4_;subst f5_))
        refine hK.out _ _ ⟨(blk_cell BK669.out 0).trans rfl,(blk_cell BK669.out 1).trans rfl,(blk_cell BK669.out 2).trans rfl,(blk_cell BK669.out 3).trans rfl,(blk_cell BK669.out 4).trans rfl⟩ (fun hHeld=>?_);clear hK K;refine norm_ (a':=?_) ?_ ?_;rotate_left
        ·show Act.put _ (some 34) _ = _
         simp only [Act.put,za_,zb_,zc_,i64_w,i32_w];rfl
        refine pA 12 (some 35) ?_ #[Y,Y,Y,Y,Y,Y,Y,Y,Y,Y,Y,Y,Y,Z] rfl rfl HT_ (by kernel_rfl) (fun _ _ _ h=>h) (by rfl) ?_ ?_ ?_ ?_;rotate_left
        ·intro w';go_simp;with_reducible rfl
        rotate_left
        ·simp only [Act.put,za_,zb_,zc_,i64_w,i32_w];rfl
        refine one_ (i:=13) (N:=none) #[Y,Y,Y,Y,Y,Y,Y,Y,Y,Y,Y,Y,Y,Y] rfl rfl (one_of HT_.out (by kernel_rfl)) (by decide) (fun K hK=>?_);have hs58:w56.cell? ⟨gb675,2,none⟩ = some (.slice A0_2 l0_2.length c0_2):=(blk_cell BK675.out 2).trans rfl;have hfs58:=blk_frozen BK675.out 2;have hns58_0:=NB669_675.out;have hms58_0:=NB675_669.out;refine skip_ (w1:=?_) (by rfl) rfl ?_ ?_;rotate_left
        ·go_simp;rfl
        refine hK.out _ _ ⟨((cell_far (p:=⟨gb675,_,none⟩) NB669_675.out _).trans (hHeld.1)),((cell_far (p:=⟨gb675,_,none⟩) NB669_675.out _).trans (hHeld.2.1)),((cell_far (p:=⟨gb675,_,none⟩) NB669_675.out _).trans (hHeld.2.2.1)),((cell_far (p:=⟨gb675,_,none⟩) NB669_675.out _).trans (hHeld.2.2.2.1)),((cell_far (p:=⟨gb675,_,none⟩) NB669_675.out _).trans (hHeld.2.2.2.2))⟩ (fun hHeld=>?_);clear hK K;refine done_ (done_of HT_.out (by kernel_rfl)) ?_;obtain ⟨hcz59_0,hcz59_1,hcz59_2,hcz59_3,hcz59_4,hfz59_0,hfz59_1,hfz59_2,hfz59_3,hfz59_4⟩:=bt5 BK675;try go_wp2_with (first | ((with_reducible refine gate_callee (f:=96) rfl ?_);refine gL_ (some 37) Try.func96 #[.agg #[.int .i64 a0_0,.int .i64 a0_1,.slice Ao57 y690.length co57,.slice A0_3 l0_3.length c0_3,.slice A0_4 l0_4.length c0_4]] (h:=?_);(with_reducible refine (impl_countSolutions.calls k2 a0_0 a0_1 _ _ y690 _ _ l0_3 _ _ l0_4 t693 _ ?side1 ((Kd.R_reads' HO692.out).2.1) (Kd.C_below HR0_3.out (bm HB)) HC0_3.out (Kd.C_below HR0_4.out (bm HB)) HC0_4.out A25.out).mono ?_);(case side1=>exact (Kd.R_reads' (Kd.R_ft HO692.out BK675.out (by decide))).2.2);rintro e w60 ⟨rfl,hb⟩;refine ⟨_,rfl,?_⟩;refine ev5 (Kd.R_below (Kd.R_ft HO_4.out BK675.out (by decide)) hb) (Kd.R_below (Kd.R_ft HO692.out BK675.out (by decide)) hb) (blk_below (g:=gb669) (o:=.cells #[.int .i64 a0_0,.int .i64 a0_1,.slice A0_2 l0_2.length c0_2,.slice A0_3 l0_3.length c0_3,.slice A0_4 l0_4.length c0_4] 27 (0,0)) (fp BK669 rfl) hb) (blk_below (g:=gb675) (o:=.cells #[.int .i64 a0_0,.int .i64 a0_1,.slice Ao57 y690.length co57,.slice A0_3 l0_3.length c0_3,.slice A0_4 l0_4.length c0_4] 27 (0,0)) (fp BK675 rfl) hb) (bs HB hb) ?_;clear HO_4 HO692 BK669 BK675 HB;intro HO_4 HO692 BK669 BK675 HB;(try clear hb)))
        go_roundg k2
        case measure=>have:=HJ1.out;have:=HK2.out;omega
        case rel=>exact ⟨(x4_2),(ji21),(by first | rfl | (simp;done) | (simp only [← hji21] <;> (first | rfl | simp)) | (simp [*];done)),H',⟨by have:=HJ1.out;have:=HK2.out;omega⟩,⟨Kd.R_mv HO_4.out⟩,⟨km_ BK669⟩,⟨bm HB⟩⟩
      ·rw [if_neg c17] at H;have c17b0:decide (x19_2 < (l0_2.length:Int)) = false:=decide_eq_false c17;clear c17;simp only [Option.some.injEq,Prod.mk.injEq] at H;obtain ⟨rfl,rfl⟩:=H;go_wp2;go_ret2
       exact ⟨_,by first | rfl | (simp [e0_,e1_] <;> rfl) | (simp [*,e0_,e1_] <;> rfl),Kd.R_mv HO_4.out,bm HB⟩
end Go.Proofs.Ytnmffpfiichjgaa.F
