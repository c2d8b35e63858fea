-- Printed by a program; checked here.
import Derived.Test.YtimeepcpgjnajaaF0
namespace Go.Proofs.Ytimeepcpgjnajaa.F
open Go.RowKit Go.Proofs.YtimeepcpgjnajaaV.PrintWords Go.Proofs.YtimeepcpgjnajaaV.PrintLast Go.Proofs.YtimeepcpgjnajaaV.PrintMore Go.Proofs.YtimeepcpgjnajaaV.Sl
attribute [local go_sem] max2_int min2_int max_two min_two max_three min_three max_four min_four ia_opt it_opt
attribute [local go_sem] Try.underlying23 Try.underlying25 Try.underlying27 Try.underlying35 Try.underlying50 Try.underlying80 Try.underlying114 Try.underlying137
set_option maxHeartbeats 8000000
set_option maxRecDepth 100000
set_option linter.unusedVariables false
set_option linter.unusedSimpArgs false

/-! ### spec_rvBefore: function 102 -/
def spec_rvBefore.l0:Nat→Int→List Int→List Int→Int→Int→Option (List Int)
  | 0,_,_,_,_,_=>none
  | k + 1,x1,x5,x8,x9,x10=>if x10 < x9 then (if 0 ≤ x10 then (if x10 < (x8.length:Int) then (if (rd x8 x10) = x1 then (if x5.length < 17592186044416 then (spec_rvBefore.l0 k x1 (x5 ++ [x10]) x8 x9 (wrap64 (x10 + 1))) else (none)) else (spec_rvBefore.l0 k x1 x5 x8 x9 (wrap64 (x10 + 1)))) else (none)) else (none)) else (some x5)
def spec_rvBefore.f (k:Nat) (l0:List Int) (a1:Int):Option (List Int):=spec_rvBefore.l0 k a1 ([]:List Int) l0 (l0.length:Int) 0
theorem spec_rvBefore.calls (k:Nat) (A0:Option Addr) (c0:Nat) (l0:List Int) (a1:Int) (r:List Int) (w:World) (hr0:Kd.C (Kd.int .i64) w A0 l0.length l0) (hc0:l0.length ≤ c0) (h:spec_rvBefore.f k l0 a1 = some r) :
    Calls Try.prog 102 #[.slice A0 l0.length c0,.int .i64 a1] w fun e w'=>∃ v0_:Value,e = .returned (v0_)∧Kd.R (Kd.int .i64) 3 w' w.heap.size (fun _=>True) v0_ r∧Below w.heap.size w w':=by
 have S:=St.init (w:=w) (dc (Kd.heap_int .i64) (atI .i64) hr0 hc0 dn)
 clear hr0 hc0
 have F:=S.fc
 have H:=h;clear h;unfold spec_rvBefore.f at H
 go_enter Try.func102,Try.ntmps102
 go_wp2
 go_loopg [5,10] k (fun kq v5 v10 w'=>∃ (x5_1:List Int) (x10_1:Int) (Ax5_1:Option Addr) (cx5_1:Nat),v10 = .int .i64 x10_1∧v5 = .slice Ax5_1 x5_1.length cx5_1∧spec_rvBefore.l0 kq a1 x5_1 l0 (l0.length:Int) x10_1 = some r∧kq ≤ k∧St w w (fun _=>False) [bor (atI .i64) A0 c0 l0] w'  [row (atI .i64) 3 Ax5_1 x5_1.length cx5_1 x5_1])
 case atStart=>exact ⟨_,0,_,_,(by first | rfl | (simp;done) | (simp [*];done) | (rw [w6_ (by omega) (by omega)])),rfl,H,Nat.le_refl _,(S.nl (e:=3) (atI .i64))⟩
 case round =>
  clear H S F
  obtain ⟨x5_1,x10_1,Ax5_1,cx5_1,rfl,rfl,HA,HK1,S⟩:=hrel
  have F:=S.fc
  cases gk with
  | zero=>exact absurd HA (by simp [spec_rvBefore.l0])
  | succ k1 =>
   have H:=HA;clear HA;simp only [spec_rvBefore.l0,F] at H
   replace H:=sp_ H;rcases H with ⟨c3,H⟩ | ⟨c3,H⟩
   · skip
     replace H:=np_ H;obtain ⟨c4,H⟩:=H
     replace H:=np_ H;obtain ⟨c5,H⟩:=H
     replace H:=sp_ H;rcases H with ⟨c6,H⟩ | ⟨c6,H⟩
     · skip
       replace c6:=ceq c6
       replace H:=np_ H;obtain ⟨c7,H⟩:=H
       (first | (with_reducible replace H:=ob_ H;obtain ⟨y322,hy322,H⟩:=H;(try dsimp only at H)) | (obtain ⟨y322,hy322⟩:∃ y_:List Int,y_ = (x5_1 ++ [x10_1]):=⟨_,rfl⟩;(try rw [← hy322] at H);(try simp only [Option.bind_some] at H)));have Ny322:=Aside0.mk hy322;clear hy322
       go_wp2_with (first | ((with_reducible refine gd 21 rfl (L ?_));refine apa (A:=Ax5_1) 21 S Try.underlying35 info3 ?_ (ho:=rfl) (hs:=rfl) (hx:=rfl);clear S F;intro Ay322 cy322 W S;(try rw [← Ny322.out] at S ⊢);have F:=S.fc))
       go_roundg k1
       case measure=>omega
       case rel=>exact ⟨y322,(wrap64 (x10_1 + 1)),_,_,(by first | rfl | (simp;done) | (simp [*];done) | (rw [w6_ (by omega) (by omega)])),rfl,H,(by first | omega | exact Nat.le_refl _),S⟩
     · skip
       replace c6:=cne c6
       go_wp2
       go_roundg k1
       case measure=>omega
       case rel=>exact ⟨x5_1,(wrap64 (x10_1 + 1)),_,_,(by first | rfl | (simp;done) | (simp [*];done) | (rw [w6_ (by omega) (by omega)])),rfl,H,(by first | omega | exact Nat.le_refl _),S⟩
   · skip
     obtain rfl:=Option.some.inj H
     go_wp2
     go_ret
     exact ⟨_,(by first | rfl | (simp [e0_,e1_] <;> rfl) | (simp [*,e0_,e1_] <;> rfl)),(by first | exact S.r | exact Kd.R_nil _ _ _ _ _),S.below⟩

/-! ### impl_timesReached: function 105 -/
def impl_timesReached.l0:Nat→List Int→List Int→Int→Int→Option (List Int)
  | 0,_,_,_,_=>none
  | k + 1,x3,x9,x10,x11=>if x11 < x10 then (if 0 ≤ x11 then (if x11 < (x9.length:Int) then (if 0 ≤ (rd x9 x11) then (if (rd x9 x11) < (x3.length:Int) then (impl_timesReached.l0 k (x3.set ((rd x9 x11):Int).toNat (wrap64 ((rd x3 (rd x9 x11)) + 1))) x9 x10 (wrap64 (x11 + 1))) else (none)) else (none)) else (none)) else (none)) else (some x3)
def impl_timesReached.f (k:Nat) (l0:List Int):Option (List Int):=if 0 ≤ (l0.length:Int) then (if ((l0.length:Int):Int).toNat ≤ 35184372088832 then (impl_timesReached.l0 k (List.replicate ((l0.length:Int):Int).toNat 0) l0 (l0.length:Int) 0) else (none)) else (none)
theorem impl_timesReached.calls (k:Nat) (A0:Option Addr) (c0:Nat) (l0:List Int) (r:List Int) (w:World) (hr0:Kd.C (Kd.int .i64) w A0 l0.length l0) (hc0:l0.length ≤ c0) (h:impl_timesReached.f k l0 = some r) :
    Calls Try.prog 105 #[.slice A0 l0.length c0] w fun e w'=>∃ v0_:Value,e = .returned (v0_)∧Kd.R (Kd.int .i64) 3 w' w.heap.size (fun _=>True) v0_ r∧Below w.heap.size w w':=by
 have S:=St.init (w:=w) (dc (Kd.heap_int .i64) (atI .i64) hr0 hc0 dn)
 clear hr0 hc0
 have F:=S.fc
 have H:=h;clear h;unfold impl_timesReached.f at H
 replace H:=np_ H;obtain ⟨c2,H⟩:=H;(try simp only [F] at c2)
 replace H:=np_ H;obtain ⟨c3,H⟩:=H;(try simp only [F] at c3)
 (first | (with_reducible replace H:=ob_ H;obtain ⟨y425,hy425,H⟩:=H;(try dsimp only at H)) | (obtain ⟨y425,hy425⟩:∃ y_:List Int,y_ = (List.replicate ((l0.length:Int):Int).toNat 0):=⟨_,rfl⟩;(try rw [← hy425] at H);(try simp only [Option.bind_some] at H)));have Ny425:=Aside0.mk hy425;clear hy425
 go_enter Try.func105,Try.ntmps105
 go_wp2_with (first | ((with_reducible refine gd 8 rfl (L ?_));refine mka 8 (atI .i64) S Try.underlying35 info3 ?_;clear S F;intro Ay425 cy425 W S;(try simp only [Int.reduceToNat] at S ⊢);(try rw [← Ny425.out] at S ⊢);have F:=S.fc) | ((with_reducible refine gs (t:=3) rfl (L ?_));(first | refine sb (.int _ _) S sz3 ?_ | refine ro (.int _ _) S sz3 ?_ (ho:=rfl) (hx:=rfl) (hy:=rfl));clear S F;intro W S;(try rw [← Ny425.out] at S);have F:=S.fc))
 go_loopg [11] k (fun kq v11 w'=>∃ (x3_1:List Int) (x11_1:Int),v11 = .int .i64 x11_1∧impl_timesReached.l0 kq x3_1 l0 (l0.length:Int) x11_1 = some r∧kq ≤ k∧St w w (fun _=>False) [bor (atI .i64) A0 c0 l0] w'  [row (atI .i64) 3 Ay425 y425.length cy425 x3_1])
 case atStart=>exact ⟨y425,0,(by first | rfl | (simp;done) | (simp [*];done) | (rw [w6_ (by omega) (by omega)])),(by first | exact H | (simp only [F];exact H)),Nat.le_refl _,S⟩
 case round =>
  clear H S F
  obtain ⟨x3_1,x11_1,rfl,HA,HK1,S⟩:=hrel
  have F:=S.fc
  cases gk with
  | zero=>exact absurd HA (by simp [impl_timesReached.l0])
  | succ k1 =>
   have H:=HA;clear HA;simp only [impl_timesReached.l0,F] at H
   replace H:=sp_ H;rcases H with ⟨c6,H⟩ | ⟨c6,H⟩
   · skip
     replace H:=np_ H;obtain ⟨c7,H⟩:=H;(try simp only [F] at c7)
     replace H:=np_ H;obtain ⟨c8,H⟩:=H;(try simp only [F] at c8)
     replace H:=np_ H;obtain ⟨c9,H⟩:=H;(try simp only [F] at c9)
     replace H:=np_ H;obtain ⟨c10,H⟩:=H;(try simp only [F] at c10)
     (first | (with_reducible replace H:=ob_ H;obtain ⟨y430,hy430,H⟩:=H;(try dsimp only at H)) | (obtain ⟨y430,hy430⟩:∃ y_:List Int,y_ = (x3_1.set ((rd l0 x11_1):Int).toNat (wrap64 ((rd x3_1 (rd l0 x11_1)) + 1))):=⟨_,rfl⟩;(try rw [← hy430] at H);(try simp only [Option.bind_some] at H)));have Ny430:=Aside0.mk hy430;clear hy430
     go_wp2_with (first | ((with_reducible refine gs (t:=3) rfl (L ?_));(first | refine sb (.int _ _) S sz3 ?_ | refine ro (.int _ _) S sz3 ?_ (ho:=rfl) (hx:=rfl) (hy:=rfl));clear S F;intro W S;(try rw [← Ny425.out] at S);(try rw [← Ny430.out] at S);have F:=S.fc))
     go_roundg k1
     case measure=>omega
     case rel=>exact ⟨y430,(wrap64 (x11_1 + 1)),(by first | rfl | (simp;done) | (simp [*];done) | (rw [w6_ (by omega) (by omega)])),(by first | exact H | (simp only [F];exact H)),(by first | omega | exact Nat.le_refl _),S⟩
   · skip
     obtain rfl:=Option.some.inj H
     go_wp2_with (first | ((with_reducible refine gs (t:=3) rfl (L ?_));(first | refine sb (.int _ _) S sz3 ?_ | refine ro (.int _ _) S sz3 ?_ (ho:=rfl) (hx:=rfl) (hy:=rfl));clear S F;intro W S;(try rw [← Ny425.out] at S);have F:=S.fc))
     go_ret
     exact ⟨_,(by first | rfl | (simp [e0_,e1_] <;> rfl) | (simp [*,e0_,e1_] <;> rfl)),(by first | exact S.r | exact Kd.R_nil _ _ _ _ _),S.below⟩
end Go.Proofs.Ytimeepcpgjnajaa.F
