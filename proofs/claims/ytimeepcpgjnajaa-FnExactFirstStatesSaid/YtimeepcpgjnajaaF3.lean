-- Printed by a program; checked here.
import Derived.Test.YtimeepcpgjnajaaF0
import Derived.Test.YtimeepcpgjnajaaF2
namespace Go.Proofs.Ytimeepcpgjnajaa.F
open Go.RowKit Go.Proofs.YtimeepcpgjnajaaV.PrintWords Go.Proofs.YtimeepcpgjnajaaV.PrintLast Go.Proofs.YtimeepcpgjnajaaV.PrintMore Go.Proofs.YtimeepcpgjnajaaV.Sl
attribute [local go_sem] max2_int min2_int max_two min_two max_three min_three max_four min_four ia_opt it_opt
attribute [local go_sem] Try.underlying23 Try.underlying25 Try.underlying27 Try.underlying35 Try.underlying50 Try.underlying80 Try.underlying114 Try.underlying137
set_option maxHeartbeats 8000000
set_option maxRecDepth 100000
set_option linter.unusedVariables false
set_option linter.unusedSimpArgs false

/-! ### impl_bitList: function 150 -/
def impl_bitList.l0:Nat→Int→List Int→Int→Int→Option (List Int)
  | 0,_,_,_,_=>none
  | k + 1,x0,x5,x10,x11=>if x11 < x10 then (if 0 ≤ x11 then (if x11 < (x5.length:Int) then (impl_bitList.l0 k x0 (x5.set (x11:Int).toNat (Go.bits .and .i64 (shr .i64 x0 x11) 1)) x10 (wrap64 (x11 + 1))) else (none)) else (none)) else (some x5)
def impl_bitList.f (k:Nat) (a0:Int) (a1:Int):Option (List Int):=if 0 ≤ a1 then (if (a1:Int).toNat ≤ 35184372088832 then ((some (List.replicate (a1:Int).toNat 0:List Int)).bind fun y447=>(impl_bitList.l0 k a0 y447 (y447.length:Int) 0)) else (none)) else (none)
theorem impl_bitList.calls (k:Nat) (a0:Int) (a1:Int) (r:List Int) (w:World) (h:impl_bitList.f k a0 a1 = some r) :
    Calls Try.prog 150 #[.int .i64 a0,.int .i64 a1] w fun e w'=>∃ v0_:Value,e = .returned (v0_)∧Kd.R (Kd.int .i64) 3 w' w.heap.size (fun _=>True) v0_ r∧Below w.heap.size w w':=by
 have S:=St.init (w:=w) dn
 have F:=S.fc
 have H:=h;clear h;unfold impl_bitList.f at H
 replace H:=np_ H;obtain ⟨c3,H⟩:=H;(try simp only [F] at c3)
 replace H:=np_ H;obtain ⟨c4,H⟩:=H;(try simp only [F] at c4)
 (first | (with_reducible replace H:=ob_ H;obtain ⟨y447,hy447,H⟩:=H;(try dsimp only at H)) | (obtain ⟨y447,hy447⟩:∃ y_:List Int,y_ = (List.replicate (a1:Int).toNat 0):=⟨_,rfl⟩;(try rw [← hy447] at H);(try simp only [Option.bind_some] at H)));have Ny447:=Aside0.mk hy447;clear hy447
 go_enter Try.func150,Try.ntmps150
 go_wp2_with (first | ((with_reducible refine gd 8 rfl (L ?_));refine mka 8 (atI .i64) S Try.underlying35 info3 ?_;clear S F;intro Ay447 cy447 W S;(try simp only [Int.reduceToNat] at S ⊢);(try rw [← Ny447.out] at S ⊢);have F:=S.fc) | ((with_reducible refine gs (t:=3) rfl (L ?_));(first | refine sb (.int _ _) S sz3 ?_ | refine ro (.int _ _) S sz3 ?_ (ho:=rfl) (hx:=rfl) (hy:=rfl));clear S F;intro W S;(try rw [← Ny447.out] at S);have F:=S.fc))
 go_loopg [11] k (fun kq v11 w'=>∃ (x5_1:List Int) (x11_1:Int),v11 = .int .i64 x11_1∧impl_bitList.l0 kq a0 x5_1 (y447.length:Int) x11_1 = some r∧kq ≤ k∧St w w (fun _=>False) [] w'  [row (atI .i64) 3 Ay447 y447.length cy447 x5_1])
 case atStart=>exact ⟨y447,0,(by first | rfl | (simp;done) | (simp [*];done) | (rw [w6_ (by omega) (by omega)])),(by first | exact H | (simp only [F];exact H)),Nat.le_refl _,S⟩
 case round =>
  clear H S F
  obtain ⟨x5_1,x11_1,rfl,HA,HK1,S⟩:=hrel
  have F:=S.fc
  cases gk with
  | zero=>exact absurd HA (by simp [impl_bitList.l0])
  | succ k1 =>
   have H:=HA;clear HA;simp only [impl_bitList.l0,F] at H
   replace H:=sp_ H;rcases H with ⟨c8,H⟩ | ⟨c8,H⟩
   · skip
     replace H:=np_ H;obtain ⟨c9,H⟩:=H;(try simp only [F] at c9)
     obtain ⟨ji10,hji10⟩:∃ j_:Int,(shr .i64 a0 x11_1) = j_:=⟨_,rfl⟩;simp only [hji10] at H
     have hji10_:(a0 / 2 ^ min x11_1.toNat 64) = ji10:=hji10
     have hji10z:x11_1 ≤ 64→(a0 / 2 ^ x11_1.toNat) = ji10:=shr_small hji10
     replace H:=np_ H;obtain ⟨c11,H⟩:=H;(try simp only [F] at c11)
     (first | (with_reducible replace H:=ob_ H;obtain ⟨y450,hy450,H⟩:=H;(try dsimp only at H)) | (obtain ⟨y450,hy450⟩:∃ y_:List Int,y_ = (x5_1.set (x11_1:Int).toNat (Go.bits .and .i64 (ji10) 1)):=⟨_,rfl⟩;(try rw [← hy450] at H);(try simp only [Option.bind_some] at H)));have Ny450:=Aside0.mk hy450;clear hy450
     go_wp2_with (first | ((with_reducible refine gs (t:=3) rfl (L ?_));(first | refine sb (.int _ _) S sz3 ?_ | refine ro (.int _ _) S sz3 ?_ (ho:=rfl) (hx:=rfl) (hy:=rfl));clear S F;intro W S;(try rw [← Ny447.out] at S);(try rw [← Ny450.out] at S);have F:=S.fc))
     go_roundg k1
     case measure=>omega
     case rel=>exact ⟨y450,(wrap64 (x11_1 + 1)),(by first | rfl | (simp;done) | (simp [*];done) | (rw [w6_ (by omega) (by omega)])),(by first | exact H | (simp only [F];exact H)),(by first | omega | exact Nat.le_refl _),S⟩
   · skip
     obtain rfl:=Option.some.inj H
     go_wp2_with (first | ((with_reducible refine gs (t:=3) rfl (L ?_));(first | refine sb (.int _ _) S sz3 ?_ | refine ro (.int _ _) S sz3 ?_ (ho:=rfl) (hx:=rfl) (hy:=rfl));clear S F;intro W S;(try rw [← Ny447.out] at S);have F:=S.fc))
     go_ret
     exact ⟨_,(by first | rfl | (simp [e0_,e1_] <;> rfl) | (simp [*,e0_,e1_] <;> rfl)),(by first | exact S.r | exact Kd.R_nil _ _ _ _ _),S.below⟩

/-! ### impl_GoesTo: function 175 -/
mutual
def impl_GoesTo.j0:Nat→Int→Bool→Int→Int→Option (Int × Bool)
 | 0,_,_,_,_=>none
 | k + 1,x1,x21,x452000,x452001=>if x21 = true then (some (0,false)) else (if x452000 = 1 then (some ((-1),true)) else (if x452000 = 2 then (some (1,true)) else (if x452000 = 3 then (impl_GoesTo.j1 k x1 x452000 (x452000 == 3) x452000 x452001) else (impl_GoesTo.j1 k x1 x452000 (x452000 == 6) x452000 x452001))))
def impl_GoesTo.j1:Nat→Int→Int→Bool→Int→Int→Option (Int × Bool)
 | 0,_,_,_,_,_=>none
 | k + 1,x1,x23,x28,x452000,x452001=>if x28 = true then (some (wrap64 ((wrap64 (2 * x452001)) - 1),true)) else (if x23 = 4 then (some (wrap64 (-x1),true)) else (some (0,true)))
end
def impl_GoesTo.f (k:Nat) (a0_0:Int) (a0_1:Int) (a1:Int):Option (Int × Bool):=(impl_IsCell.f a0_0 a0_1).bind fun t452=>(if t452 = true then (if a1 < (-1) then (impl_GoesTo.j0 k a1 true a0_0 a0_1) else (if a1 > 1 then (impl_GoesTo.j0 k a1 true a0_0 a0_1) else (impl_GoesTo.j0 k a1 (a0_0 == 5) a0_0 a0_1))) else (impl_GoesTo.j0 k a1 true a0_0 a0_1))
theorem impl_GoesTo.calls (k:Nat) (a0_0:Int) (a0_1:Int) (a1:Int) (r1:Int) (r2:Bool) (w:World) (h:impl_GoesTo.f k a0_0 a0_1 a1 = some (r1,r2)) :
  Calls Try.prog 175 #[.agg #[.int .i64 a0_0,.int .i64 a0_1],.int .i64 a1] w fun e w'=>e = .returned (.tuple #[.int .i64 r1,.bool r2])∧Below w.heap.size w w':=by
 have HB:=Aside0.mk (Below.refl w.heap.size w);have H:((impl_IsCell.f a0_0 a0_1).bind fun t452=>(if t452 = true then (if a1 < (-1) then (impl_GoesTo.j0 k a1 true a0_0 a0_1) else (if a1 > 1 then (impl_GoesTo.j0 k a1 true a0_0 a0_1) else (impl_GoesTo.j0 k a1 (a0_0 == 5) a0_0 a0_1))) else (impl_GoesTo.j0 k a1 true a0_0 a0_1))) = some (r1,r2):=h;clear h;have HC3:=Aside0.mk H;clear H;go_enter Try.func175,Try.ntmps175;go_upto_region 1 with (first | ((with_reducible refine gate_dst (N:=2) rfl ?_);refine box_event ?hg (N:=2) ?hd (cs:=#[.int .i64 a0_0,.int .i64 a0_1]) (t:=27) ?hr ?_;(case hd=>rfl);(case hg=>rfl);(case hr=>first | (go_simp;done) | (go_simp;rfl));intro gb451 hg w4 hbox hb;refine ev4 (bs HB hb) (hbox) (gle hg HB) (gle hg HB) ?_;clear HB;intro HB BK451 GW451 GE451;clear hb hbox hg))
 (try simp only [Act.put,za_,zb_,zc_])
 go_cut [21] (fun v21 wc=>∃ (kq:Nat) (x21_2:Bool),v21 = .bool x21_2∧Aside0 (impl_GoesTo.j0 kq a1 x21_2 a0_0 a0_1 = some (r1,r2))∧Aside0 (kq ≤ k)∧Aside0 (wc.heap[gb451]? = some (.cells #[.int .i64 a0_0,.int .i64 a0_1] 27 (0,0)))∧Aside0 (Below w.heap.size w wc))
 case first =>
  have H:=HC3.out;clear HC3;replace H:=Option.bind_eq_some_iff.mp H;obtain ⟨t452,A50,H⟩:=H;(try dsimp only at H)
  have A5:=Aside0.mk A50;clear A50;by_cases c6:t452 = true
  ·subst c6;have H1:(if a1 < (-1) then (impl_GoesTo.j0 k a1 true a0_0 a0_1) else (if a1 > 1 then (impl_GoesTo.j0 k a1 true a0_0 a0_1) else (impl_GoesTo.j0 k a1 (a0_0 == 5) a0_0 a0_1))) = some (r1,r2):=by rw [if_pos rfl] at H;exact H
   clear H;have H:=H1;clear H1;by_cases c7:a1 < (-1)
   ·rw [if_pos c7] at H;have c7b0:decide (a1 < (-1)) = true:=decide_eq_true c7;clear c7;(first | rw [c7b0] | (simp only [i64_w,i32_w];rw [c7b0]) | skip)
    have H':=Aside0.mk H;clear H;obtain ⟨hcz8_0,hcz8_1,hfz8_0,hfz8_1⟩:=bt2 BK451;go_wp2_with (first | ((with_reducible refine gate_callee (f:=79) rfl ?_);refine gL_ (some 7) Try.func79 #[.agg #[.int .i64 a0_0,.int .i64 a0_1]] (h:=?_);(with_reducible refine (impl_IsCell.calls a0_0 a0_1 true _ A5.out).mono ?_);rintro e w9 ⟨rfl,hb⟩;refine ⟨_,rfl,?_⟩;refine ev2 (kb BK451 hb) (bs HB hb) ?_;clear BK451 HB;intro BK451 HB;(try clear hb)))
    go_meet
    case rel=>exact ⟨_,(true),(by first | rfl | (simp;done) | (simp [*];done)),H',⟨by first | omega | exact Nat.le_refl _⟩,⟨km_ BK451⟩,⟨bm HB⟩⟩
   ·rw [if_neg c7] at H;have c7b0:decide (a1 < (-1)) = false:=decide_eq_false c7;clear c7;(first | rw [c7b0] | (simp only [i64_w,i32_w];rw [c7b0]) | skip)
    by_cases c10:a1 > 1
    ·rw [if_pos c10] at H;have c10b0:decide (1 < a1) = true:=decide_eq_true c10;clear c10;have H':=Aside0.mk H;clear H;obtain ⟨hcz11_0,hcz11_1,hfz11_0,hfz11_1⟩:=bt2 BK451;go_wp2_with (first | ((with_reducible refine gate_callee (f:=79) rfl ?_);refine gL_ (some 7) Try.func79 #[.agg #[.int .i64 a0_0,.int .i64 a0_1]] (h:=?_);(with_reducible refine (impl_IsCell.calls a0_0 a0_1 true _ A5.out).mono ?_);rintro e w12 ⟨rfl,hb⟩;refine ⟨_,rfl,?_⟩;refine ev2 (kb BK451 hb) (bs HB hb) ?_;clear BK451 HB;intro BK451 HB;(try clear hb)))
     go_meet
     case rel=>exact ⟨_,(true),(by first | rfl | (simp;done) | (simp [*];done)),H',⟨by first | omega | exact Nat.le_refl _⟩,⟨km_ BK451⟩,⟨bm HB⟩⟩
    ·rw [if_neg c10] at H;have c10b0:decide (1 < a1) = false:=decide_eq_false c10;clear c10;have H':=Aside0.mk H;clear H;obtain ⟨hcz13_0,hcz13_1,hfz13_0,hfz13_1⟩:=bt2 BK451;go_wp2_with (first | ((with_reducible refine gate_callee (f:=79) rfl ?_);refine gL_ (some 7) Try.func79 #[.agg #[.int .i64 a0_0,.int .i64 a0_1]] (h:=?_);(with_reducible refine (impl_IsCell.calls a0_0 a0_1 true _ A5.out).mono ?_);rintro e w14 ⟨rfl,hb⟩;refine ⟨_,rfl,?_⟩;refine ev2 (kb BK451 hb) (bs HB hb) ?_;clear BK451 HB;intro BK451 HB;(try clear hb);obtain ⟨hcz15_0,hcz15_1,hfz15_0,hfz15_1⟩:=bt2 BK451))
     go_meet
     case rel=>exact ⟨_,((a0_0 == 5)),(by first | rfl | (simp;done) | (simp [*];done)),H',⟨by first | omega | exact Nat.le_refl _⟩,⟨km_ BK451⟩,⟨bm HB⟩⟩
  ·replace c6:=Bool.eq_false_iff.mpr c6;subst c6;have H1:(impl_GoesTo.j0 k a1 true a0_0 a0_1) = some (r1,r2):=by rw [if_neg (show ¬ (false = true) by decide)] at H;exact H
   clear H;have H:=H1;clear H1;have H':=Aside0.mk H;clear H;obtain ⟨hcz16_0,hcz16_1,hfz16_0,hfz16_1⟩:=bt2 BK451;go_wp2_with (first | ((with_reducible refine gate_callee (f:=79) rfl ?_);refine gL_ (some 7) Try.func79 #[.agg #[.int .i64 a0_0,.int .i64 a0_1]] (h:=?_);(with_reducible refine (impl_IsCell.calls a0_0 a0_1 false _ A5.out).mono ?_);rintro e w17 ⟨rfl,hb⟩;refine ⟨_,rfl,?_⟩;refine ev2 (kb BK451 hb) (bs HB hb) ?_;clear BK451 HB;intro BK451 HB;(try clear hb)))
   go_meet
   case rel=>exact ⟨_,(true),(by first | rfl | (simp;done) | (simp [*];done)),H',⟨by first | omega | exact Nat.le_refl _⟩,⟨km_ BK451⟩,⟨bm HB⟩⟩
 case rest =>
  clear HC3;(try clear c1);(try clear c17);obtain ⟨kq,x21_2,rfl,HA,HJ2,BK451,HB⟩:=hcut;cases kq with
  | zero=>exact absurd HA.out (by simp [impl_GoesTo.j0])
  | succ kj2 =>
   have H:=HA.out;clear HA;simp only [impl_GoesTo.j0] at H;by_cases c18:x21_2 = true
   ·subst c18;have H1:(some (0,false)) = some (r1,r2):=by rw [if_pos rfl] at H;exact H
    clear H;have H:=H1;clear H1;simp only [Option.some.injEq,Prod.mk.injEq] at H;obtain ⟨rfl,rfl⟩:=H;go_wp2;go_ret2
    exact ⟨by first | rfl | (simp [e0_,e1_] <;> rfl) | (simp [*,e0_,e1_] <;> rfl),bm HB⟩
   ·replace c18:=Bool.eq_false_iff.mpr c18;subst c18;have H1:(if a0_0 = 1 then (some ((-1),true)) else (if a0_0 = 2 then (some (1,true)) else (if a0_0 = 3 then (impl_GoesTo.j1 kj2 a1 a0_0 (a0_0 == 3) a0_0 a0_1) else (impl_GoesTo.j1 kj2 a1 a0_0 (a0_0 == 6) a0_0 a0_1)))) = some (r1,r2):=by rw [if_neg (show ¬ (false = true) by decide)] at H;exact H
    clear H;have H:=H1;clear H1;by_cases c19:a0_0 = 1
    ·rw [if_pos c19] at H;have c19b0:(a0_0 == 1) = true:=beq_iff_eq.mpr c19;have c19b1:(a0_0 != 1) = false:=bne_eq_false_iff_eq.mpr c19;clear c19;simp only [Option.some.injEq,Prod.mk.injEq] at H;obtain ⟨rfl,rfl⟩:=H;obtain ⟨hcz20_0,hcz20_1,hfz20_0,hfz20_1⟩:=bt2 BK451;go_wp2;go_ret2
     exact ⟨by first | rfl | (simp [e0_,e1_] <;> rfl) | (simp [*,e0_,e1_] <;> rfl),bm HB⟩
    ·rw [if_neg c19] at H;have c19b0:(a0_0 == 1) = false:=beq_eq_false_iff_ne.mpr c19;have c19b1:(a0_0 != 1) = true:=bne_iff_ne.mpr c19;by_cases c21:a0_0 = 2
     ·rw [if_pos c21] at H;have c21b0:(a0_0 == 2) = true:=beq_iff_eq.mpr c21;have c21b1:(a0_0 != 2) = false:=bne_eq_false_iff_eq.mpr c21;clear c21;simp only [Option.some.injEq,Prod.mk.injEq] at H;obtain ⟨rfl,rfl⟩:=H;obtain ⟨hcz22_0,hcz22_1,hfz22_0,hfz22_1⟩:=bt2 BK451;go_wp2;go_ret2
      exact ⟨by first | rfl | (simp [e0_,e1_] <;> rfl) | (simp [*,e0_,e1_] <;> rfl),bm HB⟩
     ·rw [if_neg c21] at H;have c21b0:(a0_0 == 2) = false:=beq_eq_false_iff_ne.mpr c21;have c21b1:(a0_0 != 2) = true:=bne_iff_ne.mpr c21;have HC23:=Aside0.mk H;clear H;obtain ⟨hcz24_0,hcz24_1,hfz24_0,hfz24_1⟩:=bt2 BK451;go_upto_if 28 with (fail)
      go_cut [28] (fun v28 wc=>∃ (kq:Nat) (x28_22:Bool),v28 = .bool x28_22∧Aside0 (impl_GoesTo.j1 kq a1 a0_0 x28_22 a0_0 a0_1 = some (r1,r2))∧Aside0 (kq ≤ kj2)∧Aside0 (wc.heap[gb451]? = some (.cells #[.int .i64 a0_0,.int .i64 a0_1] 27 (0,0)))∧Aside0 (Below w.heap.size w wc))
      case first =>
       have H:=HC23.out;clear HC23;by_cases c25:a0_0 = 3
       ·rw [if_pos c25] at H;have c25b0:(a0_0 == 3) = true:=beq_iff_eq.mpr c25;have c25b1:(a0_0 != 3) = false:=bne_eq_false_iff_eq.mpr c25;clear c25;(first | rw [c25b0] | (simp only [i64_w,i32_w];rw [c25b0]) | skip)
        have H':=Aside0.mk H;clear H;go_wp2;go_meet
        case rel=>exact ⟨_,((a0_0 == 3)),(by first | rfl | (simp;done) | (simp [*];done)),H',⟨by have:=HJ2.out;first | omega | exact Nat.le_refl _⟩,⟨km_ BK451⟩,⟨bm HB⟩⟩
       ·rw [if_neg c25] at H;have c25b0:(a0_0 == 3) = false:=beq_eq_false_iff_ne.mpr c25;have c25b1:(a0_0 != 3) = true:=bne_iff_ne.mpr c25;(first | rw [c25b0] | (simp only [i64_w,i32_w];rw [c25b0]) | skip)
        have H':=Aside0.mk H;clear H;go_wp2;go_meet
        case rel=>exact ⟨_,((a0_0 == 6)),(by first | rfl | (simp;done) | (simp [*];done)),H',⟨by have:=HJ2.out;first | omega | exact Nat.le_refl _⟩,⟨km_ BK451⟩,⟨bm HB⟩⟩
      case rest =>
       clear HC23;(try clear c1);(try clear c2);(try clear c17);(try clear c18);(try clear c19);(try clear c19b0);(try clear c19b1);(try clear c21);(try clear c21b0);(try clear c21b1);(try clear hcz24_0 hcz24_1 hfz24_0 hfz24_1);obtain ⟨kq,x28_22,rfl,HA,HJ22,BK451,HB⟩:=hcut;cases kq with
       | zero=>exact absurd HA.out (by simp [impl_GoesTo.j1])
       | succ kj22 =>
        have H:=HA.out;clear HA;simp only [impl_GoesTo.j1] at H;by_cases c26:x28_22 = true
        ·subst c26;have H1:(some (wrap64 ((wrap64 (2 * a0_1)) - 1),true)) = some (r1,r2):=by rw [if_pos rfl] at H;exact H
         clear H;have H:=H1;clear H1;simp only [Option.some.injEq,Prod.mk.injEq] at H;obtain ⟨rfl,rfl⟩:=H;obtain ⟨hcz27_0,hcz27_1,hfz27_0,hfz27_1⟩:=bt2 BK451;go_wp2;go_ret2
         exact ⟨by first | rfl | (simp [e0_,e1_] <;> rfl) | (simp [*,e0_,e1_] <;> rfl),bm HB⟩
        ·replace c26:=Bool.eq_false_iff.mpr c26;subst c26;have H1:(if a0_0 = 4 then (some (wrap64 (-a1),true)) else (some (0,true))) = some (r1,r2):=by rw [if_neg (show ¬ (false = true) by decide)] at H;exact H
         clear H;have H:=H1;clear H1;by_cases c28:a0_0 = 4
         ·rw [if_pos c28] at H;have c28b0:(a0_0 == 4) = true:=beq_iff_eq.mpr c28;have c28b1:(a0_0 != 4) = false:=bne_eq_false_iff_eq.mpr c28;clear c28;simp only [Option.some.injEq,Prod.mk.injEq] at H;obtain ⟨rfl,rfl⟩:=H;go_wp2;go_ret2
          exact ⟨by first | rfl | (simp [e0_,e1_] <;> rfl) | (simp [*,e0_,e1_] <;> rfl),bm HB⟩
         ·rw [if_neg c28] at H;have c28b0:(a0_0 == 4) = false:=beq_eq_false_iff_ne.mpr c28;have c28b1:(a0_0 != 4) = true:=bne_iff_ne.mpr c28;simp only [Option.some.injEq,Prod.mk.injEq] at H;obtain ⟨rfl,rfl⟩:=H;go_wp2;go_ret2
          exact ⟨by first | rfl | (simp [e0_,e1_] <;> rfl) | (simp [*,e0_,e1_] <;> rfl),bm HB⟩

/-! ### impl_turnGroup: function 176 -/
def impl_turnGroup.l0:Nat→List Int→Int→Int→Int→Int→Int→List (S27)→Option ((List (S27)))
  | 0,_,_,_,_,_,_,_=>none
  | k + 1,x1,x2,x9,x10,x454000,x454001,x454002=>if x10 < x9 then (if 0 ≤ x10 then (if x10 < (x454002.length:Int) then (if ((rd_T27 x454002 x10).f0) = 6 then (if x10 < (x1.length:Int) then (if 0 ≤ x2 then (if x2 < (x1.length:Int) then (if (rd x1 x10) = (rd x1 x2) then (impl_turnGroup.l0 k x1 x2 x9 (wrap64 (x10 + 1)) x454000 x454001 (x454002.set (x10:Int).toNat (⟨(rd_T27 x454002 x10).f0,wrap64 (1 - ((rd_T27 x454002 x10).f1))⟩:S27))) else (impl_turnGroup.l0 k x1 x2 x9 (wrap64 (x10 + 1)) x454000 x454001 x454002)) else (none)) else (none)) else (none)) else (impl_turnGroup.l0 k x1 x2 x9 (wrap64 (x10 + 1)) x454000 x454001 x454002)) else (none)) else (none)) else (some x454002)
def impl_turnGroup.f (k:Nat) (a0_0:Int) (a0_1:Int) (l0_2:List (S27)) (l1:List Int) (a2:Int):Option ((List (S27))):=impl_turnGroup.l0 k l1 a2 (l0_2.length:Int) 0 a0_0 a0_1 l0_2
theorem impl_turnGroup.calls (k:Nat) (a0_0:Int) (a0_1:Int) (P0_2_:Nat→Prop) (u9000_:Value) (l0_2:List (S27)) (A1:Option Addr) (c1:Nat) (l1:List Int) (a2:Int) (r:List (S27)) (w0 w:World) (hB:Below w0.heap.size w0 w) (ho0_2:Kd.R k27 27 w w0.heap.size P0_2_ u9000_ l0_2) (hr1:∀ W_,Kept w W_ (fun k_=>P0_2_ k_)→Kd.C (Kd.int .i64) W_ A1 l1.length l1) (hc1:l1.length ≤ c1) (h:impl_turnGroup.f k a0_0 a0_1 l0_2 l1 a2 = some r) :
    Calls Try.prog 176 #[.agg #[.int .i64 a0_0,.int .i64 a0_1,u9000_],.slice A1 l1.length c1,.int .i64 a2] w fun e w'=>e = .returned (.tuple #[])∧Kd.R k27 27 w' w0.heap.size (fun k_=>(P0_2_ k_∨w.heap.size ≤ k_)) u9000_ r∧Below w0.heap.size w0 w'∧Kept w w' (fun k_=>P0_2_ k_):=by
 obtain ⟨Al0_2,cl0_2,rfl⟩:=Kd.R_slice ho0_2
 have S:=St.own1 at27 hB ho0_2 (dk (atI .i64) hr1 hc1 dn)
 clear hB ho0_2 hr1 hc1
 have F:=S.fc
 have H:=h;clear h;unfold impl_turnGroup.f at H
 go_enter Try.func176,Try.ntmps176
 go_wp2_with (first | ((with_reducible refine gd 3 rfl (L ?_));refine bo 3 (.agg #[_,_,_]) S ?_;clear S F;intro gb453 W S;have F:=S.fc) | ((with_reducible refine gs (t:=3) rfl (L ?_));(first | refine sb (.int _ _) S sz3 ?_ | refine ro (.int _ _) S sz3 ?_ (ho:=rfl) (hx:=rfl) (hy:=rfl));clear S F;intro W S;(try simp only [gd27] at S);have F:=S.fc))
 go_loopg [10] k (fun kq v10 w'=>∃ (x10_1:Int) (x454002_1:List (S27)),v10 = .int .i64 x10_1∧impl_turnGroup.l0 kq l1 a2 (l0_2.length:Int) x10_1 a0_0 a0_1 x454002_1 = some r∧kq ≤ k∧St w0 w P0_2_ [bor (atI .i64) A1 c1 l1] w'  [box gb453 25 [.int .i64 a0_0,.int .i64 a0_1,.slice Al0_2 l0_2.length cl0_2],row at27 27 Al0_2 l0_2.length cl0_2 x454002_1])
 case atStart=>exact ⟨0,l0_2,(by first | rfl | (simp;done) | (simp [*];done) | (rw [w6_ (by omega) (by omega)])),(by first | exact H | (simp only [F];exact H)),Nat.le_refl _,S⟩
 case round =>
  clear H S F
  obtain ⟨x10_1,x454002_1,rfl,HA,HK1,S⟩:=hrel
  have F:=S.fc
  cases gk with
  | zero=>exact absurd HA (by simp [impl_turnGroup.l0])
  | succ k1 =>
   have H:=HA;clear HA;simp only [impl_turnGroup.l0,F] at H
   replace H:=sp_ H;rcases H with ⟨c7,H⟩ | ⟨c7,H⟩
   · skip
     replace H:=np_ H;obtain ⟨c8,H⟩:=H;(try simp only [F] at c8)
     replace H:=np_ H;obtain ⟨c9,H⟩:=H;(try simp only [F] at c9)
     replace H:=sp_ H;rcases H with ⟨c10,H⟩ | ⟨c10,H⟩
     · skip
       replace c10:=ceq c10
       replace H:=np_ H;obtain ⟨c11,H⟩:=H;(try simp only [F] at c11)
       replace H:=np_ H;obtain ⟨c12,H⟩:=H;(try simp only [F] at c12)
       replace H:=np_ H;obtain ⟨c13,H⟩:=H;(try simp only [F] at c13)
       replace H:=sp_ H;rcases H with ⟨c14,H⟩ | ⟨c14,H⟩
       · skip
         replace c14:=ceq c14
         (first | (with_reducible replace H:=ob_ H;obtain ⟨y458,hy458,H⟩:=H;(try dsimp only at H)) | (obtain ⟨y458,hy458⟩:∃ y_:List (S27),y_ = (x454002_1.set (x10_1:Int).toNat (⟨(rd_T27 x454002_1 x10_1).f0,wrap64 (1 - ((rd_T27 x454002_1 x10_1).f1))⟩:S27)):=⟨_,rfl⟩;(try rw [← hy458] at H);(try simp only [Option.bind_some] at H)));have Ny458:=Aside0.mk hy458;clear hy458
         go_wp2_with (first | ((with_reducible refine gs (t:=3) rfl (L ?_));(first | refine sb (.int _ _) S sz3 ?_ | refine ro (.int _ _) S sz3 ?_ (ho:=rfl) (hx:=rfl) (hy:=rfl));clear S F;intro W S;(try simp only [gd27] at S);(try rw [← Ny458.out] at S);have F:=S.fc))
         refine rq S [(0,0),(0,2),(1,1),(0,3),(0,4),(1,5),(0,6),(0,7),(0,8),(0,9),(0,10),(0,12),(0,13),(0,14),(1,11),(1,15),(0,16),(0,17)] [] (h:=?_);clear S F;intro W S;have S0:=S;have F:=S.fc
         repeat (first | (refine q0 (h:=?_)) | (refine q1 S0 (h:=?_)) | (refine q0n (h:=?_)) | (refine q1n S0 (h:=?_)))
         refine oz ?_
         try clear S0
         go_wp2_with (first | ((with_reducible refine gs (t:=3) rfl (L ?_));(first | refine sb (.int _ _) S sz3 ?_ | refine ro (.int _ _) S sz3 ?_ (ho:=rfl) (hx:=rfl) (hy:=rfl));clear S F;intro W S;(try simp only [gd27] at S);(try rw [← Ny458.out] at S);have F:=S.fc))
         refine rq S [(0,0),(0,2),(0,3),(0,5),(1,1),(1,4),(0,6),(0,7),(1,8),(0,9),(0,10),(0,11),(3,12)] [12] (h:=?_);clear S F;intro W S;have S0:=S;have F:=S.fc
         repeat (first | (refine q0 (h:=?_)) | (refine q1 S0 (h:=?_)) | (refine q0n (h:=?_)) | (refine q1n S0 (h:=?_)))
         refine lk3 (by rfl) (by exact (Eq.refl true)) ?_;(first | refine sb (.int _ _) S sz3 ?_ | refine ro (.int _ _) S sz3 ?_ (ho:=rfl) (hx:=rfl) (hy:=rfl));clear S F;intro W S;(try simp only [gd27] at S);(try rw [← Ny458.out] at S);have F:=S.fc
         refine oz ?_
         try clear S0
         go_wp2_with (first | ((with_reducible refine gs (t:=3) rfl (L ?_));(first | refine sb (.int _ _) S sz3 ?_ | refine ro (.int _ _) S sz3 ?_ (ho:=rfl) (hx:=rfl) (hy:=rfl));clear S F;intro W S;(try simp only [gd27] at S);(try rw [← Ny458.out] at S);have F:=S.fc))
         go_roundg k1
         case measure=>omega
         case rel=>exact ⟨(wrap64 (x10_1 + 1)),y458,(by first | rfl | (simp;done) | (simp [*];done) | (rw [w6_ (by omega) (by omega)])),(by first | exact H | (simp only [F];exact H)),(by first | omega | exact Nat.le_refl _),S⟩
       · skip
         replace c14:=cne c14
         go_wp2_with (first | ((with_reducible refine gs (t:=3) rfl (L ?_));(first | refine sb (.int _ _) S sz3 ?_ | refine ro (.int _ _) S sz3 ?_ (ho:=rfl) (hx:=rfl) (hy:=rfl));clear S F;intro W S;(try simp only [gd27] at S);have F:=S.fc))
         refine rq S [(0,0),(0,2),(1,1),(0,3),(0,4),(1,5),(0,6),(0,7),(0,8),(0,9),(0,10),(0,12),(0,13),(0,14),(1,11),(1,15),(0,16),(0,17)] [] (h:=?_);clear S F;intro W S;have S0:=S;have F:=S.fc
         repeat (first | (refine q0 (h:=?_)) | (refine q1 S0 (h:=?_)) | (refine q0n (h:=?_)) | (refine q1n S0 (h:=?_)))
         refine oz ?_
         try clear S0
         go_wp2_with (first | ((with_reducible refine gs (t:=3) rfl (L ?_));(first | refine sb (.int _ _) S sz3 ?_ | refine ro (.int _ _) S sz3 ?_ (ho:=rfl) (hx:=rfl) (hy:=rfl));clear S F;intro W S;(try simp only [gd27] at S);have F:=S.fc))
         go_roundg k1
         case measure=>omega
         case rel=>exact ⟨(wrap64 (x10_1 + 1)),x454002_1,(by first | rfl | (simp;done) | (simp [*];done) | (rw [w6_ (by omega) (by omega)])),(by first | exact H | (simp only [F];exact H)),(by first | omega | exact Nat.le_refl _),S⟩
     · skip
       replace c10:=cne c10
       go_wp2_with (first | ((with_reducible refine gs (t:=3) rfl (L ?_));(first | refine sb (.int _ _) S sz3 ?_ | refine ro (.int _ _) S sz3 ?_ (ho:=rfl) (hx:=rfl) (hy:=rfl));clear S F;intro W S;(try simp only [gd27] at S);have F:=S.fc))
       refine rq S [(0,0),(0,2),(1,1),(0,3),(0,4),(1,5),(0,6),(0,7),(0,8),(0,9),(0,10),(0,11),(0,12),(0,13),(0,14),(0,15),(0,16),(0,17)] [] (h:=?_);clear S F;intro W S;have S0:=S;have F:=S.fc
       repeat (first | (refine q0 (h:=?_)) | (refine q1 S0 (h:=?_)) | (refine q0n (h:=?_)) | (refine q1n S0 (h:=?_)))
       refine oz ?_
       try clear S0
       go_wp2_with (first | ((with_reducible refine gs (t:=3) rfl (L ?_));(first | refine sb (.int _ _) S sz3 ?_ | refine ro (.int _ _) S sz3 ?_ (ho:=rfl) (hx:=rfl) (hy:=rfl));clear S F;intro W S;(try simp only [gd27] at S);have F:=S.fc))
       go_roundg k1
       case measure=>omega
       case rel=>exact ⟨(wrap64 (x10_1 + 1)),x454002_1,(by first | rfl | (simp;done) | (simp [*];done) | (rw [w6_ (by omega) (by omega)])),(by first | exact H | (simp only [F];exact H)),(by first | omega | exact Nat.le_refl _),S⟩
   · skip
     obtain rfl:=Option.some.inj H
     go_wp2_with (first | ((with_reducible refine gs (t:=3) rfl (L ?_));(first | refine sb (.int _ _) S sz3 ?_ | refine ro (.int _ _) S sz3 ?_ (ho:=rfl) (hx:=rfl) (hy:=rfl));clear S F;intro W S;(try simp only [gd27] at S);have F:=S.fc))
     first | go_end0 | ((try simp only [Exit.inBlock,Exit.then]);refine bodyPost_ret (results_none rfl _ _ _) rfl ?_)
     exact ⟨(by first | rfl | (simp [e0_,e1_] <;> rfl) | (simp [*,e0_,e1_] <;> rfl)),(by first | exact S.rp | exact Kd.R_nil _ _ _ _ _),S.below,S.kept⟩

/-! ### impl_drop: function 151 -/
mutual
def impl_drop.l0:Nat→List Int→Int→List Int→Int→Int→Int→Int→List (S27)→Option (Int × Int × Int × List Int × (List (S27)))
 | 0,_,_,_,_,_,_,_,_=>none
 | k + 1,x1,x2,x8,x9,x10,x460000,x460001,x460002=>if x10 < x460000 then (if x8.length < 17592186044416 then ((some (x8 ++ [wrap64 ((wrap64 (x10 * x460001)) + x2)]:List Int)).bind fun y464=>(if 0 ≤ (wrap64 ((wrap64 (x10 * x460001)) + x2)) then (if (wrap64 ((wrap64 (x10 * x460001)) + x2)) < (x460002.length:Int) then ((impl_GoesTo.f k ((rd_T27 x460002 (wrap64 ((wrap64 (x10 * x460001)) + x2))).f0) ((rd_T27 x460002 (wrap64 ((wrap64 (x10 * x460001)) + x2))).f1) x9).bind fun bt469=>(if bt469.2 = true then (if ((rd_T27 x460002 (wrap64 ((wrap64 (x10 * x460001)) + x2))).f0) = 3 then (impl_drop.j1 k x1 x2 y464 x10 (wrap64 ((wrap64 (x10 * x460001)) + x2)) bt469.1 x460000 x460001 (x460002.set ((wrap64 ((wrap64 (x10 * x460001)) + x2)):Int).toNat (⟨(rd_T27 x460002 (wrap64 ((wrap64 (x10 * x460001)) + x2))).f0,wrap64 (1 - ((rd_T27 x460002 (wrap64 ((wrap64 (x10 * x460001)) + x2))).f1))⟩:S27)) ((rd_T27 x460002 (wrap64 ((wrap64 (x10 * x460001)) + x2))).f0) ((rd_T27 x460002 (wrap64 ((wrap64 (x10 * x460001)) + x2))).f1)) else (impl_drop.j1 k x1 x2 y464 x10 (wrap64 ((wrap64 (x10 * x460001)) + x2)) bt469.1 x460000 x460001 x460002 ((rd_T27 x460002 (wrap64 ((wrap64 (x10 * x460001)) + x2))).f0) ((rd_T27 x460002 (wrap64 ((wrap64 (x10 * x460001)) + x2))).f1))) else (some (2,x10,x2,y464,x460002)))) else (none)) else (none))) else (none)) else (some (1,x460000,x2,x8,x460002))
def impl_drop.j1:Nat→List Int→Int→List Int→Int→Int→Int→Int→Int→List (S27)→Int→Int→Option (Int × Int × Int × List Int × (List (S27)))
 | 0,_,_,_,_,_,_,_,_,_,_,_=>none
 | k + 1,x1,x2,x8,x10,x11,x13,x460000,x460001,x460002,x469000,x469001=>if x469000 = 6 then ((impl_turnGroup.f k x460000 x460001 x460002 x1 x11).bind fun t472=>(if (wrap64 (x2 + x13)) < 0 then (some (3,x10,wrap64 (x2 + x13),x8,t472)) else (if (wrap64 (x2 + x13)) ≥ x460001 then (some (3,x10,wrap64 (x2 + x13),x8,t472)) else (impl_drop.l0 k x1 (wrap64 (x2 + x13)) x8 (wrap64 (-x13)) (wrap64 (x10 + 1)) x460000 x460001 t472)))) else (if (wrap64 (x2 + x13)) < 0 then (some (3,x10,wrap64 (x2 + x13),x8,x460002)) else (if (wrap64 (x2 + x13)) ≥ x460001 then (some (3,x10,wrap64 (x2 + x13),x8,x460002)) else (impl_drop.l0 k x1 (wrap64 (x2 + x13)) x8 (wrap64 (-x13)) (wrap64 (x10 + 1)) x460000 x460001 x460002)))
end
def impl_drop.f (k:Nat) (a0_0:Int) (a0_1:Int) (l0_2:List (S27)) (l1:List Int) (a2:Int):Option (Int × Int × Int × List Int × (List (S27))):=impl_drop.l0 k l1 a2 (([]:List Int)) 0 0 a0_0 a0_1 l0_2
theorem impl_drop.calls (k:Nat) (a0_0:Int) (a0_1:Int) (P0_2_:Nat→Prop) (u9000_:Value) (l0_2:List (S27)) (A1:Option Addr) (c1:Nat) (l1:List Int) (a2:Int) (r1:Int) (r2:Int) (r3:Int) (r4:List Int) (r5:List (S27)) (w0 w:World) (hB:Below w0.heap.size w0 w) (ho0_2:Kd.R k27 27 w w0.heap.size P0_2_ u9000_ l0_2) (hr1:∀ W_,Kept w W_ (fun k_=>P0_2_ k_)→Kd.C (Kd.int .i64) W_ A1 l1.length l1) (hc1:l1.length ≤ c1) (h:impl_drop.f k a0_0 a0_1 l0_2 l1 a2 = some (r1,r2,r3,r4,r5)) :
  Calls Try.prog 151 #[.agg #[.int .i64 a0_0,.int .i64 a0_1,u9000_],.slice A1 l1.length c1,.int .i64 a2] w fun e w'=>∃ v3_:Value,e = .returned (.tuple #[.agg #[.int .i64 r1,.int .i64 r2,.int .i64 r3],v3_])∧Kd.R (Kd.int .i64) 3 w' w0.heap.size (fun k_=>(P0_2_ k_∨w.heap.size ≤ k_)) v3_ r4∧Kd.R k27 27 w' w0.heap.size (fun k_=>(P0_2_ k_∨w.heap.size ≤ k_)) u9000_ r5∧Below w0.heap.size w0 w'∧Kept w w' (fun k_=>P0_2_ k_):=by
 have HO0_2:=Aside0.mk (show Kd.R k27 27 w w0.heap.size (fun k_=>(P0_2_ k_∨w.heap.size ≤ k_)) u9000_ l0_2 from Kd.R_mono ho0_2 (fun k_ hk=>(.inl hk)));have HR1:=Aside0.mk hr1;have HC1:=Aside0.mk hc1;clear hr1 hc1;have HK:=Aside0.mk (Kept.refl w (fun k_=>P0_2_ k_));have HW0:=Aside0.mk hB.size;have HB:=Aside0.mk hB;clear hB;have H:(impl_drop.l0 k l1 a2 (([]:List Int)) 0 0 a0_0 a0_1 l0_2) = some (r1,r2,r3,r4,r5):=h;clear h;obtain ⟨y461,hy461⟩:∃ y_:List Int,y_ = (([]:List Int)):=⟨_,rfl⟩
 replace H:(impl_drop.l0 k l1 a2 y461 0 0 a0_0 a0_1 l0_2) = some (r1,r2,r3,r4,r5):=by first | (rw [hy461];with_reducible exact H) | (have H2_:=(Option.bind_some _ _).symm.trans H;rw [hy461];with_reducible exact H2_) | (have H2_:=(Option.bind_some _ _).symm.trans H;with_reducible exact H2_) | with_reducible exact H | (rw [hy461];exact H) | exact H
 have Ny461:=Aside0.mk hy461;clear hy461;have H':=Aside0.mk H;clear H;obtain ⟨Ao4,co4,eo4⟩:=Kd.R_slice HO0_2.out;subst eo4;go_enter Try.func151,Try.ntmps151;go_wp2_with (first | ((with_reducible refine gate_dst (N:=3) rfl ?_);refine box_event ?hg (N:=3) ?hd (cs:=#[.int .i64 a0_0,.int .i64 a0_1,.slice Ao4 l0_2.length co4]) (t:=25) ?hr ?_;(case hd=>rfl);(case hg=>rfl);(case hr=>first | (go_simp;done) | (go_simp;rfl));intro gb459 hg w5 hbox hb;refine ev6 (Kd.R_below (Kd.R_mv HO0_2.out) hb) (Kept.below (S:=(fun k_=>P0_2_ k_)) (km HK) hb) (bs HB hb) (hbox) ((by rw [hg];exact (by first | exact HK.out.1 | exact (show Kept w _ (fun k_=>P0_2_ k_) from km HK).1):w.heap.size ≤ gb459)) (gle hg HB) ?_;clear HO0_2 HK HB;intro HO0_2 HK HB BK459 GW459 GE459;clear hb hbox hg) | ((with_reducible refine gate_dst (N:=6) rfl ?_);refine box_event ?hg (N:=6) ?hd (cs:=#[.int .i64 0,.int .i64 0,.int .i64 0]) (t:=137) ?hr ?_;(case hd=>rfl);(case hg=>rfl);(case hr=>first | (go_simp;done) | (go_simp;rfl));intro gb460 hg w6 hbox hb;refine ev9 (Kd.R_below (Kd.R_mv HO0_2.out) hb) (kb BK459 hb) (Kept.below (S:=(fun k_=>P0_2_ k_)) (km HK) hb) (bs HB hb) (hbox) ((by rw [hg];exact (by first | exact HK.out.1 | exact (show Kept w _ (fun k_=>P0_2_ k_) from km HK).1):w.heap.size ≤ gb460)) (gle hg HB) (gnf hg BK459) (gne hg BK459) ?_;clear HO0_2 BK459 HK HB;intro HO0_2 BK459 HK HB BK460 GW460 GE460 NB459_460 NB460_459;clear hb hbox hg) | ((with_reducible refine gate_dst (N:=15) rfl ?_);refine Kd.R_lit (Kd.int .i64) _ 3 ?hg (N:=15) ?hd (xs:=([]:List Int)) (inner:=[]) (ok:=fun _=>True) (okp:=fun _=>True) ?hr ?hp (fun _ hk=>hk) trivial (Below.refl _ _) (Nat.le_refl _) (by simp) ?_;(case hd=>rfl);(case hg=>rfl);(case hr=>first | (go_simp;done) | (go_simp;rfl));(case hp=>exact (Reps.none _ _));intro v462 w7 ho8 hb hg_ hnew_;clear hg_ hnew_;(first | rw [← Ny461.out] at ho8 | (simp only [Int.reduceToNat] at ho8;rw [← Ny461.out] at ho8));refine ev6 (Kd.R_below (Kd.R_mv HO0_2.out) hb) (Kd.R_lower (Kd.R_newM (M:=fun k_=>(P0_2_ k_∨w.heap.size ≤ k_)) ho8 (by first | exact HK.out.1 | exact (show Kept w _ (fun k_=>P0_2_ k_) from km HK).1) (fun k_ h_=>.inr h_)) (below_size (bm HB))) (kb BK459 hb) (kb BK460 hb) (Kept.below (S:=(fun k_=>P0_2_ k_)) (km HK) hb) (bs HB hb) ?_;clear HO0_2 BK459 BK460 HK HB;intro HO0_2 HO463 BK459 BK460 HK HB;clear hb ho8))
 go_loopg [2,8,9,10] k (fun kq v2 v8 v9 v10 w'=>∃ (x2_1:Int) (x8_1:List Int) (x9_1:Int) (x10_1:Int) (x460002_1:List (S27)) (x461000_1:Int) (x461001_1:Int) (x461002_1:Int),v2 = .int .i64 x2_1∧v9 = .int .i64 x9_1∧v10 = .int .i64 x10_1∧Aside0 (impl_drop.l0 kq l1 x2_1 x8_1 x9_1 x10_1 a0_0 a0_1 x460002_1 = some (r1,r2,r3,r4,r5))∧Aside0 (kq ≤ k)∧Aside0 (Kd.R (Kd.int .i64) 3 w' w0.heap.size (fun k_=>(P0_2_ k_∨w.heap.size ≤ k_)) v8 x8_1)∧Aside0 (Kd.R k27 27 w' w0.heap.size (fun k_=>(P0_2_ k_∨w.heap.size ≤ k_)) (.slice Ao4 l0_2.length co4) x460002_1)∧Aside0 (w'.heap[gb459]? = some (.cells #[.int .i64 a0_0,.int .i64 a0_1,(.slice Ao4 l0_2.length co4)] 25 (0,0)))∧Aside0 (w'.heap[gb460]? = some (.cells #[.int .i64 x461000_1,.int .i64 x461001_1,.int .i64 x461002_1] 137 (0,0)))∧Aside0 (Kept w w' (fun k_=>P0_2_ k_))∧Aside0 (Below w0.heap.size w0 w'))
 case atStart=>exact ⟨(a2),(y461),(0),(0),(l0_2),(0),(0),(0),(by first | rfl | (simp;done) | (simp [*];done)),(by first | rfl | (simp;done) | (simp [*];done)),(by first | rfl | (simp;done) | (simp [*];done)),H',⟨Nat.le_refl _⟩,⟨Kd.R_mv (Kd.R_mono (ok':=fun k_=>((P0_2_ k_∨w.heap.size ≤ k_))) HO463.out (fun _ hk=>hk.1))⟩,⟨Kd.R_mv HO0_2.out⟩,⟨km_ BK459⟩,⟨km_ BK460⟩,⟨km HK⟩,⟨bm HB⟩⟩
 case round =>
  clear H';(try clear c1);(try clear p2);obtain ⟨x2_1,x8_1,x9_1,x10_1,x460002_1,x461000_1,x461001_1,x461002_1,rfl,rfl,rfl,HA,HK1,HO_8,HO_460002,BK459,BK460,HK,HB⟩:=hrel;have hl460002_1:=(Kd.R_reads' HO_460002.out).1;rw [hl460002_1] at HO_460002;(try simp only [hl460002_1])
  (try simp only [hl460002_1] at BK459)
  (try simp only [hl460002_1] at BK460)
  (try simp only [hl460002_1] at HO_8)
  cases gk with
  | zero=>exact absurd HA.out (by simp [impl_drop.l0])
  | succ k1 =>
   have H:=HA.out;clear HA;simp only [impl_drop.l0] at H;by_cases c9:x10_1 < a0_0
   ·rw [if_pos c9] at H;have c9b0:decide (x10_1 < a0_0) = true:=decide_eq_true c9;clear c9;replace H:=np_ H;obtain ⟨c10,H⟩:=H;have LMc10:=Aside0.mk c10;clear c10;obtain ⟨y464,hy464⟩:∃ y_:List Int,y_ = (x8_1 ++ [wrap64 ((wrap64 (x10_1 * a0_1)) + x2_1)]):=⟨_,rfl⟩
    replace H:(if 0 ≤ (wrap64 ((wrap64 (x10_1 * a0_1)) + x2_1)) then (if (wrap64 ((wrap64 (x10_1 * a0_1)) + x2_1)) < (x460002_1.length:Int) then ((impl_GoesTo.f k1 ((rd_T27 x460002_1 (wrap64 ((wrap64 (x10_1 * a0_1)) + x2_1))).f0) ((rd_T27 x460002_1 (wrap64 ((wrap64 (x10_1 * a0_1)) + x2_1))).f1) x9_1).bind fun bt469=>(if bt469.2 = true then (if ((rd_T27 x460002_1 (wrap64 ((wrap64 (x10_1 * a0_1)) + x2_1))).f0) = 3 then (impl_drop.j1 k1 l1 x2_1 y464 x10_1 (wrap64 ((wrap64 (x10_1 * a0_1)) + x2_1)) bt469.1 a0_0 a0_1 (x460002_1.set ((wrap64 ((wrap64 (x10_1 * a0_1)) + x2_1)):Int).toNat (⟨(rd_T27 x460002_1 (wrap64 ((wrap64 (x10_1 * a0_1)) + x2_1))).f0,wrap64 (1 - ((rd_T27 x460002_1 (wrap64 ((wrap64 (x10_1 * a0_1)) + x2_1))).f1))⟩:S27)) ((rd_T27 x460002_1 (wrap64 ((wrap64 (x10_1 * a0_1)) + x2_1))).f0) ((rd_T27 x460002_1 (wrap64 ((wrap64 (x10_1 * a0_1)) + x2_1))).f1)) else (impl_drop.j1 k1 l1 x2_1 y464 x10_1 (wrap64 ((wrap64 (x10_1 * a0_1)) + x2_1)) bt469.1 a0_0 a0_1 x460002_1 ((rd_T27 x460002_1 (wrap64 ((wrap64 (x10_1 * a0_1)) + x2_1))).f0) ((rd_T27 x460002_1 (wrap64 ((wrap64 (x10_1 * a0_1)) + x2_1))).f1))) else (some (2,x10_1,x2_1,y464,x460002_1)))) else (none)) else (none)) = some (r1,r2,r3,r4,r5):=by first | (rw [hy464];with_reducible exact H) | (have H2_:=(Option.bind_some _ _).symm.trans H;rw [hy464];with_reducible exact H2_) | (have H2_:=(Option.bind_some _ _).symm.trans H;with_reducible exact H2_) | with_reducible exact H | (rw [hy464];exact H) | exact H
    have Ny464:=Aside0.mk hy464;clear hy464;obtain ⟨ji11,hji11⟩:∃ j_:Int,(wrap64 ((wrap64 (x10_1 * a0_1)) + x2_1)) = j_:=⟨_,rfl⟩
    replace H:(if 0 ≤ (ji11) then (if (ji11) < (x460002_1.length:Int) then ((impl_GoesTo.f k1 ((rd_T27 x460002_1 (ji11)).f0) ((rd_T27 x460002_1 (ji11)).f1) x9_1).bind fun bt469=>(if bt469.2 = true then (if ((rd_T27 x460002_1 (ji11)).f0) = 3 then (impl_drop.j1 k1 l1 x2_1 y464 x10_1 ji11 bt469.1 a0_0 a0_1 (x460002_1.set ((ji11):Int).toNat (⟨(rd_T27 x460002_1 (ji11)).f0,wrap64 (1 - ((rd_T27 x460002_1 (ji11)).f1))⟩:S27)) ((rd_T27 x460002_1 (ji11)).f0) ((rd_T27 x460002_1 (ji11)).f1)) else (impl_drop.j1 k1 l1 x2_1 y464 x10_1 ji11 bt469.1 a0_0 a0_1 x460002_1 ((rd_T27 x460002_1 (ji11)).f0) ((rd_T27 x460002_1 (ji11)).f1))) else (some (2,x10_1,x2_1,y464,x460002_1)))) else (none)) else (none)) = some (r1,r2,r3,r4,r5):=by first | (rw [hji11] at H;exact H) | (simp only [hji11] at H ⊢;exact H)
    (try rw [hji11] at Ny464)
    have hji11w:(IntKind.i64.wrap ((wrap64 (x10_1 * a0_1)) + x2_1)) = ji11:=(i64_w _).trans hji11;replace H:=np_ H;obtain ⟨c12,H⟩:=H;have c12b0:decide (0 ≤ (ji11)) = true:=decide_eq_true c12;clear c12;replace H:=np_ H;obtain ⟨c13,H⟩:=H;have c13b0:decide ((ji11) < (x460002_1.length:Int)) = true:=decide_eq_true c13;(try simp only [hl460002_1] at c13b0)
    clear c13;replace H:=Option.bind_eq_some_iff.mp H;obtain ⟨⟨t469,t470⟩,A140,H⟩:=H;(try dsimp only at H)
    have A14:=Aside0.mk A140;clear A140;by_cases c15:t470 = true
    ·subst c15;have H1:(if ((rd_T27 x460002_1 (ji11)).f0) = 3 then (impl_drop.j1 k1 l1 x2_1 y464 x10_1 ji11 t469 a0_0 a0_1 (x460002_1.set ((ji11):Int).toNat (⟨(rd_T27 x460002_1 (ji11)).f0,wrap64 (1 - ((rd_T27 x460002_1 (ji11)).f1))⟩:S27)) ((rd_T27 x460002_1 (ji11)).f0) ((rd_T27 x460002_1 (ji11)).f1)) else (impl_drop.j1 k1 l1 x2_1 y464 x10_1 ji11 t469 a0_0 a0_1 x460002_1 ((rd_T27 x460002_1 (ji11)).f0) ((rd_T27 x460002_1 (ji11)).f1))) = some (r1,r2,r3,r4,r5):=by rw [if_pos rfl] at H;exact H
     clear H;have H:=H1;clear H1;have HC16:=Aside0.mk H;clear H;have hnb17:=NB459_460.out;have hnc17:=NB460_459.out;obtain ⟨hcz18_0,hcz18_1,hcz18_2,hfz18_0,hfz18_1,hfz18_2⟩:=bt3 BK459;go_upto_if 51 with (first | ((with_reducible refine gate_builtin (b:=.append) (xs:=#[.tmp 28,.tmp 30]) rfl ?_);at_builtin;refine Kd.R_append (Kd.int .i64) (w0:=w0) w0.heap.size rfl (.tmp 28) (.tmp 30) 35 3 (.int .i64 0) 8 rfl Try.underlying35 info3 rfl (by decide) (by omega) u8 x8_1 ji11 [.int .i64 ji11] (fun k_=>(P0_2_ k_∨w.heap.size ≤ k_)) (fun _=>False) rfl rfl ?aP (fun _ hk=>hk.elim) ?aF ?aO ?aB ?aS ?aL ?_;(case aP=>exact rfl);(case aB=>exact (bm HB));(case aF=>exact (fun k_ hk=>(.inr (Nat.le_trans (by first | exact HK.out.1 | exact (show Kept w _ (fun k_=>P0_2_ k_) from km HK).1) hk))));(case aO=>exact (Kd.R_mv HO_8.out));(case aS=>exact (below_size (bm HB)));(case aL=>have:=LMc10.out;omega);intro v465 w19 ho hb hg hat;rw [← Ny464.out] at ho;refine ev6 (Kd.R_over' (Kd.R_mv HO_460002.out) (Kd.R_typed (Kd.R_mv HO_8.out)) (by decide) hg) (blk_grown (km_ BK459) hg (Kd.R_ne HO_8.out BK459.out (by decide))) (blk_grown (km_ BK460) hg (Kd.R_ne HO_8.out BK460.out (by decide))) (hb) (Kept.of_grown (S:=(fun k_=>P0_2_ k_)) hg (km HK) (fun k_ e_=>(HO_8.out.1 k_ e_))) (ho) ?_;clear HO_460002 BK459 BK460 HB HK HO_8;intro HO_460002 BK459 BK460 HB HK HO466;clear ho hb hg hat;obtain ⟨hcz20_0,hcz20_1,hcz20_2,hfz20_0,hfz20_1,hfz20_2⟩:=bt3 BK459;have p467:0 ≤ ((ji11):Int):=of_decide_eq_true (by first | (with_reducible assumption) | assumption);have q467:(ji11) < (x460002_1.length:Int):=of_decide_eq_true (by first | (with_reducible assumption) | assumption);obtain ⟨ad467,e467,hx467_0,hx467_1⟩:=at_T27 (Kd.R_reads' HO_460002.out).2.2 (ji11) p467 q467;cases e467;replace p467:=eq_true p467;replace q467:=eq_true q467) | ((with_reducible refine gate_dst (N:=12) rfl ?_);refine box_event ?hg (N:=12) ?hd (cs:=#[.int .i64 0,.int .i64 0]) (t:=27) ?hr ?_;(case hd=>rfl);(case hg=>rfl);(case hr=>first | (go_simp;done) | (go_simp;rfl));intro gb468 hg w21 hbox hb;refine ev12 (Kd.R_below (Kd.R_elderB (Kd.R_mv HO_460002.out) gb468 (Nat.le_of_eq hg.symm)) hb) (Kd.R_below (Kd.R_mv HO466.out) hb) (kb BK459 hb) (kb BK460 hb) (Kept.below (S:=(fun k_=>P0_2_ k_)) (km HK) hb) (bs HB hb) (hbox) ((by rw [hg];exact (by first | exact HK.out.1 | exact (show Kept w _ (fun k_=>P0_2_ k_) from km HK).1):w.heap.size ≤ gb468)) (gle hg HB) (gnf hg BK459) (gne hg BK459) (gnf hg BK460) ?_;intro n0_ n1_ n2_ n3_ n4_ n5_ n6_ n7_ n8_ n9_ n10_ n11_;refine ev1 (gne hg BK460) ?_;intro n12_;clear HO_460002 HO466 BK459 BK460 HK HB;revert n0_ n1_ n2_ n3_ n4_ n5_ n6_ n7_ n8_ n9_ n10_ n11_ n12_;intro HO_460002 HO466 BK459 BK460 HK HB BK468 GW468 GE468 NB459_468 NB468_459 NB460_468 NB468_460;clear hb hbox hg;have hnb22:=NB468_459.out;have hnc22:=NB459_468.out;have hnb23:=NB468_460.out;have hnc23:=NB460_468.out;obtain ⟨hcz24_0,hcz24_1,hfz24_0,hfz24_1⟩:=bt2 BK468) | ((with_reducible refine gate_callee (f:=175) rfl ?_);refine goesL_ (some 40) rfl rfl Try.func175 (by kernel_rfl) rfl #[.agg #[.int .i64 ((rd_T27 x460002_1 (ji11)).f0),.int .i64 ((rd_T27 x460002_1 (ji11)).f1)],.int .i64 x9_1] rfl (by (try simp only [ma_,mb_,mc_]);first | done | (simp only [hji11];rfl) | rfl | (simp only [List.length_drop,List.length_take];rfl)) ?_;(with_reducible refine (impl_GoesTo.calls k1 ((rd_T27 x460002_1 (ji11)).f0) ((rd_T27 x460002_1 (ji11)).f1) x9_1 t469 true _ A14.out).mono ?_);rintro e w25 ⟨rfl,hb⟩;refine ⟨_,rfl,?_⟩;refine ev7 (Kd.R_below (Kd.R_mv (Kd.R_mono (Kd.R_far (p:=⟨gb468,1,none⟩) (Kd.R_far (p:=⟨gb468,0,none⟩) (Kd.R_mono HO_460002.out (fun k_ hk=>(⟨hk,hk.2⟩:_∧k_ ≠ gb468))) (fun _ hk=>hk.2) (.int .i64 ((rd_T27 x460002_1 (ji11)).f0))) (fun _ hk=>hk.2) (.int .i64 ((rd_T27 x460002_1 (ji11)).f1))) (fun _ h_=>h_.1))) hb) (Kd.R_below (Kd.R_ft HO466.out BK468.out (by decide)) hb) (blk_below (g:=gb459) (o:=.cells #[.int .i64 a0_0,.int .i64 a0_1,.slice (some ad467) x460002_1.length co4] 25 (0,0)) (fp BK459 rfl) hb) (blk_below (g:=gb460) (o:=.cells #[.int .i64 x461000_1,.int .i64 x461001_1,.int .i64 x461002_1] 137 (0,0)) (fp BK460 rfl) hb) (blk_below (g:=gb468) (o:=.cells #[.int .i64 ((rd_T27 x460002_1 (ji11)).f0),.int .i64 ((rd_T27 x460002_1 (ji11)).f1)] 27 (0,0)) (fp BK468 rfl) hb) (Kept.below (S:=(fun k_=>P0_2_ k_)) (km HK) hb) (bs HB hb) ?_;clear HO_460002 HO466 BK459 BK460 BK468 HK HB;intro HO_460002 HO466 BK459 BK460 BK468 HK HB;(try clear hb);obtain ⟨hcz26_0,hcz26_1,hfz26_0,hfz26_1⟩:=bt2 BK468))
     (try simp only [Act.put,za_,zb_,zc_])
     go_cut [] (fun wc=>∃ (kq:Nat) (x460002_15:List (S27)) (x469001_15:Int),Aside0 (impl_drop.j1 kq l1 x2_1 y464 x10_1 ji11 t469 a0_0 a0_1 x460002_15 ((rd_T27 x460002_1 (ji11)).f0) x469001_15 = some (r1,r2,r3,r4,r5))∧Aside0 (kq ≤ k1)∧Aside0 (Kd.R (Kd.int .i64) 3 wc w0.heap.size (fun k_=>(P0_2_ k_∨w.heap.size ≤ k_)) v465 y464)∧Aside0 (Kd.R k27 27 wc w0.heap.size (fun k_=>(P0_2_ k_∨w.heap.size ≤ k_)∧k_ ≠ gb468) (.slice (some ad467) x460002_1.length co4) x460002_15)∧Aside0 (wc.heap[gb459]? = some (.cells #[.int .i64 a0_0,.int .i64 a0_1,(.slice (some ad467) x460002_1.length co4)] 25 (0,0)))∧Aside0 (wc.heap[gb460]? = some (.cells #[.int .i64 x461000_1,.int .i64 x461001_1,.int .i64 x461002_1] 137 (0,0)))∧Aside0 (wc.heap[gb468]? = some (.cells #[.int .i64 ((rd_T27 x460002_1 (ji11)).f0),.int .i64 x469001_15] 27 (0,0)))∧Aside0 (Kept w wc (fun k_=>P0_2_ k_))∧Aside0 (Below w0.heap.size w0 wc))
     case first =>
      have H:=HC16.out;clear HC16;by_cases c27:((rd_T27 x460002_1 (ji11)).f0) = 3
      ·rw [if_pos c27] at H;have c27b0:(((rd_T27 x460002_1 (ji11)).f0) == 3) = true:=beq_iff_eq.mpr c27;have c27b1:(((rd_T27 x460002_1 (ji11)).f0) != 3) = false:=bne_eq_false_iff_eq.mpr c27;clear c27;(first | rw [c27b0] | (simp only [i64_w,i32_w];rw [c27b0]) | skip)
       obtain ⟨y471,hy471⟩:∃ y_:List (S27),y_ = (x460002_1.set ((ji11):Int).toNat (⟨(rd_T27 x460002_1 (ji11)).f0,wrap64 (1 - ((rd_T27 x460002_1 (ji11)).f1))⟩:S27)):=⟨_,rfl⟩
       replace H:(impl_drop.j1 k1 l1 x2_1 y464 x10_1 ji11 t469 a0_0 a0_1 y471 ((rd_T27 x460002_1 (ji11)).f0) ((rd_T27 x460002_1 (ji11)).f1)) = some (r1,r2,r3,r4,r5):=by first | (rw [hy471];with_reducible exact H) | (have H2_:=(Option.bind_some _ _).symm.trans H;rw [hy471];with_reducible exact H2_) | (have H2_:=(Option.bind_some _ _).symm.trans H;with_reducible exact H2_) | with_reducible exact H | (rw [hy471];exact H) | exact H
       have Ny471:=Aside0.mk hy471;clear hy471;have H':=Aside0.mk H;clear H;have hnb29:=NB459_460.out;have hnc29:=NB460_459.out;have hnb30:=NB459_468.out;have hnc30:=NB468_459.out;obtain ⟨hcz31_0,hcz31_1,hcz31_2,hfz31_0,hfz31_1,hfz31_2⟩:=bt3 BK459;have hnb32:=NB468_460.out;have hnc32:=NB460_468.out;obtain ⟨hcz33_0,hcz33_1,hfz33_0,hfz33_1⟩:=bt2 BK468;have p28:0 ≤ ((ji11):Int):=of_decide_eq_true (by first | (with_reducible assumption) | assumption);have q28:((ji11):Int) < ((x460002_1.length:Int):Int):=of_decide_eq_true (by first | (with_reducible assumption) | assumption);obtain ⟨go28,co28,eo28,gb28,gl28,cl28,HG28⟩:=Kd.R_form HO_460002.out (by omega);(first | cases eo28 | (injection eo28 with ea_ en_ ec_;(first | subst ea_ | (injection ea_ with ea_;subst ea_));subst ec_;clear en_))
       have GB28:=Aside0.mk gb28;have GG28:=Aside0.mk HG28;clear gb28 gl28 HG28;have HMgo28:=Aside0.mk (show (P0_2_ go28∨w.heap.size ≤ go28) from (HO_460002.out.1 _ rfl).1);(first | simp only [add_plain] at hx467_0 | skip)
       (first | simp only [add_plain] at hx467_1 | skip)
       obtain ⟨ce28,hcl28,hM28,hcc28,hfr28⟩:=Kd.R_elem HO_460002.out z27 ((ji11):Int) p28 q28;obtain rfl:=k27_openM hM28;have hx28_0:w25.cell? ⟨go28,((ji11):Int).toNat * 2,none⟩ = some (.int .i64 ((rd_T27 x460002_1 (ji11)).f0)):=hcc28 0 _ rfl;have hx28_1:w25.cell? ⟨go28,((ji11):Int).toNat * 2 + 1,none⟩ = some (.int .i64 ((rd_T27 x460002_1 (ji11)).f1)):=hcc28 1 _ rfl;have hf28_0:w25.frozen? ⟨go28,((ji11):Int).toNat * 2,none⟩ = false:=hfr28 0;have hf28_1:w25.frozen? ⟨go28,((ji11):Int).toNat * 2 + 1,none⟩ = false:=hfr28 1;clear hcl28 hcc28 hfr28 hM28;replace p28:=eq_true p28;replace q28:=eq_true q28;have HX34:=Aside0.mk (show Kd.R k27 27 w25 w0.heap.size (fun k_=>(P0_2_ k_∨w.heap.size ≤ k_)∧k_ ≠ gb468) (.slice (some ⟨go28,0,none⟩) x460002_1.length co4) x460002_1 from (Kd.R_mv HO_460002.out));obtain ⟨ce34,hcl34,hM34,hcc34,hfr34⟩:=Kd.R_elem HX34.out z27 ((ji11):Int) (of_decide_eq_true (by first | (with_reducible assumption) | assumption)) (by have h_:((ji11):Int) < ((x460002_1.length:Int):Int):=of_decide_eq_true (by first | (with_reducible assumption) | assumption);first | exact h_ | (have e_:=(Kd.R_reads' HO_460002.out).1;omega) | simpa using h_);obtain rfl:=k27_openM hM34;have HP34:=Kd.R_seg HX34.out ((ji11):Int) (of_decide_eq_true (by first | (with_reducible assumption) | assumption)) (by have h_:((ji11):Int) < ((x460002_1.length:Int):Int):=of_decide_eq_true (by first | (with_reducible assumption) | assumption);first | exact h_ | (have e_:=(Kd.R_reads' HO_460002.out).1;omega) | simpa using h_) (seg:=[.int .i64 (wrap64 (1 - ((rd_T27 x460002_1 (ji11)).f1)))]) (j:=1) hcl34 hcc34 (show 2 ≤ 2 from by decide) (x':=(⟨(rd_T27 x460002_1 (ji11)).f0,wrap64 (1 - ((rd_T27 x460002_1 (ji11)).f1))⟩:S27)) (k27_mkM _ _ _ (⟨(rd_T27 x460002_1 (ji11)).f0,wrap64 (1 - ((rd_T27 x460002_1 (ji11)).f1))⟩:S27) ) (fun _ hk=>hk);have hx34_1:=hcc34 1 _ rfl;(try simp only [show (k27).sz = 2 from rfl,Nat.mul_one,Nat.add_zero] at hx34_1)
       have hf34_1:=hfr34 1;(try simp only [show (k27).sz = 2 from rfl,Nat.mul_one,Nat.add_zero] at hf34_1)
       clear hcl34 hcc34 hfr34 hM34;go_wp2_with (first | ((with_reducible refine gate_store (t:=3) (p:=59) rfl ?_);refine store_event (t:=3) (p:=59) (v:=?vo_w35) (w1:=(w25.setCell ⟨go28,((ji11):Int).toNat * 2 + 1,none⟩ (.int .i64 (wrap64 (1 - ((rd_T27 x460002_1 (ji11)).f1)))))) ?hg ?ho ?hn ?hr ?_;(case ho=>rfl);(case hg=>rfl);(case hn=>rfl);(case hr=>first | (go_simp;done) | (go_simp;rfl));intro w35 hw;have hg:w25.grownBy w35 (some go28):=(by rw [hw];exact HP34.2);have hp_:Kd.R k27 27 w35 w0.heap.size (fun k_=>(P0_2_ k_∨w.heap.size ≤ k_)∧k_ ≠ gb468) (.slice (some ⟨go28,0,none⟩) x460002_1.length co4) y471:=(by rw [hw,Ny471.out];exact HP34.1);clear HP34;refine ev7 (hp_) (blk_grown (km_ BK459) hg (Kd.R_ne HO_460002.out BK459.out (by decide))) (blk_grown (km_ BK460) hg (Kd.R_ne HO_460002.out BK460.out (by decide))) (Kd.R_over' (v:=(.slice (some ⟨go28,0,none⟩) x460002_1.length co4)) (Kd.R_mv HO466.out) (Kd.R_typed HO_460002.out) (by decide) hg) (blk_grown (km_ BK468) hg (Kd.R_away HO_460002.out (fun _ hk=>hk.2))) ((by rw [hw];exact below_set (HB.out) GB28.out:Below w0.heap.size w0 w35)) (Kept.of_grown (S:=(fun k_=>P0_2_ k_)) hg (km HK) (fun k_ e_=>(HO_460002.out.1 k_ e_).1)) ?_;clear HO_460002 BK459 BK460 HO466 BK468 HB HK;intro HO_460002 BK459 BK460 HO466 BK468 HB HK;clear hg hw hp_))
       go_meet
       case rel=>exact ⟨_,(y471),((rd_T27 x460002_1 (ji11)).f1),H',⟨by have:=HK1.out;first | omega | exact Nat.le_refl _⟩,⟨by (try simp only [hl460002_1]);exact Kd.R_mv HO466.out⟩,⟨by (try simp only [hl460002_1]);exact Kd.R_mv HO_460002.out⟩,⟨by (try simp only [hl460002_1]);exact km_ BK459⟩,⟨by (try simp only [hl460002_1]);exact km_ BK460⟩,⟨by (try simp only [hl460002_1]);exact km_ BK468⟩,⟨km HK⟩,⟨bm HB⟩⟩
      ·rw [if_neg c27] at H;have c27b0:(((rd_T27 x460002_1 (ji11)).f0) == 3) = false:=beq_eq_false_iff_ne.mpr c27;have c27b1:(((rd_T27 x460002_1 (ji11)).f0) != 3) = true:=bne_iff_ne.mpr c27;(first | rw [c27b0] | (simp only [i64_w,i32_w];rw [c27b0]) | skip)
       have H':=Aside0.mk H;clear H;go_wp2;go_meet
       case rel=>exact ⟨_,(x460002_1),((rd_T27 x460002_1 (ji11)).f1),H',⟨by have:=HK1.out;first | omega | exact Nat.le_refl _⟩,⟨by (try simp only [hl460002_1]);exact Kd.R_mv HO466.out⟩,⟨by (try simp only [hl460002_1]);exact Kd.R_mv HO_460002.out⟩,⟨by (try simp only [hl460002_1]);exact km_ BK459⟩,⟨by (try simp only [hl460002_1]);exact km_ BK460⟩,⟨by (try simp only [hl460002_1]);exact km_ BK468⟩,⟨km HK⟩,⟨bm HB⟩⟩
     case rest =>
      clear HC16;(try clear c1);(try clear c2);(try clear p2);(try clear p4);(try clear q4);(try clear hx4);(try clear p6);(try clear c9);(try clear c9b0);(try clear c10);(try clear c12);(try clear c12b0);(try clear c13);(try clear c13b0);(try clear c15);(try clear c17);(try clear c22);(try clear c23);(try clear hcz18_0 hcz18_1 hcz18_2 hfz18_0 hfz18_1 hfz18_2);(try clear hcz20_0 hcz20_1 hcz20_2 hfz20_0 hfz20_1 hfz20_2);(try clear hcz24_0 hcz24_1 hfz24_0 hfz24_1);(try clear hcz26_0 hcz26_1 hfz26_0 hfz26_1);(try clear hx467_0);(try clear hx467_1);(try clear p2);(try clear p467);(try clear q467);obtain ⟨kq,x460002_15,x469001_15,HA,HJ15,HO_8,HO_460002,BK459,BK460,BK468,HK,HB⟩:=hcut;have hl460002_15:=(Kd.R_reads' HO_460002.out).1;rw [hl460002_15] at HO_460002;(try simp only [hl460002_15])
      (try simp only [hl460002_15] at BK459)
      (try simp only [hl460002_15] at BK460)
      (try simp only [hl460002_15] at BK468)
      (try simp only [hl460002_15] at HO_8)
      cases kq with
      | zero=>exact absurd HA.out (by simp [impl_drop.j1])
      | succ kj15 =>
       have H:=HA.out;clear HA;simp only [impl_drop.j1] at H;by_cases c36:((rd_T27 x460002_1 (ji11)).f0) = 6
       ·rw [if_pos c36] at H;have c36b0:(((rd_T27 x460002_1 (ji11)).f0) == 6) = true:=beq_iff_eq.mpr c36;have c36b1:(((rd_T27 x460002_1 (ji11)).f0) != 6) = false:=bne_eq_false_iff_eq.mpr c36;clear c36;replace H:=Option.bind_eq_some_iff.mp H;obtain ⟨t472,A370,H⟩:=H;(try dsimp only at H)
        have A37:=Aside0.mk A370;clear A370;by_cases c38:(wrap64 (x2_1 + t469)) < 0
        ·rw [if_pos c38] at H;have c38b0:decide ((wrap64 (x2_1 + t469)) < 0) = true:=decide_eq_true c38;clear c38;simp only [Option.some.injEq,Prod.mk.injEq] at H;obtain ⟨rfl,rfl,rfl,rfl,rfl⟩:=H;have hnb39:=NB468_459.out;have hnc39:=NB459_468.out;have hnb40:=NB468_460.out;have hnc40:=NB460_468.out;obtain ⟨hcz41_0,hcz41_1,hfz41_0,hfz41_1⟩:=bt2 BK468;have hnb42:=NB459_460.out;have hnc42:=NB460_459.out;obtain ⟨hcz43_0,hcz43_1,hcz43_2,hfz43_0,hfz43_1,hfz43_2⟩:=bt3 BK459;go_wp2_with (first | ((with_reducible refine gate_callee (f:=176) rfl ?_);refine goesL_ (some 66) rfl rfl Try.func176 (by kernel_rfl) rfl #[.agg #[.int .i64 a0_0,.int .i64 a0_1,.slice (some ad467) x460002_15.length co4],.slice A1 l1.length c1,.int .i64 ji11] rfl (by (try simp only [ma_,mb_,mc_]);first | done | (simp only [hji11];rfl) | rfl | (simp only [List.length_drop,List.length_take];rfl)) ?_;(with_reducible refine (impl_turnGroup.calls kj15 a0_0 a0_1 (fun k_=>some k_ = (.slice (some ad467) x460002_15.length co4:Value).ownBlock) (.slice (some ad467) x460002_15.length co4) x460002_15 _ _ l1 ji11 t472 w0 _ (bm HB) ?side2 ?side3 HC1.out A37.out).mono ?_);(case side2=>exact Kd.R_tight rfl HO_460002.out);(case side3=>exact Kd.C_kept_call HR1.out (km HK) (fun k_ hs_=>(fun e_=>(HO_460002.out.1 k_ e_.symm).1) hs_));rintro e w44 ⟨rfl,hy0,hb,hkp⟩;refine ⟨_,rfl,?_⟩;refine ev7 (Kd.R_mono (ok':=fun k_=>(P0_2_ k_∨w.heap.size ≤ k_)) (Kd.R_keptB ((Kd.R_apart' HO_8.out (Kd.R_typed HO_460002.out) (by decide))) hkp (fun k_ hk_ hs_=>(hk_.2) hs_)) (fun k_ hk_=>hk_.1.1)) (Kd.R_reok rfl hy0 (fun k_ e_=>HO_460002.out.1 k_ e_)) (blk_kept (km_ BK459) hkp (fun hs_=>(fun e_=>(Kd.R_ne HO_460002.out BK459.out (by decide)) e_) hs_)) (blk_kept (km_ BK460) hkp (fun hs_=>(fun e_=>(Kd.R_ne HO_460002.out BK460.out (by decide)) e_) hs_)) (blk_kept (km_ BK468) hkp (fun hs_=>(fun e_=>(Kd.R_away HO_460002.out (fun _ hk=>hk.2)) e_) hs_)) (Kept.then_ (S:=(fun k_=>P0_2_ k_)) (km HK) hkp (fun k_ hs_=>(fun e_=>(HO_460002.out.1 k_ e_.symm).1) hs_)) (hb) ?_;clear HO_8 HO_460002 BK459 BK460 BK468 HK HB;intro HO_8 HO_460002 BK459 BK460 BK468 HK HB;(try clear hb);(try clear hkp);(try clear hy0);obtain ⟨hcz45_0,hcz45_1,hcz45_2,hfz45_0,hfz45_1,hfz45_2⟩:=bt3 BK460))
         refine bodyPost_ret (results_ct rfl _ _ gb460 137 #[.int .i64 3,.int .i64 x10_1,.int .i64 (wrap64 (x2_1 + t469))] (0,0) _ rfl (fp BK460 rfl) Try.underlying137 rfl (by kernel_rfl)) rfl ?_;exact ⟨_,by first | rfl | (simp [e0_,e1_] <;> rfl) | (simp only [← hji11];first | rfl | (simp [e0_,e1_] <;> rfl)) | (simp [*,e0_,e1_] <;> rfl),Kd.R_mv (Kd.R_mono (ok':=fun k_=>((P0_2_ k_∨w.heap.size ≤ k_))) (Kd.R_far (p:=⟨gb460,2,none⟩) (Kd.R_far (p:=⟨gb460,1,none⟩) (Kd.R_far (p:=⟨gb460,0,none⟩) (Kd.R_types HO_8.out BK460.out (by decide)) (fun _ hk=>hk.2) (.int .i64 3)) (fun _ hk=>hk.2) (.int .i64 x10_1)) (fun _ hk=>hk.2) (.int .i64 (wrap64 (x2_1 + t469)))) (fun _ hk=>hk.1)),(by first | exact (Kd.R_mv (Kd.R_mono (ok':=fun k_=>((P0_2_ k_∨w.heap.size ≤ k_))) (Kd.R_far (p:=⟨gb460,2,none⟩) (Kd.R_far (p:=⟨gb460,1,none⟩) (Kd.R_far (p:=⟨gb460,0,none⟩) (Kd.R_types HO_460002.out BK460.out (by decide)) (fun _ hk=>hk.2) (.int .i64 3)) (fun _ hk=>hk.2) (.int .i64 x10_1)) (fun _ hk=>hk.2) (.int .i64 (wrap64 (x2_1 + t469)))) (fun _ hk=>hk.1.1))) | (simp only [hl460002_1,hl460002_15];exact (Kd.R_mv (Kd.R_mono (ok':=fun k_=>((P0_2_ k_∨w.heap.size ≤ k_))) (Kd.R_far (p:=⟨gb460,2,none⟩) (Kd.R_far (p:=⟨gb460,1,none⟩) (Kd.R_far (p:=⟨gb460,0,none⟩) (Kd.R_types HO_460002.out BK460.out (by decide)) (fun _ hk=>hk.2) (.int .i64 3)) (fun _ hk=>hk.2) (.int .i64 x10_1)) (fun _ hk=>hk.2) (.int .i64 (wrap64 (x2_1 + t469)))) (fun _ hk=>hk.1.1))))),bm HB,km HK⟩
        ·rw [if_neg c38] at H;have c38b0:decide ((wrap64 (x2_1 + t469)) < 0) = false:=decide_eq_false c38;clear c38;by_cases c46:(wrap64 (x2_1 + t469)) ≥ a0_1
         ·rw [if_pos c46] at H;have c46b0:decide (a0_1 ≤ (wrap64 (x2_1 + t469))) = true:=decide_eq_true c46;clear c46;simp only [Option.some.injEq,Prod.mk.injEq] at H;obtain ⟨rfl,rfl,rfl,rfl,rfl⟩:=H;have hnb47:=NB468_459.out;have hnc47:=NB459_468.out;have hnb48:=NB468_460.out;have hnc48:=NB460_468.out;obtain ⟨hcz49_0,hcz49_1,hfz49_0,hfz49_1⟩:=bt2 BK468;have hnb50:=NB459_460.out;have hnc50:=NB460_459.out;obtain ⟨hcz51_0,hcz51_1,hcz51_2,hfz51_0,hfz51_1,hfz51_2⟩:=bt3 BK459;go_wp2_with (first | ((with_reducible refine gate_callee (f:=176) rfl ?_);refine goesL_ (some 66) rfl rfl Try.func176 (by kernel_rfl) rfl #[.agg #[.int .i64 a0_0,.int .i64 a0_1,.slice (some ad467) x460002_15.length co4],.slice A1 l1.length c1,.int .i64 ji11] rfl (by (try simp only [ma_,mb_,mc_]);first | done | (simp only [hji11];rfl) | rfl | (simp only [List.length_drop,List.length_take];rfl)) ?_;(with_reducible refine (impl_turnGroup.calls kj15 a0_0 a0_1 (fun k_=>some k_ = (.slice (some ad467) x460002_15.length co4:Value).ownBlock) (.slice (some ad467) x460002_15.length co4) x460002_15 _ _ l1 ji11 t472 w0 _ (bm HB) ?side2 ?side3 HC1.out A37.out).mono ?_);(case side2=>exact Kd.R_tight rfl HO_460002.out);(case side3=>exact Kd.C_kept_call HR1.out (km HK) (fun k_ hs_=>(fun e_=>(HO_460002.out.1 k_ e_.symm).1) hs_));rintro e w52 ⟨rfl,hy0,hb,hkp⟩;refine ⟨_,rfl,?_⟩;refine ev7 (Kd.R_mono (ok':=fun k_=>(P0_2_ k_∨w.heap.size ≤ k_)) (Kd.R_keptB ((Kd.R_apart' HO_8.out (Kd.R_typed HO_460002.out) (by decide))) hkp (fun k_ hk_ hs_=>(hk_.2) hs_)) (fun k_ hk_=>hk_.1.1)) (Kd.R_reok rfl hy0 (fun k_ e_=>HO_460002.out.1 k_ e_)) (blk_kept (km_ BK459) hkp (fun hs_=>(fun e_=>(Kd.R_ne HO_460002.out BK459.out (by decide)) e_) hs_)) (blk_kept (km_ BK460) hkp (fun hs_=>(fun e_=>(Kd.R_ne HO_460002.out BK460.out (by decide)) e_) hs_)) (blk_kept (km_ BK468) hkp (fun hs_=>(fun e_=>(Kd.R_away HO_460002.out (fun _ hk=>hk.2)) e_) hs_)) (Kept.then_ (S:=(fun k_=>P0_2_ k_)) (km HK) hkp (fun k_ hs_=>(fun e_=>(HO_460002.out.1 k_ e_.symm).1) hs_)) (hb) ?_;clear HO_8 HO_460002 BK459 BK460 BK468 HK HB;intro HO_8 HO_460002 BK459 BK460 BK468 HK HB;(try clear hb);(try clear hkp);(try clear hy0);obtain ⟨hcz53_0,hcz53_1,hcz53_2,hfz53_0,hfz53_1,hfz53_2⟩:=bt3 BK459;obtain ⟨hcz54_0,hcz54_1,hcz54_2,hfz54_0,hfz54_1,hfz54_2⟩:=bt3 BK460))
          refine bodyPost_ret (results_ct rfl _ _ gb460 137 #[.int .i64 3,.int .i64 x10_1,.int .i64 (wrap64 (x2_1 + t469))] (0,0) _ rfl (fp BK460 rfl) Try.underlying137 rfl (by kernel_rfl)) rfl ?_;exact ⟨_,by first | rfl | (simp [e0_,e1_] <;> rfl) | (simp only [← hji11];first | rfl | (simp [e0_,e1_] <;> rfl)) | (simp [*,e0_,e1_] <;> rfl),Kd.R_mv (Kd.R_mono (ok':=fun k_=>((P0_2_ k_∨w.heap.size ≤ k_))) (Kd.R_far (p:=⟨gb460,2,none⟩) (Kd.R_far (p:=⟨gb460,1,none⟩) (Kd.R_far (p:=⟨gb460,0,none⟩) (Kd.R_types HO_8.out BK460.out (by decide)) (fun _ hk=>hk.2) (.int .i64 3)) (fun _ hk=>hk.2) (.int .i64 x10_1)) (fun _ hk=>hk.2) (.int .i64 (wrap64 (x2_1 + t469)))) (fun _ hk=>hk.1)),(by first | exact (Kd.R_mv (Kd.R_mono (ok':=fun k_=>((P0_2_ k_∨w.heap.size ≤ k_))) (Kd.R_far (p:=⟨gb460,2,none⟩) (Kd.R_far (p:=⟨gb460,1,none⟩) (Kd.R_far (p:=⟨gb460,0,none⟩) (Kd.R_types HO_460002.out BK460.out (by decide)) (fun _ hk=>hk.2) (.int .i64 3)) (fun _ hk=>hk.2) (.int .i64 x10_1)) (fun _ hk=>hk.2) (.int .i64 (wrap64 (x2_1 + t469)))) (fun _ hk=>hk.1.1))) | (simp only [hl460002_1,hl460002_15];exact (Kd.R_mv (Kd.R_mono (ok':=fun k_=>((P0_2_ k_∨w.heap.size ≤ k_))) (Kd.R_far (p:=⟨gb460,2,none⟩) (Kd.R_far (p:=⟨gb460,1,none⟩) (Kd.R_far (p:=⟨gb460,0,none⟩) (Kd.R_types HO_460002.out BK460.out (by decide)) (fun _ hk=>hk.2) (.int .i64 3)) (fun _ hk=>hk.2) (.int .i64 x10_1)) (fun _ hk=>hk.2) (.int .i64 (wrap64 (x2_1 + t469)))) (fun _ hk=>hk.1.1))))),bm HB,km HK⟩
         ·rw [if_neg c46] at H;have c46b0:decide (a0_1 ≤ (wrap64 (x2_1 + t469))) = false:=decide_eq_false c46;clear c46;have H':=Aside0.mk H;clear H;have hnb55:=NB468_459.out;have hnc55:=NB459_468.out;have hnb56:=NB468_460.out;have hnc56:=NB460_468.out;obtain ⟨hcz57_0,hcz57_1,hfz57_0,hfz57_1⟩:=bt2 BK468;have hnb58:=NB459_460.out;have hnc58:=NB460_459.out;obtain ⟨hcz59_0,hcz59_1,hcz59_2,hfz59_0,hfz59_1,hfz59_2⟩:=bt3 BK459;go_wp2_with (first | ((with_reducible refine gate_callee (f:=176) rfl ?_);refine goesL_ (some 66) rfl rfl Try.func176 (by kernel_rfl) rfl #[.agg #[.int .i64 a0_0,.int .i64 a0_1,.slice (some ad467) x460002_15.length co4],.slice A1 l1.length c1,.int .i64 ji11] rfl (by (try simp only [ma_,mb_,mc_]);first | done | (simp only [hji11];rfl) | rfl | (simp only [List.length_drop,List.length_take];rfl)) ?_;(with_reducible refine (impl_turnGroup.calls kj15 a0_0 a0_1 (fun k_=>some k_ = (.slice (some ad467) x460002_15.length co4:Value).ownBlock) (.slice (some ad467) x460002_15.length co4) x460002_15 _ _ l1 ji11 t472 w0 _ (bm HB) ?side2 ?side3 HC1.out A37.out).mono ?_);(case side2=>exact Kd.R_tight rfl HO_460002.out);(case side3=>exact Kd.C_kept_call HR1.out (km HK) (fun k_ hs_=>(fun e_=>(HO_460002.out.1 k_ e_.symm).1) hs_));rintro e w60 ⟨rfl,hy0,hb,hkp⟩;refine ⟨_,rfl,?_⟩;refine ev7 (Kd.R_mono (ok':=fun k_=>(P0_2_ k_∨w.heap.size ≤ k_)) (Kd.R_keptB ((Kd.R_apart' HO_8.out (Kd.R_typed HO_460002.out) (by decide))) hkp (fun k_ hk_ hs_=>(hk_.2) hs_)) (fun k_ hk_=>hk_.1.1)) (Kd.R_reok rfl hy0 (fun k_ e_=>HO_460002.out.1 k_ e_)) (blk_kept (km_ BK459) hkp (fun hs_=>(fun e_=>(Kd.R_ne HO_460002.out BK459.out (by decide)) e_) hs_)) (blk_kept (km_ BK460) hkp (fun hs_=>(fun e_=>(Kd.R_ne HO_460002.out BK460.out (by decide)) e_) hs_)) (blk_kept (km_ BK468) hkp (fun hs_=>(fun e_=>(Kd.R_away HO_460002.out (fun _ hk=>hk.2)) e_) hs_)) (Kept.then_ (S:=(fun k_=>P0_2_ k_)) (km HK) hkp (fun k_ hs_=>(fun e_=>(HO_460002.out.1 k_ e_.symm).1) hs_)) (hb) ?_;clear HO_8 HO_460002 BK459 BK460 BK468 HK HB;intro HO_8 HO_460002 BK459 BK460 BK468 HK HB;(try clear hb);(try clear hkp);(try clear hy0);obtain ⟨hcz61_0,hcz61_1,hcz61_2,hfz61_0,hfz61_1,hfz61_2⟩:=bt3 BK459))
          (try simp only [← hl460002_1,← hl460002_15])
          go_roundg kj15
          case measure=>have:=HK1.out;have:=HJ15.out;omega
          case rel=>exact ⟨(wrap64 (x2_1 + t469)),(y464),(wrap64 (-t469)),(wrap64 (x10_1 + 1)),(t472),(x461000_1),(x461001_1),(x461002_1),(by first | rfl | (simp;done) | (simp [*];done)),(by first | rfl | (simp;done) | (simp [*];done)),(by first | rfl | (simp;done) | (simp [*];done)),H',⟨by have:=HK1.out;have:=HJ15.out;omega⟩,⟨by (try simp only [hl460002_1]);(try simp only [hl460002_15]);exact Kd.R_mv HO_8.out⟩,⟨by (try simp only [hl460002_1]);(try simp only [hl460002_15]);exact Kd.R_mv (Kd.R_mono (ok':=fun k_=>((P0_2_ k_∨w.heap.size ≤ k_))) HO_460002.out (fun _ hk=>hk.1))⟩,⟨by (try simp only [hl460002_1]);(try simp only [hl460002_15]);exact km_ BK459⟩,⟨by (try simp only [hl460002_1]);(try simp only [hl460002_15]);exact km_ BK460⟩,⟨km HK⟩,⟨bm HB⟩⟩
       ·rw [if_neg c36] at H;have c36b0:(((rd_T27 x460002_1 (ji11)).f0) == 6) = false:=beq_eq_false_iff_ne.mpr c36;have c36b1:(((rd_T27 x460002_1 (ji11)).f0) != 6) = true:=bne_iff_ne.mpr c36;by_cases c62:(wrap64 (x2_1 + t469)) < 0
        ·rw [if_pos c62] at H;have c62b0:decide ((wrap64 (x2_1 + t469)) < 0) = true:=decide_eq_true c62;clear c62;simp only [Option.some.injEq,Prod.mk.injEq] at H;obtain ⟨rfl,rfl,rfl,rfl,rfl⟩:=H;have hnb63:=NB468_459.out;have hnc63:=NB459_468.out;have hnb64:=NB468_460.out;have hnc64:=NB460_468.out;obtain ⟨hcz65_0,hcz65_1,hfz65_0,hfz65_1⟩:=bt2 BK468;have hnb66:=NB460_459.out;have hnc66:=NB459_460.out;obtain ⟨hcz67_0,hcz67_1,hcz67_2,hfz67_0,hfz67_1,hfz67_2⟩:=bt3 BK460;go_wp2;refine bodyPost_ret (results_ct rfl _ _ gb460 137 #[.int .i64 3,.int .i64 x10_1,.int .i64 (wrap64 (x2_1 + t469))] (0,0) _ rfl (fp BK460 rfl) Try.underlying137 rfl (by kernel_rfl)) rfl ?_;exact ⟨_,by first | rfl | (simp [e0_,e1_] <;> rfl) | (simp only [← hji11];first | rfl | (simp [e0_,e1_] <;> rfl)) | (simp [*,e0_,e1_] <;> rfl),Kd.R_mv (Kd.R_mono (ok':=fun k_=>((P0_2_ k_∨w.heap.size ≤ k_))) (Kd.R_far (p:=⟨gb460,2,none⟩) (Kd.R_far (p:=⟨gb460,1,none⟩) (Kd.R_far (p:=⟨gb460,0,none⟩) (Kd.R_types HO_8.out BK460.out (by decide)) (fun _ hk=>hk.2) (.int .i64 3)) (fun _ hk=>hk.2) (.int .i64 x10_1)) (fun _ hk=>hk.2) (.int .i64 (wrap64 (x2_1 + t469)))) (fun _ hk=>hk.1)),(by first | exact (Kd.R_mv (Kd.R_mono (ok':=fun k_=>((P0_2_ k_∨w.heap.size ≤ k_))) (Kd.R_far (p:=⟨gb460,2,none⟩) (Kd.R_far (p:=⟨gb460,1,none⟩) (Kd.R_far (p:=⟨gb460,0,none⟩) (Kd.R_types HO_460002.out BK460.out (by decide)) (fun _ hk=>hk.2) (.int .i64 3)) (fun _ hk=>hk.2) (.int .i64 x10_1)) (fun _ hk=>hk.2) (.int .i64 (wrap64 (x2_1 + t469)))) (fun _ hk=>hk.1.1))) | (simp only [hl460002_1,hl460002_15];exact (Kd.R_mv (Kd.R_mono (ok':=fun k_=>((P0_2_ k_∨w.heap.size ≤ k_))) (Kd.R_far (p:=⟨gb460,2,none⟩) (Kd.R_far (p:=⟨gb460,1,none⟩) (Kd.R_far (p:=⟨gb460,0,none⟩) (Kd.R_types HO_460002.out BK460.out (by decide)) (fun _ hk=>hk.2) (.int .i64 3)) (fun _ hk=>hk.2) (.int .i64 x10_1)) (fun _ hk=>hk.2) (.int .i64 (wrap64 (x2_1 + t469)))) (fun _ hk=>hk.1.1))))),bm HB,km HK⟩
        ·rw [if_neg c62] at H;have c62b0:decide ((wrap64 (x2_1 + t469)) < 0) = false:=decide_eq_false c62;clear c62;by_cases c68:(wrap64 (x2_1 + t469)) ≥ a0_1
         ·rw [if_pos c68] at H;have c68b0:decide (a0_1 ≤ (wrap64 (x2_1 + t469))) = true:=decide_eq_true c68;clear c68;simp only [Option.some.injEq,Prod.mk.injEq] at H;obtain ⟨rfl,rfl,rfl,rfl,rfl⟩:=H;have hnb69:=NB468_459.out;have hnc69:=NB459_468.out;have hnb70:=NB468_460.out;have hnc70:=NB460_468.out;obtain ⟨hcz71_0,hcz71_1,hfz71_0,hfz71_1⟩:=bt2 BK468;have hnb72:=NB459_460.out;have hnc72:=NB460_459.out;obtain ⟨hcz73_0,hcz73_1,hcz73_2,hfz73_0,hfz73_1,hfz73_2⟩:=bt3 BK459;obtain ⟨hcz74_0,hcz74_1,hcz74_2,hfz74_0,hfz74_1,hfz74_2⟩:=bt3 BK460;go_wp2;refine bodyPost_ret (results_ct rfl _ _ gb460 137 #[.int .i64 3,.int .i64 x10_1,.int .i64 (wrap64 (x2_1 + t469))] (0,0) _ rfl (fp BK460 rfl) Try.underlying137 rfl (by kernel_rfl)) rfl ?_;exact ⟨_,by first | rfl | (simp [e0_,e1_] <;> rfl) | (simp only [← hji11];first | rfl | (simp [e0_,e1_] <;> rfl)) | (simp [*,e0_,e1_] <;> rfl),Kd.R_mv (Kd.R_mono (ok':=fun k_=>((P0_2_ k_∨w.heap.size ≤ k_))) (Kd.R_far (p:=⟨gb460,2,none⟩) (Kd.R_far (p:=⟨gb460,1,none⟩) (Kd.R_far (p:=⟨gb460,0,none⟩) (Kd.R_types HO_8.out BK460.out (by decide)) (fun _ hk=>hk.2) (.int .i64 3)) (fun _ hk=>hk.2) (.int .i64 x10_1)) (fun _ hk=>hk.2) (.int .i64 (wrap64 (x2_1 + t469)))) (fun _ hk=>hk.1)),(by first | exact (Kd.R_mv (Kd.R_mono (ok':=fun k_=>((P0_2_ k_∨w.heap.size ≤ k_))) (Kd.R_far (p:=⟨gb460,2,none⟩) (Kd.R_far (p:=⟨gb460,1,none⟩) (Kd.R_far (p:=⟨gb460,0,none⟩) (Kd.R_types HO_460002.out BK460.out (by decide)) (fun _ hk=>hk.2) (.int .i64 3)) (fun _ hk=>hk.2) (.int .i64 x10_1)) (fun _ hk=>hk.2) (.int .i64 (wrap64 (x2_1 + t469)))) (fun _ hk=>hk.1.1))) | (simp only [hl460002_1,hl460002_15];exact (Kd.R_mv (Kd.R_mono (ok':=fun k_=>((P0_2_ k_∨w.heap.size ≤ k_))) (Kd.R_far (p:=⟨gb460,2,none⟩) (Kd.R_far (p:=⟨gb460,1,none⟩) (Kd.R_far (p:=⟨gb460,0,none⟩) (Kd.R_types HO_460002.out BK460.out (by decide)) (fun _ hk=>hk.2) (.int .i64 3)) (fun _ hk=>hk.2) (.int .i64 x10_1)) (fun _ hk=>hk.2) (.int .i64 (wrap64 (x2_1 + t469)))) (fun _ hk=>hk.1.1))))),bm HB,km HK⟩
         ·rw [if_neg c68] at H;have c68b0:decide (a0_1 ≤ (wrap64 (x2_1 + t469))) = false:=decide_eq_false c68;clear c68;have H':=Aside0.mk H;clear H;have hnb75:=NB468_459.out;have hnc75:=NB459_468.out;have hnb76:=NB468_460.out;have hnc76:=NB460_468.out;obtain ⟨hcz77_0,hcz77_1,hfz77_0,hfz77_1⟩:=bt2 BK468;have hnb78:=NB459_460.out;have hnc78:=NB460_459.out;obtain ⟨hcz79_0,hcz79_1,hcz79_2,hfz79_0,hfz79_1,hfz79_2⟩:=bt3 BK459;go_wp2;(try simp only [← hl460002_1,← hl460002_15])
          go_roundg kj15
          case measure=>have:=HK1.out;have:=HJ15.out;omega
          case rel=>exact ⟨(wrap64 (x2_1 + t469)),(y464),(wrap64 (-t469)),(wrap64 (x10_1 + 1)),(x460002_15),(x461000_1),(x461001_1),(x461002_1),(by first | rfl | (simp;done) | (simp [*];done)),(by first | rfl | (simp;done) | (simp [*];done)),(by first | rfl | (simp;done) | (simp [*];done)),H',⟨by have:=HK1.out;have:=HJ15.out;omega⟩,⟨by (try simp only [hl460002_1]);(try simp only [hl460002_15]);exact Kd.R_mv HO_8.out⟩,⟨by (try simp only [hl460002_1]);(try simp only [hl460002_15]);exact Kd.R_mv (Kd.R_mono (ok':=fun k_=>((P0_2_ k_∨w.heap.size ≤ k_))) HO_460002.out (fun _ hk=>hk.1))⟩,⟨by (try simp only [hl460002_1]);(try simp only [hl460002_15]);exact km_ BK459⟩,⟨by (try simp only [hl460002_1]);(try simp only [hl460002_15]);exact km_ BK460⟩,⟨km HK⟩,⟨bm HB⟩⟩
    ·replace c15:=Bool.eq_false_iff.mpr c15;subst c15;have H1:(some (2,x10_1,x2_1,y464,x460002_1)) = some (r1,r2,r3,r4,r5):=by rw [if_neg (show ¬ (false = true) by decide)] at H;exact H
     clear H;have H:=H1;clear H1;simp only [Option.some.injEq,Prod.mk.injEq] at H;obtain ⟨rfl,rfl,rfl,rfl,rfl⟩:=H;have hnb80:=NB459_460.out;have hnc80:=NB460_459.out;obtain ⟨hcz81_0,hcz81_1,hcz81_2,hfz81_0,hfz81_1,hfz81_2⟩:=bt3 BK459;go_wp2_with (first | ((with_reducible refine gate_builtin (b:=.append) (xs:=#[.tmp 28,.tmp 30]) rfl ?_);at_builtin;refine Kd.R_append (Kd.int .i64) (w0:=w0) w0.heap.size rfl (.tmp 28) (.tmp 30) 35 3 (.int .i64 0) 8 rfl Try.underlying35 info3 rfl (by decide) (by omega) u8 x8_1 ji11 [.int .i64 ji11] (fun k_=>(P0_2_ k_∨w.heap.size ≤ k_)) (fun _=>False) rfl rfl ?aP (fun _ hk=>hk.elim) ?aF ?aO ?aB ?aS ?aL ?_;(case aP=>exact rfl);(case aB=>exact (bm HB));(case aF=>exact (fun k_ hk=>(.inr (Nat.le_trans (by first | exact HK.out.1 | exact (show Kept w _ (fun k_=>P0_2_ k_) from km HK).1) hk))));(case aO=>exact (Kd.R_mv HO_8.out));(case aS=>exact (below_size (bm HB)));(case aL=>have:=LMc10.out;omega);intro v465 w82 ho hb hg hat;rw [← Ny464.out] at ho;refine ev6 (Kd.R_over' (Kd.R_mv HO_460002.out) (Kd.R_typed (Kd.R_mv HO_8.out)) (by decide) hg) (blk_grown (km_ BK459) hg (Kd.R_ne HO_8.out BK459.out (by decide))) (blk_grown (km_ BK460) hg (Kd.R_ne HO_8.out BK460.out (by decide))) (hb) (Kept.of_grown (S:=(fun k_=>P0_2_ k_)) hg (km HK) (fun k_ e_=>(HO_8.out.1 k_ e_))) (ho) ?_;clear HO_460002 BK459 BK460 HB HK HO_8;intro HO_460002 BK459 BK460 HB HK HO466;clear ho hb hg hat;obtain ⟨hcz83_0,hcz83_1,hcz83_2,hfz83_0,hfz83_1,hfz83_2⟩:=bt3 BK459;have p467:0 ≤ ((ji11):Int):=of_decide_eq_true (by first | (with_reducible assumption) | assumption);have q467:(ji11) < (x460002_1.length:Int):=of_decide_eq_true (by first | (with_reducible assumption) | assumption);obtain ⟨ad467,e467,hx467_0,hx467_1⟩:=at_T27 (Kd.R_reads' HO_460002.out).2.2 (ji11) p467 q467;cases e467;replace p467:=eq_true p467;replace q467:=eq_true q467) | ((with_reducible refine gate_dst (N:=12) rfl ?_);refine box_event ?hg (N:=12) ?hd (cs:=#[.int .i64 0,.int .i64 0]) (t:=27) ?hr ?_;(case hd=>rfl);(case hg=>rfl);(case hr=>first | (go_simp;done) | (go_simp;rfl));intro gb468 hg w84 hbox hb;refine ev12 (Kd.R_below (Kd.R_elderB (Kd.R_mv HO_460002.out) gb468 (Nat.le_of_eq hg.symm)) hb) (Kd.R_below (Kd.R_mv HO466.out) hb) (kb BK459 hb) (kb BK460 hb) (Kept.below (S:=(fun k_=>P0_2_ k_)) (km HK) hb) (bs HB hb) (hbox) ((by rw [hg];exact (by first | exact HK.out.1 | exact (show Kept w _ (fun k_=>P0_2_ k_) from km HK).1):w.heap.size ≤ gb468)) (gle hg HB) (gnf hg BK459) (gne hg BK459) (gnf hg BK460) ?_;intro n0_ n1_ n2_ n3_ n4_ n5_ n6_ n7_ n8_ n9_ n10_ n11_;refine ev1 (gne hg BK460) ?_;intro n12_;clear HO_460002 HO466 BK459 BK460 HK HB;revert n0_ n1_ n2_ n3_ n4_ n5_ n6_ n7_ n8_ n9_ n10_ n11_ n12_;intro HO_460002 HO466 BK459 BK460 HK HB BK468 GW468 GE468 NB459_468 NB468_459 NB460_468 NB468_460;clear hb hbox hg;have hnb85:=NB468_459.out;have hnc85:=NB459_468.out;have hnb86:=NB468_460.out;have hnc86:=NB460_468.out;obtain ⟨hcz87_0,hcz87_1,hfz87_0,hfz87_1⟩:=bt2 BK468) | ((with_reducible refine gate_callee (f:=175) rfl ?_);refine goesL_ (some 40) rfl rfl Try.func175 (by kernel_rfl) rfl #[.agg #[.int .i64 ((rd_T27 x460002_1 (ji11)).f0),.int .i64 ((rd_T27 x460002_1 (ji11)).f1)],.int .i64 x9_1] rfl (by (try simp only [ma_,mb_,mc_]);first | done | (simp only [hji11];rfl) | rfl | (simp only [List.length_drop,List.length_take];rfl)) ?_;(with_reducible refine (impl_GoesTo.calls k1 ((rd_T27 x460002_1 (ji11)).f0) ((rd_T27 x460002_1 (ji11)).f1) x9_1 t469 false _ A14.out).mono ?_);rintro e w88 ⟨rfl,hb⟩;refine ⟨_,rfl,?_⟩;refine ev7 (Kd.R_below (Kd.R_mv (Kd.R_mono (Kd.R_far (p:=⟨gb468,1,none⟩) (Kd.R_far (p:=⟨gb468,0,none⟩) (Kd.R_mono HO_460002.out (fun k_ hk=>(⟨hk,hk.2⟩:_∧k_ ≠ gb468))) (fun _ hk=>hk.2) (.int .i64 ((rd_T27 x460002_1 (ji11)).f0))) (fun _ hk=>hk.2) (.int .i64 ((rd_T27 x460002_1 (ji11)).f1))) (fun _ h_=>h_.1))) hb) (Kd.R_below (Kd.R_ft HO466.out BK468.out (by decide)) hb) (blk_below (g:=gb459) (o:=.cells #[.int .i64 a0_0,.int .i64 a0_1,.slice (some ad467) x460002_1.length co4] 25 (0,0)) (fp BK459 rfl) hb) (blk_below (g:=gb460) (o:=.cells #[.int .i64 x461000_1,.int .i64 x461001_1,.int .i64 x461002_1] 137 (0,0)) (fp BK460 rfl) hb) (blk_below (g:=gb468) (o:=.cells #[.int .i64 ((rd_T27 x460002_1 (ji11)).f0),.int .i64 ((rd_T27 x460002_1 (ji11)).f1)] 27 (0,0)) (fp BK468 rfl) hb) (Kept.below (S:=(fun k_=>P0_2_ k_)) (km HK) hb) (bs HB hb) ?_;clear HO_460002 HO466 BK459 BK460 BK468 HK HB;intro HO_460002 HO466 BK459 BK460 BK468 HK HB;(try clear hb);obtain ⟨hcz89_0,hcz89_1,hcz89_2,hfz89_0,hfz89_1,hfz89_2⟩:=bt3 BK460))
     refine bodyPost_ret (results_ct rfl _ _ gb460 137 #[.int .i64 2,.int .i64 x10_1,.int .i64 x2_1] (0,0) _ rfl (fp BK460 rfl) Try.underlying137 rfl (by kernel_rfl)) rfl ?_;exact ⟨_,by first | rfl | (simp [e0_,e1_] <;> rfl) | (simp only [← hji11];first | rfl | (simp [e0_,e1_] <;> rfl)) | (simp [*,e0_,e1_] <;> rfl),Kd.R_mv (Kd.R_mono (ok':=fun k_=>((P0_2_ k_∨w.heap.size ≤ k_))) (Kd.R_far (p:=⟨gb460,2,none⟩) (Kd.R_far (p:=⟨gb460,1,none⟩) (Kd.R_far (p:=⟨gb460,0,none⟩) (Kd.R_types HO466.out BK460.out (by decide)) (fun _ hk=>hk.2) (.int .i64 2)) (fun _ hk=>hk.2) (.int .i64 x10_1)) (fun _ hk=>hk.2) (.int .i64 x2_1)) (fun _ hk=>hk.1)),(by first | exact (Kd.R_mv (Kd.R_mono (ok':=fun k_=>((P0_2_ k_∨w.heap.size ≤ k_))) (Kd.R_far (p:=⟨gb460,2,none⟩) (Kd.R_far (p:=⟨gb460,1,none⟩) (Kd.R_far (p:=⟨gb460,0,none⟩) (Kd.R_types HO_460002.out BK460.out (by decide)) (fun _ hk=>hk.2) (.int .i64 2)) (fun _ hk=>hk.2) (.int .i64 x10_1)) (fun _ hk=>hk.2) (.int .i64 x2_1)) (fun _ hk=>hk.1.1))) | (simp only [hl460002_1];exact (Kd.R_mv (Kd.R_mono (ok':=fun k_=>((P0_2_ k_∨w.heap.size ≤ k_))) (Kd.R_far (p:=⟨gb460,2,none⟩) (Kd.R_far (p:=⟨gb460,1,none⟩) (Kd.R_far (p:=⟨gb460,0,none⟩) (Kd.R_types HO_460002.out BK460.out (by decide)) (fun _ hk=>hk.2) (.int .i64 2)) (fun _ hk=>hk.2) (.int .i64 x10_1)) (fun _ hk=>hk.2) (.int .i64 x2_1)) (fun _ hk=>hk.1.1))))),bm HB,km HK⟩
   ·rw [if_neg c9] at H;have c9b0:decide (x10_1 < a0_0) = false:=decide_eq_false c9;clear c9;simp only [Option.some.injEq,Prod.mk.injEq] at H;obtain ⟨rfl,rfl,rfl,rfl,rfl⟩:=H;have hnb90:=NB459_460.out;have hnc90:=NB460_459.out;obtain ⟨hcz91_0,hcz91_1,hcz91_2,hfz91_0,hfz91_1,hfz91_2⟩:=bt3 BK459;obtain ⟨hcz92_0,hcz92_1,hcz92_2,hfz92_0,hfz92_1,hfz92_2⟩:=bt3 BK460;go_wp2;refine bodyPost_ret (results_ct rfl _ _ gb460 137 #[.int .i64 1,.int .i64 a0_0,.int .i64 x2_1] (0,0) _ rfl (fp BK460 rfl) Try.underlying137 rfl (by kernel_rfl)) rfl ?_;exact ⟨_,by first | rfl | (simp [e0_,e1_] <;> rfl) | (simp [*,e0_,e1_] <;> rfl),Kd.R_mv (Kd.R_mono (ok':=fun k_=>((P0_2_ k_∨w.heap.size ≤ k_))) (Kd.R_far (p:=⟨gb460,2,none⟩) (Kd.R_far (p:=⟨gb460,1,none⟩) (Kd.R_far (p:=⟨gb460,0,none⟩) (Kd.R_types HO_8.out BK460.out (by decide)) (fun _ hk=>hk.2) (.int .i64 1)) (fun _ hk=>hk.2) (.int .i64 a0_0)) (fun _ hk=>hk.2) (.int .i64 x2_1)) (fun _ hk=>hk.1)),(by first | exact (Kd.R_mv (Kd.R_mono (ok':=fun k_=>((P0_2_ k_∨w.heap.size ≤ k_))) (Kd.R_far (p:=⟨gb460,2,none⟩) (Kd.R_far (p:=⟨gb460,1,none⟩) (Kd.R_far (p:=⟨gb460,0,none⟩) (Kd.R_types HO_460002.out BK460.out (by decide)) (fun _ hk=>hk.2) (.int .i64 1)) (fun _ hk=>hk.2) (.int .i64 a0_0)) (fun _ hk=>hk.2) (.int .i64 x2_1)) (fun _ hk=>hk.1))) | (simp only [hl460002_1];exact (Kd.R_mv (Kd.R_mono (ok':=fun k_=>((P0_2_ k_∨w.heap.size ≤ k_))) (Kd.R_far (p:=⟨gb460,2,none⟩) (Kd.R_far (p:=⟨gb460,1,none⟩) (Kd.R_far (p:=⟨gb460,0,none⟩) (Kd.R_types HO_460002.out BK460.out (by decide)) (fun _ hk=>hk.2) (.int .i64 1)) (fun _ hk=>hk.2) (.int .i64 a0_0)) (fun _ hk=>hk.2) (.int .i64 x2_1)) (fun _ hk=>hk.1))))),bm HB,km HK⟩

/-! ### impl_numbersAfter: function 106 -/
mutual
def impl_numbersAfter.l0:Nat→List (List Int)→List Int→List Int→Int→Int→List (S27)→List (List Int)→Int→Int→Option ((List (List Int)))
  | 0,_,_,_,_,_,_,_,_,_=>none
  | k + 1,units,g,cols,a0,a1,cs,out,n,kk=>if kk < n then (if 0 ≤ kk then (if kk < (cols.length:Int) then (if kk < (out.length:Int) then (if 0 ≤ (units.length:Int) then (if 0 ≤ shl .i64 1 (units.length:Int) then (if (shl .i64 1 (units.length:Int)).toNat ≤ 35184372088832 then (impl_numbersAfter.l1 k units g cols a0 a1 cs out n kk (List.replicate (shl .i64 1 (units.length:Int)).toNat 0) ((List.replicate (shl .i64 1 (units.length:Int)).toNat (0:Int)).length:Int) 0) else (none)) else (none)) else (none)) else (none)) else (none)) else (none)) else (some out)
def impl_numbersAfter.l1:Nat→List (List Int)→List Int→List Int→Int→Int→List (S27)→List (List Int)→Int→Int→List Int→Int→Int→Option ((List (List Int)))
  | 0,_,_,_,_,_,_,_,_,_,_,_,_=>none
  | k + 1,units,g,cols,a0,a1,cs,out,n,kk,row,m,nn=>if nn < m then (if 0 ≤ nn then (if nn < (row.length:Int) then ((impl_copyBoard.f a0 a1 cs).bind fun t=>(impl_bitList.f k nn (units.length:Int)).bind fun b=>(impl_setBits.f k t.1 t.2.1 t.2.2 units b).bind fun cs1=>(impl_drop.f k t.1 t.2.1 cs1 g (rd cols kk)).bind fun d=>(if units.length ≤ 35184372088832 then (impl_numbersAfter.l2 k units g cols a0 a1 cs out n kk row m nn d.2.2.2.2 (List.replicate units.length 0) (units.length:Int) 0) else (none))) else (none)) else (none)) else (impl_numbersAfter.l0 k units g cols a0 a1 cs (out.set kk.toNat row) n (wrap64 (kk + 1)))
def impl_numbersAfter.l2:Nat→List (List Int)→List Int→List Int→Int→Int→List (S27)→List (List Int)→Int→Int→List Int→Int→Int→List (S27)→List Int→Int→Int→Option ((List (List Int)))
  | 0,_,_,_,_,_,_,_,_,_,_,_,_,_,_,_,_=>none
  | k + 1,units,g,cols,a0,a1,cs,out,n,kk,row,m,nn,cs2,bits,un,u=>if u < un then (if 0 ≤ u then (if u < (units.length:Int) then (if 0 < ((rd_L3 units u).length:Int) then (if 0 ≤ (rd (rd_L3 units u) 0) then (if (rd (rd_L3 units u) 0) < (cs2.length:Int) then (if u < (bits.length:Int) then (impl_numbersAfter.l2 k units g cols a0 a1 cs out n kk row m nn cs2 (bits.set u.toNat (rd_T27 cs2 (rd (rd_L3 units u) 0)).f1) un (wrap64 (u + 1))) else (none)) else (none)) else (none)) else (none)) else (none)) else (none)) else ((impl_numberOf.f k bits).bind fun v=>impl_numbersAfter.l1 k units g cols a0 a1 cs out n kk (row.set nn.toNat v) m (wrap64 (nn + 1)))
end
def impl_numbersAfter.f (k:Nat) (a0_0:Int) (a0_1:Int) (l0_2:List (S27)) (l1:List Int):Option ((List (List Int))):=(impl_unitsOf.f k a0_0 a0_1 l0_2).bind fun units=>(impl_groupNumbers.f k a0_0 a0_1 l0_2).bind fun g=>(if l1.length ≤ 1000000 then (impl_numbersAfter.l0 k units g l1 a0_0 a0_1 l0_2 (List.replicate (l1.length:Int).toNat []) (l1.length:Int) 0) else (none))
theorem impl_numbersAfter.calls (k:Nat) (a0_0:Int) (a0_1:Int) (A0_2:Option Addr) (c0_2:Nat) (l0_2:List (S27)) (A1:Option Addr) (c1:Nat) (l1:List Int) (r:List (List Int)) (w:World) (hr0_2:Kd.C k27 w A0_2 l0_2.length l0_2) (hc0_2:l0_2.length ≤ c0_2) (hr1:Kd.C (Kd.int .i64) w A1 l1.length l1) (hc1:l1.length ≤ c1) (h:impl_numbersAfter.f k a0_0 a0_1 l0_2 l1 = some r) :
    Calls Try.prog 106 #[.agg #[.int .i64 a0_0,.int .i64 a0_1,.slice A0_2 l0_2.length c0_2],.slice A1 l1.length c1] w fun e w'=>∃ v0_:Value,e = .returned (v0_)∧Kd.R (Kd.slice 3 (Kd.int .i64)) 35 w' w.heap.size (fun _=>True) v0_ r∧Below w.heap.size w w':=by
 have S:=St.init (w:=w) (dc k27_heap at27 hr0_2 hc0_2 (dc (Kd.heap_int .i64) (atI .i64) hr1 hc1 dn))
 clear hr0_2 hc0_2 hr1 hc1
 have F:=S.fc
 have H:=h;clear h;unfold impl_numbersAfter.f at H
 replace H:=Option.bind_eq_some_iff.mp H;obtain ⟨us,A2,H⟩:=H;(try dsimp only at H)
 replace H:=Option.bind_eq_some_iff.mp H;obtain ⟨gl,A3,H⟩:=H;(try dsimp only at H)
 replace H:=np_ H;obtain ⟨c3,H⟩:=H
 obtain ⟨y7,hy7⟩:∃ y_:List (List Int),y_ = List.replicate (l1.length:Int).toNat []:=⟨_,rfl⟩
 rw [← hy7] at H;have Ny7:=Aside0.mk hy7;clear hy7
 go_enter Try.func106,Try.ntmps106
 go_wp2_with (first | ((with_reducible refine gd 2 rfl (L ?_));refine bo 2 (.agg #[_,_,_]) S ?_;clear S F;intro gb W S;have F:=S.fc) | ((with_reducible refine gate_callee (f:=147) rfl (L ?_));refine cl (some 15) Try.func147 (impl_unitsOf.calls _ _ _ _ _ _ _ _ S.c S.n A2) (hargs:=by (simp only [ma_,mb_,mc_,F] <;> rfl)) (h:=?_);rintro e W ⟨v160,rfl,ho0,hb⟩;refine ⟨_,rfl,?_⟩;replace S:=S.got (atU (d:=Kd.slice 3 (Kd.int .i64))) hb ho0;obtain ⟨Au,cu,rfl,S⟩:=S;clear F hb ho0;replace S:=S.fzr Au rfl;have F:=S.fc) | ((with_reducible refine gate_callee (f:=148) rfl (L ?_));refine cl (some 17) Try.func148 (impl_groupNumbers.calls _ _ _ _ _ _ _ _ S.c S.n A3) (hargs:=by (simp only [ma_,mb_,mc_,F] <;> rfl)) (h:=?_);rintro e W ⟨v161,rfl,ho0,hb⟩;refine ⟨_,rfl,?_⟩;replace S:=S.got (atI .i64) hb ho0;obtain ⟨Ag,cg,rfl,S⟩:=S;clear F hb ho0;have F:=S.fc) | ((with_reducible refine gd 20 rfl (L ?_));refine mks 20 35 3 (Kd.int .i64) S Try.underlying114 info35 ?_;clear S F;intro Ao co W S;rw [← Ny7.out] at S ⊢;have F:=S.fc))
 go_loopg [23] k (fun kq v23 w'=>∃ (kk:Int) (out:List (List Int)),v23 = .int .i64 kk∧impl_numbersAfter.l0 kq us gl l1 a0_0 a0_1 l0_2 out (l1.length:Int) kk = some r∧kq ≤ k∧St w w (fun _=>False) [bor (atU (d:=Kd.slice 3 (Kd.int .i64))) Au cu us,bor at27 A0_2 c0_2 l0_2,bor (atI .i64) A1 c1 l1] w' [srow (Kd.slice 3 (Kd.int .i64)) 35 Ao y7.length co out,row (atI .i64) 3 Ag gl.length cg gl,box gb 25 [.int .i64 a0_0,.int .i64 a0_1,.slice A0_2 l0_2.length c0_2]])
 case atStart=>exact ⟨0,y7,(by first | rfl | (simp;done) | (simp [*];done) | (rw [w6_ (by omega) (by omega)])),(by first | exact H | (simp only [F];exact H)),Nat.le_refl _,(S.pm [0,1,3])⟩
 case round =>
  clear H S F
  obtain ⟨kk,out,rfl,HA,HK1,S⟩:=hrel
  have F:=S.fc
  cases gk with
  | zero=>exact absurd HA (by simp [impl_numbersAfter.l0])
  | succ k1 =>
   have H:=HA;clear HA;simp only [impl_numbersAfter.l0] at H
   replace H:=sp_ H;rcases H with ⟨c6,H⟩ | ⟨c6,H⟩
   · skip
     replace H:=np_ H;obtain ⟨c7,H⟩:=H
     replace H:=np_ H;obtain ⟨c8,H⟩:=H
     replace H:=np_ H;obtain ⟨c9,H⟩:=H
     simp only [F] at c9
     replace H:=np_ H;obtain ⟨c10,H⟩:=H
     obtain ⟨ji5,hji5⟩:∃ j_:Int,(shl .i64 1 (us.length:Int)) = j_:=⟨_,rfl⟩;simp only [hji5] at H
     have hji5_:(IntKind.i64.wrap (1 * 2 ^ min (us.length:Int).toNat 64)) = ji5:=hji5
     have hji5a:(IntKind.i64.wrap (1 * 2 ^ min us.length 64)) = ji5:=hji5
     have hji5u:(IntKind.i64.wrap (2 ^ min us.length 64)) = ji5:=by have h_:=hji5a;rw [Int.one_mul] at h_;exact h_
     have hji5y:(wrap64 (1 * 2 ^ min us.length 64)) = ji5:=(i64_w _).symm.trans hji5a
     have hji5w:(wrap64 (2 ^ min us.length 64)) = ji5:=(i64_w _).symm.trans hji5u
     clear hji5
     replace H:=np_ H;obtain ⟨c11,H⟩:=H
     replace H:=np_ H;obtain ⟨c12,H⟩:=H
     obtain ⟨y8,hy8⟩:∃ y_:List Int,y_ = List.replicate ji5.toNat 0:=⟨_,rfl⟩
     rw [← hy8] at H;have Ny8:=Aside0.mk hy8;clear hy8
     obtain ⟨Ax,cx,S⟩:=S.spl Ao (atI .i64) kk (rd_L3 out kk)
     replace S:=S.tl
     clear F;have F:=S.fc
     go_wp2_with (first | ((with_reducible refine gd 33 rfl (L ?_));refine mka 33 (atI .i64) S Try.underlying35 info3 ?_;clear S F;intro A8 c8 W S;rw [← Ny8.out] at S ⊢;have F:=S.fc) | ((with_reducible refine gs (t:=35) rfl (L ?_));refine sh (A:=Ao) (.slice A8 _ _) S sz35 ?_;clear S F;intro W S;have F:=S.fc))
     clear hji5_ hji5a hji5u hji5y hji5w
     go_loopg [40] k1 (fun kq v40 w'=>∃ (nn:Int) (row_:List Int),v40 = .int .i64 nn∧impl_numbersAfter.l1 kq us gl l1 a0_0 a0_1 l0_2 out (l1.length:Int) kk row_ (y8.length:Int) nn = some r∧kq ≤ k1∧St w w (fun _=>False) [bor (atU (d:=Kd.slice 3 (Kd.int .i64))) Au cu us,bor at27 A0_2 c0_2 l0_2,bor (atI .i64) A1 c1 l1] w' [row (atI .i64) 3 A8 y8.length c8 row_,hol (Kd.slice 3 (Kd.int .i64)) 35 Ao y7.length co out kk (.slice A8 y8.length c8),row (atI .i64) 3 Ag gl.length cg gl,box gb 25 [.int .i64 a0_0,.int .i64 a0_1,.slice A0_2 l0_2.length c0_2]])
     case atStart=>exact ⟨0,y8,(by first | rfl | (simp;done) | (simp [*];done) | (rw [w6_ (by omega) (by omega)])),(by first | exact H | (simp only [F];exact H)),Nat.le_refl _,S⟩
     case round =>
      clear H S F
      obtain ⟨nn,row_,rfl,HA,HK2,S⟩:=hrel
      have F:=S.fc
      cases gk with
      | zero=>exact absurd HA (by simp [impl_numbersAfter.l1])
      | succ k2 =>
       have H:=HA;clear HA;simp only [impl_numbersAfter.l1] at H
       replace H:=sp_ H;rcases H with ⟨c14,H⟩ | ⟨c14,H⟩
       · skip
         replace H:=np_ H;obtain ⟨c15,H⟩:=H
         replace H:=np_ H;obtain ⟨c16,H⟩:=H
         simp only [F] at c16
         replace H:=Option.bind_eq_some_iff.mp H;obtain ⟨⟨t1,t2,t3⟩,A4,H⟩:=H;(try dsimp only at H)
         replace H:=Option.bind_eq_some_iff.mp H;obtain ⟨bl,A5,H⟩:=H;(try dsimp only at H)
         replace H:=Option.bind_eq_some_iff.mp H;obtain ⟨cs1,A6,H⟩:=H;(try dsimp only at H)
         replace H:=Option.bind_eq_some_iff.mp H;obtain ⟨⟨d1,d2,d3,d4,cs2⟩,A7,H⟩:=H;(try dsimp only at H)
         replace H:=np_ H;obtain ⟨c17,H⟩:=H
         obtain ⟨y9,hy9⟩:∃ y_:List Int,y_ = List.replicate (us.length:Int).toNat 0:=⟨_,rfl⟩
         rw [show List.replicate us.length (0:Int) = y9 from hy9.symm] at H;have Ny9:=Aside0.mk hy9;clear hy9
         have c18:(0:Int) ≤ (us.length:Int):=by omega
         go_upto_region 12 with (first | ((with_reducible refine gate_callee (f:=80) rfl (L ?_));refine cl (some 44) Try.func80 (impl_copyBoard.calls _ _ _ _ _ _ _ _ _ S.c S.n A4) (hargs:=by (simp only [ma_,mb_,mc_,F] <;> rfl)) (h:=?_);rintro e W ⟨v2,rfl,ho0,hb⟩;refine ⟨_,rfl,?_⟩;replace S:=S.got at27 hb ho0;obtain ⟨An,cn,rfl,S⟩:=S;clear F hb ho0;have F:=S.fc) | ((with_reducible refine gd 11 rfl (L ?_));refine al 11 S zi25 ?_;clear S F;intro gn W S;have F:=S.fc) | ((with_reducible refine gs (t:=25) rfl (L ?_));(first | refine sb (.agg #[_,_,_]) S sz25 ?_ | refine ro (.agg #[_,_,_]) S sz25 ?_ (ho:=rfl) (hx:=rfl) (hy:=rfl));(clear S F;intro W S;have F:=S.fc)))
         (try simp only [Act.put,List.setIfInBounds_toArray,List.set_cons_zero,List.set_cons_succ])
         refine rq S [(0,1),(0,2),(0,3),(0,4),(1,0),(2,5),(3,6)] [6] (h:=?_);clear S F;intro W S;have S0:=S;have F:=S.fc
         repeat (first | (refine q0 (h:=?_)) | (refine q1 S0 (h:=?_)) | (refine q0n (h:=?_)) | (refine q1n S0 (h:=?_)))
         refine lk2 (by rfl) (by exact (Eq.refl true)) ?_;refine cl (some 50) Try.func150 (impl_bitList.calls _ _ _ _ _ A5) (hargs:=by (simp only [ma_,mb_,mc_,F] <;> rfl)) (h:=?_);rintro e W ⟨v5,rfl,ho0,hb⟩;refine ⟨_,rfl,?_⟩;replace S:=S.got (atI .i64) hb ho0;obtain ⟨Ab,cb,rfl,S⟩:=S;clear F hb ho0;have F:=S.fc
         clear S0;have S0:=S.tl;refine ⟨S0,?_⟩
         repeat (first | (refine q0 (h:=?_)) | (refine q1 S0 (h:=?_)) | (refine q0n (h:=?_)) | (refine q1n S0 (h:=?_)))
         refine lk3 (by rfl) (by exact (Eq.refl true)) ?_;obtain ⟨ok_,k_⟩:=S.lend (A:=An);refine cl (some 51) Try.func149 (impl_setBits.calls _ _ _ ok_ _ _ _ _ _ _ _ _ _ _ _ k_.below k_.own k_.c k_.n k_.c k_.n A6) (hargs:=by (simp only [ma_,mb_,mc_,F] <;> rfl)) (h:=?_);rintro e W ⟨rfl,hy,hb,hk⟩;refine ⟨_,rfl,?_⟩;clear S F;have S:=k_.back _ _ hy hb hk;clear k_ hy hb hk ok_;have F:=S.fc
         repeat (first | (refine q0 (h:=?_)) | (refine q1 S0 (h:=?_)) | (refine q0n (h:=?_)) | (refine q1n S0 (h:=?_)))
         refine oz ?_
         try clear S0
         go_wp2_with (first | ((with_reducible refine gate_callee (f:=151) rfl (L ?_));obtain ⟨ok_,k_⟩:=S.lend (A:=An);refine cl (some 55) Try.func151 (impl_drop.calls _ _ _ ok_ _ _ _ _ _ _ _ _ _ _ _ _ _ k_.below k_.own k_.c k_.n A7) (hargs:=by (simp only [ma_,mb_,mc_,F] <;> rfl)) (h:=?_);rintro e W ⟨v3,rfl,ho,hy,hb,hk⟩;refine ⟨_,rfl,?_⟩;clear S F;obtain ⟨Aw,cw,rfl,S⟩:=k_.back1 (atI .i64) ho hy hb hk (by decide);clear k_ ho hy hb hk;have F:=S.fc) | ((with_reducible refine gd 58 rfl (L ?_));refine mka 58 (atI .i64) S Try.underlying35 info3 ?_;clear S F;intro A9 c9_ W S;rw [← Ny9.out] at S ⊢;have F:=S.fc))
         go_loopg [61] k2 (fun kq v61 w'=>∃ (u:Int) (bits:List Int),v61 = .int .i64 u∧impl_numbersAfter.l2 kq us gl l1 a0_0 a0_1 l0_2 out (l1.length:Int) kk row_ (y8.length:Int) nn cs2 bits (us.length:Int) u = some r∧kq ≤ k2∧St w w (fun _=>False) [bor (atU (d:=Kd.slice 3 (Kd.int .i64))) Au cu us,bor at27 A0_2 c0_2 l0_2,bor (atI .i64) A1 c1 l1] w' [row (atI .i64) 3 A9 y9.length c9_ bits,box gn 25 [.int .i64 t1,.int .i64 t2,.slice An t3.length cn],row at27 27 An t3.length cn cs2,row (atI .i64) 3 A8 y8.length c8 row_,hol (Kd.slice 3 (Kd.int .i64)) 35 Ao y7.length co out kk (.slice A8 y8.length c8),row (atI .i64) 3 Ag gl.length cg gl,box gb 25 [.int .i64 a0_0,.int .i64 a0_1,.slice A0_2 l0_2.length c0_2]])
         case atStart=>exact ⟨0,y9,(by first | rfl | (simp;done) | (simp [*];done) | (rw [w6_ (by omega) (by omega)])),(by first | exact H | (simp only [F];exact H)),Nat.le_refl _,(S.pm [0,3,4,5,6,7,8])⟩
         case round =>
          clear H S F
          obtain ⟨u,bits,rfl,HA,HK3,S⟩:=hrel
          have F:=S.fc
          cases gk with
          | zero=>exact absurd HA (by simp [impl_numbersAfter.l2])
          | succ k3 =>
           have H:=HA;clear HA;simp only [impl_numbersAfter.l2] at H
           replace H:=sp_ H;rcases H with ⟨c19,H⟩ | ⟨c19,H⟩
           · skip
             replace H:=np_ H;obtain ⟨c20,H⟩:=H
             replace H:=np_ H;obtain ⟨c21,H⟩:=H
             replace H:=np_ H;obtain ⟨c22,H⟩:=H
             have m0_:0 < (rd_L3 us u).length:=by omega
             replace H:=np_ H;obtain ⟨c23,H⟩:=H
             replace H:=np_ H;obtain ⟨c24,H⟩:=H
             simp only [F] at c24
             replace H:=np_ H;obtain ⟨c25,H⟩:=H
             simp only [F] at c25
             obtain ⟨A10,c10_,S⟩:=S.inn us (atZ .i64) u (rd_L3 us u)
             clear F;have F:=S.fc
             go_wp2
             refine rq S [(0,0),(0,1),(0,2),(0,4),(0,5),(0,6),(1,3),(1,7),(0,8),(1,9),(0,10),(0,11),(1,12),(0,13),(3,14)] [14] (h:=?_);clear S F;intro W S;have S0:=S;have F:=S.fc
             repeat (first | (refine q0 (h:=?_)) | (refine q1 S0 (h:=?_)) | (refine q0n (h:=?_)) | (refine q1n S0 (h:=?_)))
             refine lk3 (by rfl) (by exact (Eq.refl true)) ?_;(first | refine sb (.int _ _) S sz3 ?_ | refine ro (.int _ _) S sz3 ?_ (ho:=rfl) (hx:=rfl) (hy:=rfl));clear S F;intro W S;have F:=S.fc
             refine oz ?_
             try clear S0
             go_wp2
             go_roundg k3
             case measure=>omega
             case rel=>exact ⟨(wrap64 (u + 1)),_,(by first | rfl | (simp;done) | (simp [*];done) | (rw [w6_ (by omega) (by omega)])),(by first | exact H | (simp only [F];exact H)),(by first | omega | exact Nat.le_refl _),(S.dk [2,3,4])⟩
           · skip
             replace H:=Option.bind_eq_some_iff.mp H;obtain ⟨v,A11,H⟩:=H;(try dsimp only at H)
             go_wp2
             refine rq S [(0,0),(0,1),(0,2),(0,4),(0,5),(1,3),(2,6),(0,7),(3,8)] [8] (h:=?_);clear S F;intro W S;have S0:=S;have F:=S.fc
             repeat (first | (refine q0 (h:=?_)) | (refine q1 S0 (h:=?_)) | (refine q0n (h:=?_)) | (refine q1n S0 (h:=?_)))
             refine lk2 (by rfl) (by exact (Eq.refl true)) ?_;refine cl (some 85) Try.func110 (impl_numberOf.calls _ _ _ _ _ _ S.c S.n A11) (hargs:=by (simp only [ma_,mb_,mc_,F] <;> rfl)) (h:=?_);rintro e W ⟨rfl,hb⟩;refine ⟨_,rfl,?_⟩;replace S:=S.gw hb;clear F hb;have F:=S.fc
             clear S0;have S0:=S;refine ⟨S0,?_⟩
             repeat (first | (refine q0 (h:=?_)) | (refine q1 S0 (h:=?_)) | (refine q0n (h:=?_)) | (refine q1n S0 (h:=?_)))
             refine lk3 (by rfl) (by exact (Eq.refl true)) ?_;(first | refine sb (.int _ _) S sz3 ?_ | refine ro (.int _ _) S sz3 ?_ (ho:=rfl) (hx:=rfl) (hy:=rfl));clear S F;intro W S;have F:=S.fc
             refine oz ?_
             try clear S0
             go_wp2
             go_roundg k3
             case measure=>omega
             case rel=>exact ⟨(wrap64 (nn + 1)),_,(by first | rfl | (simp;done) | (simp [*];done) | (rw [w6_ (by omega) (by omega)])),(by first | exact H | (simp only [F];exact H)),(by first | omega | exact Nat.le_refl _),S.tl.tl.tl⟩
       · skip
         replace S:=S.joi Ao A8
         go_wp2
         go_roundg k2
         case measure=>omega
         case rel=>exact ⟨(wrap64 (kk + 1)),_,(by first | rfl | (simp;done) | (simp [*];done) | (rw [w6_ (by omega) (by omega)])),(by first | exact H | (simp only [F];exact H)),(by first | omega | exact Nat.le_refl _),S.tl⟩
   · skip
     obtain rfl:=Option.some.inj H
     go_wp2
     go_ret
     exact ⟨_,(by first | rfl | (simp [e0_,e1_] <;> rfl) | (simp [*,e0_,e1_] <;> rfl)),(by have hl:=F;exact (S.sr Ao (atU (d:=Kd.slice 3 (Kd.int .i64)))).r),S.below⟩

/-! ### laws_eqCell: function 152 -/
def laws_eqCell.f (a0_0:Int) (a0_1:Int) (a1_0:Int) (a1_1:Int):Option (Bool):=if a0_0 = a1_0 then (if a0_1 = a1_1 then (some true) else (some false)) else (some false)
theorem laws_eqCell.calls (a0_0:Int) (a0_1:Int) (a1_0:Int) (a1_1:Int) (r:Bool) (w:World) (h:laws_eqCell.f a0_0 a0_1 a1_0 a1_1 = some r) :
    Calls Try.prog 152 #[.agg #[.int .i64 a0_0,.int .i64 a0_1],.agg #[.int .i64 a1_0,.int .i64 a1_1]] w fun e w'=>e = .returned (.bool r)∧Below w.heap.size w w':=by
 have S:=St.init (w:=w) dn
 have F:=S.fc
 have H:=h;clear h;unfold laws_eqCell.f at H
 replace H:=sp_ H;rcases H with ⟨c3,H⟩ | ⟨c3,H⟩
 · skip
   replace c3:=ceq c3
   replace H:=sp_ H;rcases H with ⟨c4,H⟩ | ⟨c4,H⟩
   · skip
     replace c4:=ceq c4
     obtain rfl:=Option.some.inj H
     go_enter Try.func152,Try.ntmps152
     go_wp2_with (first | ((with_reducible refine gd 2 rfl (L ?_));refine bo 2 (.agg #[_,_]) S ?_;clear S F;intro gb497 W S;have F:=S.fc) | ((with_reducible refine gd 3 rfl (L ?_));refine bo 3 (.agg #[_,_]) S ?_;clear S F;intro gb498 W S;have F:=S.fc))
     go_ret
     exact ⟨(by first | rfl | (simp [e0_,e1_] <;> rfl) | (simp [*,e0_,e1_] <;> rfl)),S.below⟩
   · skip
     replace c4:=cne c4
     obtain rfl:=Option.some.inj H
     go_enter Try.func152,Try.ntmps152
     go_wp2_with (first | ((with_reducible refine gd 2 rfl (L ?_));refine bo 2 (.agg #[_,_]) S ?_;clear S F;intro gb497 W S;have F:=S.fc) | ((with_reducible refine gd 3 rfl (L ?_));refine bo 3 (.agg #[_,_]) S ?_;clear S F;intro gb498 W S;have F:=S.fc))
     go_ret
     exact ⟨(by first | rfl | (simp [e0_,e1_] <;> rfl) | (simp [*,e0_,e1_] <;> rfl)),S.below⟩
 · skip
   replace c3:=cne c3
   obtain rfl:=Option.some.inj H
   go_enter Try.func152,Try.ntmps152
   go_wp2_with (first | ((with_reducible refine gd 2 rfl (L ?_));refine bo 2 (.agg #[_,_]) S ?_;clear S F;intro gb497 W S;have F:=S.fc) | ((with_reducible refine gd 3 rfl (L ?_));refine bo 3 (.agg #[_,_]) S ?_;clear S F;intro gb498 W S;have F:=S.fc))
   go_ret
   exact ⟨(by first | rfl | (simp [e0_,e1_] <;> rfl) | (simp [*,e0_,e1_] <;> rfl)),S.below⟩

/-! ### laws_eqCellS: function 107 -/
def laws_eqCellS.l0:Nat→List (S27)→List (S27)→Int→Option (Bool)
  | 0,_,_,_=>none
  | k + 1,x0,x1,x5=>if x5 < (x0.length:Int) then (if 0 ≤ x5 then (if x5 < (x1.length:Int) then ((laws_eqCell.f ((rd_T27 x0 x5).f0) ((rd_T27 x0 x5).f1) ((rd_T27 x1 x5).f0) ((rd_T27 x1 x5).f1)).bind fun t501=>(if t501 = true then (laws_eqCellS.l0 k x0 x1 (wrap64 (x5 + 1))) else (some false))) else (none)) else (none)) else (some true)
def laws_eqCellS.f (k:Nat) (l0:List (S27)) (l1:List (S27)):Option (Bool):=if (l0.length:Int) = (l1.length:Int) then (laws_eqCellS.l0 k l0 l1 0) else (some false)
theorem laws_eqCellS.calls (k:Nat) (A0:Option Addr) (c0:Nat) (l0:List (S27)) (A1:Option Addr) (c1:Nat) (l1:List (S27)) (r:Bool) (w:World) (hr0:Kd.C k27 w A0 l0.length l0) (hc0:l0.length ≤ c0) (hr1:Kd.C k27 w A1 l1.length l1) (hc1:l1.length ≤ c1) (h:laws_eqCellS.f k l0 l1 = some r) :
    Calls Try.prog 107 #[.slice A0 l0.length c0,.slice A1 l1.length c1] w fun e w'=>e = .returned (.bool r)∧Below w.heap.size w w':=by
 have S:=St.init (w:=w) (dc k27_heap at27 hr0 hc0 (dc k27_heap at27 hr1 hc1 dn))
 clear hr0 hc0 hr1 hc1
 have F:=S.fc
 have H:=h;clear h;unfold laws_eqCellS.f at H
 replace H:=sp_ H;rcases H with ⟨c3,H⟩ | ⟨c3,H⟩
 · skip
   replace c3:=ceq c3
   go_enter Try.func107,Try.ntmps107
   go_wp2
   go_loopg [5] k (fun kq v5 w'=>∃ (x5_1:Int),v5 = .int .i64 x5_1∧laws_eqCellS.l0 kq l0 l1 x5_1 = some r∧kq ≤ k∧St w w (fun _=>False) [bor at27 A0 c0 l0,bor at27 A1 c1 l1] w'  [])
   case atStart=>exact ⟨0,(by first | rfl | (simp;done) | (simp [*];done) | (rw [w6_ (by omega) (by omega)])),H,Nat.le_refl _,S⟩
   case round =>
    clear H S F
    obtain ⟨x5_1,rfl,HA,HK1,S⟩:=hrel
    have F:=S.fc
    cases gk with
    | zero=>exact absurd HA (by simp [laws_eqCellS.l0])
    | succ k1 =>
     have H:=HA;clear HA;simp only [laws_eqCellS.l0,F] at H
     replace H:=sp_ H;rcases H with ⟨c4,H⟩ | ⟨c4,H⟩
     · skip
       replace H:=np_ H;obtain ⟨c5,H⟩:=H
       replace H:=np_ H;obtain ⟨c6,H⟩:=H
       replace H:=Option.bind_eq_some_iff.mp H;obtain ⟨t501,A7,H⟩:=H;(try dsimp only at H)
       replace H:=sp_ H;rcases H with ⟨c8,H⟩ | ⟨c8,H⟩
       · skip
         subst c8
         try go_wp2
         refine rq S [(0,0),(0,1),(0,2),(0,4),(0,5),(0,6),(1,3),(1,7),(2,8),(0,9)] [] (h:=?_);clear S F;intro W S;have S0:=S;have F:=S.fc
         repeat (first | (refine q0 (h:=?_)) | (refine q1 S0 (h:=?_)) | (refine q0n (h:=?_)) | (refine q1n S0 (h:=?_)))
         refine lk2 (by rfl) (by exact (Eq.refl true)) ?_;refine cl (some 25) Try.func152 (laws_eqCell.calls _ _ _ _ _ _ A7) (hargs:=by (simp only [ma_,mb_,mc_,F] <;> rfl)) (h:=?_);rintro e W ⟨rfl,hb⟩;refine ⟨_,rfl,?_⟩;replace S:=S.go hb;clear F hb;have F:=S.fc
         clear S0;have S0:=S;refine ⟨S0,?_⟩
         repeat (first | (refine q0 (h:=?_)) | (refine q1 S0 (h:=?_)) | (refine q0n (h:=?_)) | (refine q1n S0 (h:=?_)))
         refine oz ?_
         try clear S0
         try go_wp2
         go_roundg k1
         case measure=>omega
         case rel=>exact ⟨(wrap64 (x5_1 + 1)),(by first | rfl | (simp;done) | (simp [*];done) | (rw [w6_ (by omega) (by omega)])),H,(by first | omega | exact Nat.le_refl _),S⟩
       · skip
         replace c8:=cbf c8;subst c8
         obtain rfl:=Option.some.inj H
         try go_wp2
         refine rq S [(0,0),(0,1),(0,2),(0,4),(0,5),(0,6),(1,3),(1,7),(2,8),(0,9)] [] (h:=?_);clear S F;intro W S;have S0:=S;have F:=S.fc
         repeat (first | (refine q0 (h:=?_)) | (refine q1 S0 (h:=?_)) | (refine q0n (h:=?_)) | (refine q1n S0 (h:=?_)))
         refine lk2 (by rfl) (by exact (Eq.refl true)) ?_;refine cl (some 25) Try.func152 (laws_eqCell.calls _ _ _ _ _ _ A7) (hargs:=by (simp only [ma_,mb_,mc_,F] <;> rfl)) (h:=?_);rintro e W ⟨rfl,hb⟩;refine ⟨_,rfl,?_⟩;replace S:=S.go hb;clear F hb;have F:=S.fc
         clear S0;have S0:=S;refine ⟨S0,?_⟩
         repeat (first | (refine q0 (h:=?_)) | (refine q1 S0 (h:=?_)) | (refine q0n (h:=?_)) | (refine q1n S0 (h:=?_)))
         refine oz ?_
         try clear S0
         try go_wp2
         go_ret
         exact ⟨(by first | rfl | (simp [e0_,e1_] <;> rfl) | (simp [*,e0_,e1_] <;> rfl)),S.below⟩
     · skip
       obtain rfl:=Option.some.inj H
       go_wp2
       go_ret
       exact ⟨(by first | rfl | (simp [e0_,e1_] <;> rfl) | (simp [*,e0_,e1_] <;> rfl)),S.below⟩
 · skip
   replace c3:=cne c3
   obtain rfl:=Option.some.inj H
   go_enter Try.func107,Try.ntmps107
   go_wp2
   go_ret
   exact ⟨(by first | rfl | (simp [e0_,e1_] <;> rfl) | (simp [*,e0_,e1_] <;> rfl)),S.below⟩

/-! ### laws_eqBoard: function 41 -/
def laws_eqBoard.f (k:Nat) (a0_0:Int) (a0_1:Int) (l0_2:List (S27)) (a1_0:Int) (a1_1:Int) (l1_2:List (S27)):Option (Bool):=if a0_0 = a1_0 then (if a0_1 = a1_1 then ((laws_eqCellS.f k l0_2 l1_2).bind fun t504=>(if t504 = true then (some true) else (some false))) else (some false)) else (some false)
theorem laws_eqBoard.calls (k:Nat) (a0_0:Int) (a0_1:Int) (A0_2:Option Addr) (c0_2:Nat) (l0_2:List (S27)) (a1_0:Int) (a1_1:Int) (A1_2:Option Addr) (c1_2:Nat) (l1_2:List (S27)) (r:Bool) (w:World) (hr0_2:Kd.C k27 w A0_2 l0_2.length l0_2) (hc0_2:l0_2.length ≤ c0_2) (hr1_2:Kd.C k27 w A1_2 l1_2.length l1_2) (hc1_2:l1_2.length ≤ c1_2) (h:laws_eqBoard.f k a0_0 a0_1 l0_2 a1_0 a1_1 l1_2 = some r) :
    Calls Try.prog 41 #[.agg #[.int .i64 a0_0,.int .i64 a0_1,.slice A0_2 l0_2.length c0_2],.agg #[.int .i64 a1_0,.int .i64 a1_1,.slice A1_2 l1_2.length c1_2]] w fun e w'=>e = .returned (.bool r)∧Below w.heap.size w w':=by
 have S:=St.init (w:=w) (dc k27_heap at27 hr0_2 hc0_2 (dc k27_heap at27 hr1_2 hc1_2 dn))
 clear hr0_2 hc0_2 hr1_2 hc1_2
 have F:=S.fc
 have H:=h;clear h;unfold laws_eqBoard.f at H
 replace H:=sp_ H;rcases H with ⟨c3,H⟩ | ⟨c3,H⟩
 · skip
   replace c3:=ceq c3
   replace H:=sp_ H;rcases H with ⟨c4,H⟩ | ⟨c4,H⟩
   · skip
     replace c4:=ceq c4
     replace H:=Option.bind_eq_some_iff.mp H;obtain ⟨t504,A5,H⟩:=H;(try dsimp only at H)
     replace H:=sp_ H;rcases H with ⟨c6,H⟩ | ⟨c6,H⟩
     · skip
       subst c6
       obtain rfl:=Option.some.inj H
       go_enter Try.func41,Try.ntmps41
       go_wp2_with (first | ((with_reducible refine gd 2 rfl (L ?_));refine bo 2 (.agg #[_,_,_]) S ?_;clear S F;intro gb502 W S;have F:=S.fc) | ((with_reducible refine gd 3 rfl (L ?_));refine bo 3 (.agg #[_,_,_]) S ?_;clear S F;intro gb503 W S;have F:=S.fc) | ((with_reducible refine gate_callee (f:=107) rfl (L ?_));refine cl (some 19) Try.func107 (laws_eqCellS.calls _ _ _ _ _ _ _ _ _ S.c S.n S.c S.n A5) (hargs:=by (simp only [ma_,mb_,mc_,F] <;> rfl)) (h:=?_);rintro e W ⟨rfl,hb⟩;refine ⟨_,rfl,?_⟩;replace S:=S.go hb;clear F hb;have F:=S.fc))
       go_ret
       exact ⟨(by first | rfl | (simp [e0_,e1_] <;> rfl) | (simp [*,e0_,e1_] <;> rfl)),S.below⟩
     · skip
       replace c6:=cbf c6;subst c6
       obtain rfl:=Option.some.inj H
       go_enter Try.func41,Try.ntmps41
       go_wp2_with (first | ((with_reducible refine gd 2 rfl (L ?_));refine bo 2 (.agg #[_,_,_]) S ?_;clear S F;intro gb502 W S;have F:=S.fc) | ((with_reducible refine gd 3 rfl (L ?_));refine bo 3 (.agg #[_,_,_]) S ?_;clear S F;intro gb503 W S;have F:=S.fc) | ((with_reducible refine gate_callee (f:=107) rfl (L ?_));refine cl (some 19) Try.func107 (laws_eqCellS.calls _ _ _ _ _ _ _ _ _ S.c S.n S.c S.n A5) (hargs:=by (simp only [ma_,mb_,mc_,F] <;> rfl)) (h:=?_);rintro e W ⟨rfl,hb⟩;refine ⟨_,rfl,?_⟩;replace S:=S.go hb;clear F hb;have F:=S.fc))
       go_ret
       exact ⟨(by first | rfl | (simp [e0_,e1_] <;> rfl) | (simp [*,e0_,e1_] <;> rfl)),S.below⟩
   · skip
     replace c4:=cne c4
     obtain rfl:=Option.some.inj H
     go_enter Try.func41,Try.ntmps41
     go_wp2_with (first | ((with_reducible refine gd 2 rfl (L ?_));refine bo 2 (.agg #[_,_,_]) S ?_;clear S F;intro gb502 W S;have F:=S.fc) | ((with_reducible refine gd 3 rfl (L ?_));refine bo 3 (.agg #[_,_,_]) S ?_;clear S F;intro gb503 W S;have F:=S.fc))
     go_ret
     exact ⟨(by first | rfl | (simp [e0_,e1_] <;> rfl) | (simp [*,e0_,e1_] <;> rfl)),S.below⟩
 · skip
   replace c3:=cne c3
   obtain rfl:=Option.some.inj H
   go_enter Try.func41,Try.ntmps41
   go_wp2_with (first | ((with_reducible refine gd 2 rfl (L ?_));refine bo 2 (.agg #[_,_,_]) S ?_;clear S F;intro gb502 W S;have F:=S.fc) | ((with_reducible refine gd 3 rfl (L ?_));refine bo 3 (.agg #[_,_,_]) S ?_;clear S F;intro gb503 W S;have F:=S.fc))
   go_ret
   exact ⟨(by first | rfl | (simp [e0_,e1_] <;> rfl) | (simp [*,e0_,e1_] <;> rfl)),S.below⟩
end Go.Proofs.Ytimeepcpgjnajaa.F
