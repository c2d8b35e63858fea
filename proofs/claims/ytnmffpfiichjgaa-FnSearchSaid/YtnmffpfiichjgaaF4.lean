-- Printed by a program; checked here.
import Derived.Test.YtnmffpfiichjgaaF0
import Derived.Test.YtnmffpfiichjgaaF1
import Derived.Test.YtnmffpfiichjgaaF2
import Derived.Test.YtnmffpfiichjgaaF3
namespace Go.Proofs.Ytnmffpfiichjgaa.F
open Go.RowKit Go.Proofs.YtnmffpfiichjgaaV.PrintWords Go.Proofs.YtnmffpfiichjgaaV.PrintLast Go.Proofs.YtnmffpfiichjgaaV.PrintMore Go.Proofs.YtnmffpfiichjgaaV.Sl Go.Proofs.YtnmffpfiichjgaaV.Rf
attribute [local go_sem] max2_int min2_int max_two min_two max_three min_three max_four min_four ia_opt it_opt
attribute [local go_sem] Try.underlying4 Try.underlying23 Try.underlying24 Try.underlying25 Try.underlying27 Try.underlying30 Try.underlying42 Try.underlying68 Try.underlying80 Try.underlying111
set_option maxHeartbeats 8000000
set_option maxRecDepth 100000
set_option linter.unusedVariables false
set_option linter.unusedSimpArgs false

attribute [local go_sem high] eqA42
/-! ### impl_GoesTo: function 204 -/
mutual
def impl_GoesTo.j0:Nat→Int→Bool→Int→Int→Option (Int × Bool)
 | 0,_,_,_,_=>none
 | k + 1,x1,x21,x447000,x447001=>if x21 = true then (some (0,false)) else (if x447000 = 1 then (some ((-1),true)) else (if x447000 = 2 then (some (1,true)) else (if x447000 = 3 then (impl_GoesTo.j1 k x1 x447000 (x447000 == 3) x447000 x447001) else (impl_GoesTo.j1 k x1 x447000 (x447000 == 6) x447000 x447001))))
def impl_GoesTo.j1:Nat→Int→Int→Bool→Int→Int→Option (Int × Bool)
 | 0,_,_,_,_,_=>none
 | k + 1,x1,x23,x28,x447000,x447001=>if x28 = true then (some (wrap64 ((wrap64 (2 * x447001)) - 1),true)) else (if x23 = 4 then (some (wrap64 (-x1),true)) else (some (0,true)))
end
def impl_GoesTo.f (k:Nat) (a0_0:Int) (a0_1:Int) (a1:Int):Option (Int × Bool):=(impl_IsCell.f a0_0 a0_1).bind fun t447=>(if t447 = true then (if a1 < (-1) then (impl_GoesTo.j0 k a1 true a0_0 a0_1) else (if a1 > 1 then (impl_GoesTo.j0 k a1 true a0_0 a0_1) else (impl_GoesTo.j0 k a1 (a0_0 == 5) a0_0 a0_1))) else (impl_GoesTo.j0 k a1 true a0_0 a0_1))
theorem impl_GoesTo.calls (k:Nat) (a0_0:Int) (a0_1:Int) (a1:Int) (r1:Int) (r2:Bool) (w:World) (h:impl_GoesTo.f k a0_0 a0_1 a1 = some (r1,r2)) :
  Calls Try.prog 204 #[.agg #[.int .i64 a0_0,.int .i64 a0_1],.int .i64 a1] w fun e w'=>e = .returned (.tuple #[.int .i64 r1,.bool r2])∧Below w.heap.size w w':=by
 have HB:=Aside0.mk (Below.refl w.heap.size w);have H:((impl_IsCell.f a0_0 a0_1).bind fun t447=>(if t447 = true then (if a1 < (-1) then (impl_GoesTo.j0 k a1 true a0_0 a0_1) else (if a1 > 1 then (impl_GoesTo.j0 k a1 true a0_0 a0_1) else (impl_GoesTo.j0 k a1 (a0_0 == 5) a0_0 a0_1))) else (impl_GoesTo.j0 k a1 true a0_0 a0_1))) = some (r1,r2):=h;clear h;have HC3:=Aside0.mk H;clear H;go_enter Try.func204,Try.ntmps204;go_upto_region 1 with (first | ((with_reducible refine gate_dst (N:=2) rfl ?_);refine box_event ?hg (N:=2) ?hd (cs:=#[.int .i64 a0_0,.int .i64 a0_1]) (t:=42) ?hr ?_;(case hd=>rfl);(case hg=>rfl);(case hr=>first | (go_simp;done) | (go_simp;rfl));intro gb446 hg w4 hbox hb;refine ev4 (bs HB hb) (hbox) (gle hg HB) (gle hg HB) ?_;clear HB;intro HB BK446 GW446 GE446;clear hb hbox hg))
 (try simp only [Act.put,za_,zb_,zc_])
 go_cut [21] (fun v21 wc=>∃ (kq:Nat) (x21_2:Bool),v21 = .bool x21_2∧Aside0 (impl_GoesTo.j0 kq a1 x21_2 a0_0 a0_1 = some (r1,r2))∧Aside0 (kq ≤ k)∧Aside0 (wc.heap[gb446]? = some (.cells #[.int .i64 a0_0,.int .i64 a0_1] 42 (0,0)))∧Aside0 (Below w.heap.size w wc))
 case first =>
  have H:=HC3.out;clear HC3;replace H:=Option.bind_eq_some_iff.mp H;obtain ⟨t447,A50,H⟩:=H;(try dsimp only at H)
  have A5:=Aside0.mk A50;clear A50;by_cases c6:t447 = true
  ·subst c6;have H1:(if a1 < (-1) then (impl_GoesTo.j0 k a1 true a0_0 a0_1) else (if a1 > 1 then (impl_GoesTo.j0 k a1 true a0_0 a0_1) else (impl_GoesTo.j0 k a1 (a0_0 == 5) a0_0 a0_1))) = some (r1,r2):=by rw [if_pos rfl] at H;exact H
   clear H;have H:=H1;clear H1;by_cases c7:a1 < (-1)
   ·rw [if_pos c7] at H;have c7b0:decide (a1 < (-1)) = true:=decide_eq_true c7;clear c7;(first | rw [c7b0] | (simp only [i64_w,i32_w];rw [c7b0]) | skip)
    have H':=Aside0.mk H;clear H;obtain ⟨hcz8_0,hcz8_1,hfz8_0,hfz8_1⟩:=bt2 BK446;go_wp2_with (first | ((with_reducible refine gate_callee (f:=126) rfl ?_);refine gL_ (some 7) Try.func126 #[.agg #[.int .i64 a0_0,.int .i64 a0_1]] (h:=?_);(with_reducible refine (impl_IsCell.calls a0_0 a0_1 true _ A5.out).mono ?_);rintro e w9 ⟨rfl,hb⟩;refine ⟨_,rfl,?_⟩;refine ev2 (kb BK446 hb) (bs HB hb) ?_;clear BK446 HB;intro BK446 HB;(try clear hb)))
    go_meet
    case rel=>exact ⟨_,(true),(by first | rfl | (simp;done) | (simp [*];done)),H',⟨by first | omega | exact Nat.le_refl _⟩,⟨km_ BK446⟩,⟨bm HB⟩⟩
   ·rw [if_neg c7] at H;have c7b0:decide (a1 < (-1)) = false:=decide_eq_false c7;clear c7;(first | rw [c7b0] | (simp only [i64_w,i32_w];rw [c7b0]) | skip)
    by_cases c10:a1 > 1
    ·rw [if_pos c10] at H;have c10b0:decide (1 < a1) = true:=decide_eq_true c10;clear c10;have H':=Aside0.mk H;clear H;obtain ⟨hcz11_0,hcz11_1,hfz11_0,hfz11_1⟩:=bt2 BK446;go_wp2_with (first | ((with_reducible refine gate_callee (f:=126) rfl ?_);refine gL_ (some 7) Try.func126 #[.agg #[.int .i64 a0_0,.int .i64 a0_1]] (h:=?_);(with_reducible refine (impl_IsCell.calls a0_0 a0_1 true _ A5.out).mono ?_);rintro e w12 ⟨rfl,hb⟩;refine ⟨_,rfl,?_⟩;refine ev2 (kb BK446 hb) (bs HB hb) ?_;clear BK446 HB;intro BK446 HB;(try clear hb)))
     go_meet
     case rel=>exact ⟨_,(true),(by first | rfl | (simp;done) | (simp [*];done)),H',⟨by first | omega | exact Nat.le_refl _⟩,⟨km_ BK446⟩,⟨bm HB⟩⟩
    ·rw [if_neg c10] at H;have c10b0:decide (1 < a1) = false:=decide_eq_false c10;clear c10;have H':=Aside0.mk H;clear H;obtain ⟨hcz13_0,hcz13_1,hfz13_0,hfz13_1⟩:=bt2 BK446;go_wp2_with (first | ((with_reducible refine gate_callee (f:=126) rfl ?_);refine gL_ (some 7) Try.func126 #[.agg #[.int .i64 a0_0,.int .i64 a0_1]] (h:=?_);(with_reducible refine (impl_IsCell.calls a0_0 a0_1 true _ A5.out).mono ?_);rintro e w14 ⟨rfl,hb⟩;refine ⟨_,rfl,?_⟩;refine ev2 (kb BK446 hb) (bs HB hb) ?_;clear BK446 HB;intro BK446 HB;(try clear hb);obtain ⟨hcz15_0,hcz15_1,hfz15_0,hfz15_1⟩:=bt2 BK446))
     go_meet
     case rel=>exact ⟨_,((a0_0 == 5)),(by first | rfl | (simp;done) | (simp [*];done)),H',⟨by first | omega | exact Nat.le_refl _⟩,⟨km_ BK446⟩,⟨bm HB⟩⟩
  ·replace c6:=Bool.eq_false_iff.mpr c6;subst c6;have H1:(impl_GoesTo.j0 k a1 true a0_0 a0_1) = some (r1,r2):=by rw [if_neg (show ¬ (false = true) by decide)] at H;exact H
   clear H;have H:=H1;clear H1;have H':=Aside0.mk H;clear H;obtain ⟨hcz16_0,hcz16_1,hfz16_0,hfz16_1⟩:=bt2 BK446;go_wp2_with (first | ((with_reducible refine gate_callee (f:=126) rfl ?_);refine gL_ (some 7) Try.func126 #[.agg #[.int .i64 a0_0,.int .i64 a0_1]] (h:=?_);(with_reducible refine (impl_IsCell.calls a0_0 a0_1 false _ A5.out).mono ?_);rintro e w17 ⟨rfl,hb⟩;refine ⟨_,rfl,?_⟩;refine ev2 (kb BK446 hb) (bs HB hb) ?_;clear BK446 HB;intro BK446 HB;(try clear hb)))
   go_meet
   case rel=>exact ⟨_,(true),(by first | rfl | (simp;done) | (simp [*];done)),H',⟨by first | omega | exact Nat.le_refl _⟩,⟨km_ BK446⟩,⟨bm HB⟩⟩
 case rest =>
  clear HC3;(try clear c2);obtain ⟨kq,x21_2,rfl,HA,HJ2,BK446,HB⟩:=hcut;cases kq with
  | zero=>exact absurd HA.out (by simp [impl_GoesTo.j0])
  | succ kj2 =>
   have H:=HA.out;clear HA;simp only [impl_GoesTo.j0] at H;by_cases c18:x21_2 = true
   ·subst c18;have H1:(some (0,false)) = some (r1,r2):=by rw [if_pos rfl] at H;exact H
    clear H;have H:=H1;clear H1;simp only [Option.some.injEq,Prod.mk.injEq] at H;obtain ⟨rfl,rfl⟩:=H;go_wp2;go_ret2
    exact ⟨by first | rfl | (simp [e0_,e1_] <;> rfl) | (simp [*,e0_,e1_] <;> rfl),bm HB⟩
   ·replace c18:=Bool.eq_false_iff.mpr c18;subst c18;have H1:(if a0_0 = 1 then (some ((-1),true)) else (if a0_0 = 2 then (some (1,true)) else (if a0_0 = 3 then (impl_GoesTo.j1 kj2 a1 a0_0 (a0_0 == 3) a0_0 a0_1) else (impl_GoesTo.j1 kj2 a1 a0_0 (a0_0 == 6) a0_0 a0_1)))) = some (r1,r2):=by rw [if_neg (show ¬ (false = true) by decide)] at H;exact H
    clear H;have H:=H1;clear H1;by_cases c19:a0_0 = 1
    ·rw [if_pos c19] at H;have c19b0:(a0_0 == 1) = true:=beq_iff_eq.mpr c19;have c19b1:(a0_0 != 1) = false:=bne_eq_false_iff_eq.mpr c19;clear c19;simp only [Option.some.injEq,Prod.mk.injEq] at H;obtain ⟨rfl,rfl⟩:=H;obtain ⟨hcz20_0,hcz20_1,hfz20_0,hfz20_1⟩:=bt2 BK446;go_wp2;go_ret2
     exact ⟨by first | rfl | (simp [e0_,e1_] <;> rfl) | (simp [*,e0_,e1_] <;> rfl),bm HB⟩
    ·rw [if_neg c19] at H;have c19b0:(a0_0 == 1) = false:=beq_eq_false_iff_ne.mpr c19;have c19b1:(a0_0 != 1) = true:=bne_iff_ne.mpr c19;by_cases c21:a0_0 = 2
     ·rw [if_pos c21] at H;have c21b0:(a0_0 == 2) = true:=beq_iff_eq.mpr c21;have c21b1:(a0_0 != 2) = false:=bne_eq_false_iff_eq.mpr c21;clear c21;simp only [Option.some.injEq,Prod.mk.injEq] at H;obtain ⟨rfl,rfl⟩:=H;obtain ⟨hcz22_0,hcz22_1,hfz22_0,hfz22_1⟩:=bt2 BK446;go_wp2;go_ret2
      exact ⟨by first | rfl | (simp [e0_,e1_] <;> rfl) | (simp [*,e0_,e1_] <;> rfl),bm HB⟩
     ·rw [if_neg c21] at H;have c21b0:(a0_0 == 2) = false:=beq_eq_false_iff_ne.mpr c21;have c21b1:(a0_0 != 2) = true:=bne_iff_ne.mpr c21;have HC23:=Aside0.mk H;clear H;obtain ⟨hcz24_0,hcz24_1,hfz24_0,hfz24_1⟩:=bt2 BK446;go_upto_if 28 with (fail)
      go_cut [28] (fun v28 wc=>∃ (kq:Nat) (x28_22:Bool),v28 = .bool x28_22∧Aside0 (impl_GoesTo.j1 kq a1 a0_0 x28_22 a0_0 a0_1 = some (r1,r2))∧Aside0 (kq ≤ kj2)∧Aside0 (wc.heap[gb446]? = some (.cells #[.int .i64 a0_0,.int .i64 a0_1] 42 (0,0)))∧Aside0 (Below w.heap.size w wc))
      case first =>
       have H:=HC23.out;clear HC23;by_cases c25:a0_0 = 3
       ·rw [if_pos c25] at H;have c25b0:(a0_0 == 3) = true:=beq_iff_eq.mpr c25;have c25b1:(a0_0 != 3) = false:=bne_eq_false_iff_eq.mpr c25;clear c25;(first | rw [c25b0] | (simp only [i64_w,i32_w];rw [c25b0]) | skip)
        have H':=Aside0.mk H;clear H;go_wp2;go_meet
        case rel=>exact ⟨_,((a0_0 == 3)),(by first | rfl | (simp;done) | (simp [*];done)),H',⟨by have:=HJ2.out;first | omega | exact Nat.le_refl _⟩,⟨km_ BK446⟩,⟨bm HB⟩⟩
       ·rw [if_neg c25] at H;have c25b0:(a0_0 == 3) = false:=beq_eq_false_iff_ne.mpr c25;have c25b1:(a0_0 != 3) = true:=bne_iff_ne.mpr c25;(first | rw [c25b0] | (simp only [i64_w,i32_w];rw [c25b0]) | skip)
        have H':=Aside0.mk H;clear H;go_wp2;go_meet
        case rel=>exact ⟨_,((a0_0 == 6)),(by first | rfl | (simp;done) | (simp [*];done)),H',⟨by have:=HJ2.out;first | omega | exact Nat.le_refl _⟩,⟨km_ BK446⟩,⟨bm HB⟩⟩
      case rest =>
       clear HC23;(try clear c1);(try clear c2);(try clear c18);(try clear c19);(try clear c19b0);(try clear c19b1);(try clear c20);(try clear c21);(try clear c21b0);(try clear c21b1);(try clear hcz24_0 hcz24_1 hfz24_0 hfz24_1);obtain ⟨kq,x28_22,rfl,HA,HJ22,BK446,HB⟩:=hcut;cases kq with
       | zero=>exact absurd HA.out (by simp [impl_GoesTo.j1])
       | succ kj22 =>
        have H:=HA.out;clear HA;simp only [impl_GoesTo.j1] at H;by_cases c26:x28_22 = true
        ·subst c26;have H1:(some (wrap64 ((wrap64 (2 * a0_1)) - 1),true)) = some (r1,r2):=by rw [if_pos rfl] at H;exact H
         clear H;have H:=H1;clear H1;simp only [Option.some.injEq,Prod.mk.injEq] at H;obtain ⟨rfl,rfl⟩:=H;obtain ⟨hcz27_0,hcz27_1,hfz27_0,hfz27_1⟩:=bt2 BK446;go_wp2;go_ret2
         exact ⟨by first | rfl | (simp [e0_,e1_] <;> rfl) | (simp [*,e0_,e1_] <;> rfl),bm HB⟩
        ·replace c26:=Bool.eq_false_iff.mpr c26;subst c26;have H1:(if a0_0 = 4 then (some (wrap64 (-a1),true)) else (some (0,true))) = some (r1,r2):=by rw [if_neg (show ¬ (false = true) by decide)] at H;exact H
         clear H;have H:=H1;clear H1;by_cases c28:a0_0 = 4
         ·rw [if_pos c28] at H;have c28b0:(a0_0 == 4) = true:=beq_iff_eq.mpr c28;have c28b1:(a0_0 != 4) = false:=bne_eq_false_iff_eq.mpr c28;clear c28;simp only [Option.some.injEq,Prod.mk.injEq] at H;obtain ⟨rfl,rfl⟩:=H;go_wp2;go_ret2
          exact ⟨by first | rfl | (simp [e0_,e1_] <;> rfl) | (simp [*,e0_,e1_] <;> rfl),bm HB⟩
         ·rw [if_neg c28] at H;have c28b0:(a0_0 == 4) = false:=beq_eq_false_iff_ne.mpr c28;have c28b1:(a0_0 != 4) = true:=bne_iff_ne.mpr c28;simp only [Option.some.injEq,Prod.mk.injEq] at H;obtain ⟨rfl,rfl⟩:=H;go_wp2;go_ret2
          exact ⟨by first | rfl | (simp [e0_,e1_] <;> rfl) | (simp [*,e0_,e1_] <;> rfl),bm HB⟩

/-! ### impl_turnGroup: function 205 -/
def impl_turnGroup.l0:Nat→List Int→Int→Int→Int→Int→Int→List (S42)→Option ((List (S42)))
  | 0,_,_,_,_,_,_,_=>none
  | k + 1,x1,x2,x9,x10,x449000,x449001,x449002=>if x10 < x9 then (if 0 ≤ x10 then (if x10 < (x449002.length:Int) then (if ((rd_T42 x449002 x10).f0) = 6 then (if x10 < (x1.length:Int) then (if 0 ≤ x2 then (if x2 < (x1.length:Int) then (if (rd x1 x10) = (rd x1 x2) then (impl_turnGroup.l0 k x1 x2 x9 (wrap64 (x10 + 1)) x449000 x449001 (x449002.set (x10:Int).toNat (⟨(rd_T42 x449002 x10).f0,wrap64 (1 - ((rd_T42 x449002 x10).f1))⟩:S42))) else (impl_turnGroup.l0 k x1 x2 x9 (wrap64 (x10 + 1)) x449000 x449001 x449002)) else (none)) else (none)) else (none)) else (impl_turnGroup.l0 k x1 x2 x9 (wrap64 (x10 + 1)) x449000 x449001 x449002)) else (none)) else (none)) else (some x449002)
def impl_turnGroup.f (k:Nat) (a0_0:Int) (a0_1:Int) (l0_2:List (S42)) (l1:List Int) (a2:Int):Option ((List (S42))):=impl_turnGroup.l0 k l1 a2 (l0_2.length:Int) 0 a0_0 a0_1 l0_2
theorem impl_turnGroup.calls (k:Nat) (a0_0:Int) (a0_1:Int) (P0_2_:Nat→Prop) (u9000_:Value) (l0_2:List (S42)) (A1:Option Addr) (c1:Nat) (l1:List Int) (a2:Int) (r:List (S42)) (w0 w:World) (hB:Below w0.heap.size w0 w) (ho0_2:Kd.R k42 42 w w0.heap.size P0_2_ u9000_ l0_2) (hr1:∀ W_,Kept w W_ (fun k_=>P0_2_ k_)→Kd.C (Kd.int .i64) W_ A1 l1.length l1) (hc1:l1.length ≤ c1) (h:impl_turnGroup.f k a0_0 a0_1 l0_2 l1 a2 = some r) :
    Calls Try.prog 205 #[.agg #[.int .i64 a0_0,.int .i64 a0_1,u9000_],.slice A1 l1.length c1,.int .i64 a2] w fun e w'=>e = .returned (.tuple #[])∧Kd.R k42 42 w' w0.heap.size (fun k_=>(P0_2_ k_∨w.heap.size ≤ k_)) u9000_ r∧Below w0.heap.size w0 w'∧Kept w w' (fun k_=>P0_2_ k_):=by
 obtain ⟨Al0_2,cl0_2,rfl⟩:=Kd.R_slice ho0_2
 have S:=St.own1 at42 hB ho0_2 (dk (atI .i64) hr1 hc1 dn)
 clear hB ho0_2 hr1 hc1
 have F:=S.fc
 have H:=h;clear h;unfold impl_turnGroup.f at H
 go_enter Try.func205,Try.ntmps205
 go_wp2_with ((with_reducible refine gd 3 rfl (L ?_));refine bo 3 (.agg #[_,_,_]) S ?_;clear S F;intro gb448 W S;have F:=S.fc)
 go_loopg [10] k (fun kq v10 w'=>∃ (x10_1:Int) (x449002_1:List (S42)),v10 = .int .i64 x10_1∧impl_turnGroup.l0 kq l1 a2 (l0_2.length:Int) x10_1 a0_0 a0_1 x449002_1 = some r∧kq ≤ k∧St w0 w P0_2_ [bor (atI .i64) A1 c1 l1] w'  [box gb448 30 [.int .i64 a0_0,.int .i64 a0_1,.slice Al0_2 l0_2.length cl0_2],row at42 42 Al0_2 l0_2.length cl0_2 x449002_1])
 case atStart=>exact ⟨0,l0_2,(by first | rfl | (simp;done) | (simp [*];done) | (rw [w6_ (by omega) (by omega)])),(by first | exact H | (simp only [F];exact H)),Nat.le_refl _,S⟩
 case round =>
  clear H S F
  obtain ⟨x10_1,x449002_1,rfl,HA,HK1,S⟩:=hrel
  have F:=S.fc
  cases gk with
  | zero=>exact absurd HA (by simp [impl_turnGroup.l0])
  | succ k1 =>
   have H:=HA;clear HA;simp only [impl_turnGroup.l0,F] at H
   replace H:=sp_ H;rcases H with ⟨c7,H⟩ | ⟨c7,H⟩
   · skip
     replace H:=np_ H;obtain ⟨c8,H⟩:=H;(try simp only [F] at c8)
     replace H:=np_ H;obtain ⟨c9,H⟩:=H;(try simp only [F] at c9)
     replace H:=sp_ H;rcases H with ⟨c10,H⟩ | ⟨c10,H⟩
     · skip
       replace c10:=ceq c10
       replace H:=np_ H;obtain ⟨c11,H⟩:=H;(try simp only [F] at c11)
       replace H:=np_ H;obtain ⟨c12,H⟩:=H;(try simp only [F] at c12)
       replace H:=np_ H;obtain ⟨c13,H⟩:=H;(try simp only [F] at c13)
       replace H:=sp_ H;rcases H with ⟨c14,H⟩ | ⟨c14,H⟩
       · skip
         replace c14:=ceq c14
         (first | (with_reducible replace H:=ob_ H;obtain ⟨y453,hy453,H⟩:=H;(try dsimp only at H)) | (obtain ⟨y453,hy453⟩:∃ y_:List (S42),y_ = (x449002_1.set (x10_1:Int).toNat (⟨(rd_T42 x449002_1 x10_1).f0,wrap64 (1 - ((rd_T42 x449002_1 x10_1).f1))⟩:S42)):=⟨_,rfl⟩;(try rw [← hy453] at H);(try simp only [Option.bind_some] at H)));have Ny453:=Aside0.mk hy453;clear hy453
         go_wp2
         refine rq S [(0,0),(0,2),(1,1),(0,3),(0,4),(1,5),(0,6),(0,7),(0,8),(0,9),(0,10),(0,12),(0,13),(0,14),(1,11),(1,15),(0,16),(0,17)] [] (h:=?_);clear S F;intro W S;have S0:=S;have F:=S.fc
         repeat (first | (refine q0 (h:=?_)) | (refine q1 S0 (h:=?_)))
         refine oz ?_
         try clear S0
         go_wp2
         refine rq S [(0,0),(0,2),(0,3),(0,5),(1,1),(1,4),(0,6),(0,7),(1,8),(0,9),(0,10),(0,11),(3,12)] [12] (h:=?_);clear S F;intro W S;have S0:=S;have F:=S.fc
         repeat (first | (refine q0 (h:=?_)) | (refine q1 S0 (h:=?_)))
         refine lk3 (by rfl) (by exact (Eq.refl true)) ?_;(first | refine sb (.int _ _) S sz3 ?_ | refine ro (.int _ _) S sz3 ?_ (ho:=rfl) (hx:=rfl) (hy:=rfl));clear S F;intro W S;(try simp only [gd42] at S);(try rw [← Ny453.out] at S);have F:=S.fc
         refine oz ?_
         try clear S0
         go_wp2
         go_roundg k1
         case measure=>omega
         case rel=>exact ⟨(wrap64 (x10_1 + 1)),y453,(by first | rfl | (simp;done) | (simp [*];done) | (rw [w6_ (by omega) (by omega)])),(by first | exact H | (simp only [F];exact H)),(by first | omega | exact Nat.le_refl _),S⟩
       · skip
         replace c14:=cne c14
         go_wp2
         refine rq S [(0,0),(0,2),(1,1),(0,3),(0,4),(1,5),(0,6),(0,7),(0,8),(0,9),(0,10),(0,12),(0,13),(0,14),(1,11),(1,15),(0,16),(0,17)] [] (h:=?_);clear S F;intro W S;have S0:=S;have F:=S.fc
         repeat (first | (refine q0 (h:=?_)) | (refine q1 S0 (h:=?_)))
         refine oz ?_
         try clear S0
         go_wp2
         go_roundg k1
         case measure=>omega
         case rel=>exact ⟨(wrap64 (x10_1 + 1)),x449002_1,(by first | rfl | (simp;done) | (simp [*];done) | (rw [w6_ (by omega) (by omega)])),(by first | exact H | (simp only [F];exact H)),(by first | omega | exact Nat.le_refl _),S⟩
     · skip
       replace c10:=cne c10
       go_wp2
       refine rq S [(0,0),(0,2),(1,1),(0,3),(0,4),(1,5),(0,6),(0,7),(0,8),(0,9),(0,10),(0,11),(0,12),(0,13),(0,14),(0,15),(0,16),(0,17)] [] (h:=?_);clear S F;intro W S;have S0:=S;have F:=S.fc
       repeat (first | (refine q0 (h:=?_)) | (refine q1 S0 (h:=?_)) | (refine q0n (h:=?_)) | (refine q1n S0 (h:=?_)))
       refine oz ?_
       try clear S0
       go_wp2
       go_roundg k1
       case measure=>omega
       case rel=>exact ⟨(wrap64 (x10_1 + 1)),x449002_1,(by first | rfl | (simp;done) | (simp [*];done) | (rw [w6_ (by omega) (by omega)])),(by first | exact H | (simp only [F];exact H)),(by first | omega | exact Nat.le_refl _),S⟩
   · skip
     obtain rfl:=Option.some.inj H
     go_wp2
     first | go_end0 | ((try simp only [Exit.inBlock,Exit.then]);refine bodyPost_ret (results_none rfl _ _ _) rfl ?_)
     exact ⟨(by first | rfl | (simp [e0_,e1_] <;> rfl) | (simp [*,e0_,e1_] <;> rfl)),(by first | exact S.rp | exact Kd.R_nil _ _ _ _ _),S.below,S.kept⟩

/-! ### impl_drop: function 162 -/
mutual
def impl_drop.l0:Nat→List Int→Int→List Int→Int→Int→Int→Int→List (S42)→Option (Int × Int × Int × List Int × (List (S42)))
  | 0,_,_,_,_,_,_,_,_=>none
  | k + 1,x1,x2,x8,x9,x10,x455000,x455001,x455002=>if x10 < x455000 then (if x8.length < 17592186044416 then ((some (x8 ++ [wrap64 ((wrap64 (x10 * x455001)) + x2)]:List Int)).bind fun y459=>(if 0 ≤ (wrap64 ((wrap64 (x10 * x455001)) + x2)) then (if (wrap64 ((wrap64 (x10 * x455001)) + x2)) < (x455002.length:Int) then ((impl_GoesTo.f k ((rd_T42 x455002 (wrap64 ((wrap64 (x10 * x455001)) + x2))).f0) ((rd_T42 x455002 (wrap64 ((wrap64 (x10 * x455001)) + x2))).f1) x9).bind fun bt464=>(if bt464.2 = true then (if ((rd_T42 x455002 (wrap64 ((wrap64 (x10 * x455001)) + x2))).f0) = 3 then (impl_drop.j1 k x1 x2 y459 x10 (wrap64 ((wrap64 (x10 * x455001)) + x2)) bt464.1 x455000 x455001 (x455002.set ((wrap64 ((wrap64 (x10 * x455001)) + x2)):Int).toNat (⟨(rd_T42 x455002 (wrap64 ((wrap64 (x10 * x455001)) + x2))).f0,wrap64 (1 - ((rd_T42 x455002 (wrap64 ((wrap64 (x10 * x455001)) + x2))).f1))⟩:S42)) ((rd_T42 x455002 (wrap64 ((wrap64 (x10 * x455001)) + x2))).f0) ((rd_T42 x455002 (wrap64 ((wrap64 (x10 * x455001)) + x2))).f1)) else (impl_drop.j1 k x1 x2 y459 x10 (wrap64 ((wrap64 (x10 * x455001)) + x2)) bt464.1 x455000 x455001 x455002 ((rd_T42 x455002 (wrap64 ((wrap64 (x10 * x455001)) + x2))).f0) ((rd_T42 x455002 (wrap64 ((wrap64 (x10 * x455001)) + x2))).f1))) else (some (2,x10,x2,y459,x455002)))) else (none)) else (none))) else (none)) else (some (1,x455000,x2,x8,x455002))
def impl_drop.j1:Nat→List Int→Int→List Int→Int→Int→Int→Int→Int→List (S42)→Int→Int→Option (Int × Int × Int × List Int × (List (S42)))
  | 0,_,_,_,_,_,_,_,_,_,_,_=>none
  | k + 1,x1,x2,x8,x10,x11,x13,x455000,x455001,x455002,x464000,x464001=>if x464000 = 6 then ((impl_turnGroup.f k x455000 x455001 x455002 x1 x11).bind fun t467=>(if (wrap64 (x2 + x13)) < 0 then (some (3,x10,wrap64 (x2 + x13),x8,t467)) else (if (wrap64 (x2 + x13)) ≥ x455001 then (some (3,x10,wrap64 (x2 + x13),x8,t467)) else (impl_drop.l0 k x1 (wrap64 (x2 + x13)) x8 (wrap64 (-x13)) (wrap64 (x10 + 1)) x455000 x455001 t467)))) else (if (wrap64 (x2 + x13)) < 0 then (some (3,x10,wrap64 (x2 + x13),x8,x455002)) else (if (wrap64 (x2 + x13)) ≥ x455001 then (some (3,x10,wrap64 (x2 + x13),x8,x455002)) else (impl_drop.l0 k x1 (wrap64 (x2 + x13)) x8 (wrap64 (-x13)) (wrap64 (x10 + 1)) x455000 x455001 x455002)))
end
def impl_drop.f (k:Nat) (a0_0:Int) (a0_1:Int) (l0_2:List (S42)) (l1:List Int) (a2:Int):Option (Int × Int × Int × List Int × (List (S42))):=impl_drop.l0 k l1 a2 (([]:List Int)) 0 0 a0_0 a0_1 l0_2
theorem impl_drop.calls (k:Nat) (a0_0:Int) (a0_1:Int) (P0_2_:Nat→Prop) (u9000_:Value) (l0_2:List (S42)) (A1:Option Addr) (c1:Nat) (l1:List Int) (a2:Int) (r1:Int) (r2:Int) (r3:Int) (r4:List Int) (r5:List (S42)) (w0 w:World) (hB:Below w0.heap.size w0 w) (ho0_2:Kd.R k42 42 w w0.heap.size P0_2_ u9000_ l0_2) (hr1:∀ W_,Kept w W_ (fun k_=>P0_2_ k_)→Kd.C (Kd.int .i64) W_ A1 l1.length l1) (hc1:l1.length ≤ c1) (h:impl_drop.f k a0_0 a0_1 l0_2 l1 a2 = some (r1,r2,r3,r4,r5)) :
    Calls Try.prog 162 #[.agg #[.int .i64 a0_0,.int .i64 a0_1,u9000_],.slice A1 l1.length c1,.int .i64 a2] w fun e w'=>∃ v3_:Value,e = .returned (.tuple #[.agg #[.int .i64 r1,.int .i64 r2,.int .i64 r3],v3_])∧Kd.R (Kd.int .i64) 3 w' w0.heap.size (fun k_=>(P0_2_ k_∨w.heap.size ≤ k_)) v3_ r4∧Kd.R k42 42 w' w0.heap.size (fun k_=>(P0_2_ k_∨w.heap.size ≤ k_)) u9000_ r5∧Below w0.heap.size w0 w'∧Kept w w' (fun k_=>P0_2_ k_):=by
 obtain ⟨Al0_2,cl0_2,rfl⟩:=Kd.R_slice ho0_2
 have S:=St.own1 at42 hB ho0_2 (dk (atI .i64) hr1 hc1 dn)
 clear hB ho0_2 hr1 hc1
 have F:=S.fc
 have H:=h;clear h;unfold impl_drop.f at H
 (first | (with_reducible replace H:=ob_ H;obtain ⟨y456,hy456,H⟩:=H;(try dsimp only at H)) | (obtain ⟨y456,hy456⟩:∃ y_:List Int,y_ = (([]:List Int)):=⟨_,rfl⟩;(try rw [← hy456] at H);(try simp only [Option.bind_some] at H)));have Ny456:=Aside0.mk hy456;clear hy456
 go_enter Try.func162,Try.ntmps162
 go_wp2_with (first | ((with_reducible refine gd 3 rfl (L ?_));refine bo 3 (.agg #[_,_,_]) S ?_;clear S F;intro gb454 W S;have F:=S.fc) | ((with_reducible refine gd 6 rfl (L ?_));refine al 6 S zi80 ?_;clear S F;intro gb455 W S;have F:=S.fc) | ((with_reducible refine gd 15 rfl (L ?_));refine lia 15 (atI .i64) 3 S ([]:List Int) (fun _ _=>(Reps.none _ _)) (by first | (go_simp;done) | (go_simp;rfl)) ?_;clear S F;intro Ay456 cy456 W S;(try rw [← Ny456.out] at S ⊢);have F:=S.fc) | ((with_reducible refine gs (t:=3) rfl (L ?_));(first | refine sb (.int _ _) S sz3 ?_ | refine ro (.int _ _) S sz3 ?_ (ho:=rfl) (hx:=rfl) (hy:=rfl));clear S F;intro W S;(try simp only [gd42] at S);have F:=S.fc) | ((with_reducible refine gs (t:=42) rfl (L ?_));(first | refine sb (.agg #[_,_]) S sz42 ?_ | refine ro (.agg #[_,_]) S sz42 ?_ (ho:=rfl) (hx:=rfl) (hy:=rfl));clear S F;intro W S;(try simp only [gd42] at S);have F:=S.fc) | ((with_reducible refine gs (t:=80) rfl (L ?_));(first | refine sb (.agg #[_,_,_]) S sz80 ?_ | refine ro (.agg #[_,_,_]) S sz80 ?_ (ho:=rfl) (hx:=rfl) (hy:=rfl));clear S F;intro W S;(try simp only [gd42] at S);have F:=S.fc))
 go_loopg [2,8,9,10] k (fun kq v2 v8 v9 v10 w'=>∃ (x2_1:Int) (x8_1:List Int) (x9_1:Int) (x10_1:Int) (x455002_1:List (S42)) (x456000_1:Int) (x456001_1:Int) (x456002_1:Int) (Ax8_1:Option Addr) (cx8_1:Nat),v2 = .int .i64 x2_1∧v9 = .int .i64 x9_1∧v10 = .int .i64 x10_1∧v8 = .slice Ax8_1 x8_1.length cx8_1∧impl_drop.l0 kq l1 x2_1 x8_1 x9_1 x10_1 a0_0 a0_1 x455002_1 = some (r1,r2,r3,r4,r5)∧kq ≤ k∧St w0 w P0_2_ [bor (atI .i64) A1 c1 l1] w'  [row (atI .i64) 3 Ax8_1 x8_1.length cx8_1 x8_1,box gb455 80 [.int .i64 x456000_1,.int .i64 x456001_1,.int .i64 x456002_1],box gb454 30 [.int .i64 a0_0,.int .i64 a0_1,.slice Al0_2 l0_2.length cl0_2],row at42 42 Al0_2 l0_2.length cl0_2 x455002_1])
 case atStart=>exact ⟨a2,y456,0,0,l0_2,0,0,0,_,_,(by first | rfl | (simp;done) | (simp [*];done) | (rw [w6_ (by omega) (by omega)])),(by first | rfl | (simp;done) | (simp [*];done) | (rw [w6_ (by omega) (by omega)])),(by first | rfl | (simp;done) | (simp [*];done) | (rw [w6_ (by omega) (by omega)])),rfl,(by first | exact H | (simp only [F];exact H)),Nat.le_refl _,S⟩
 case round =>
  clear H S F
  obtain ⟨x2_1,x8_1,x9_1,x10_1,x455002_1,x456000_1,x456001_1,x456002_1,Ax8_1,cx8_1,rfl,rfl,rfl,rfl,HA,HK1,S⟩:=hrel
  have F:=S.fc
  cases gk with
  | zero=>exact absurd HA (by simp [impl_drop.l0])
  | succ k1 =>
   have H:=HA;clear HA;simp only [impl_drop.l0,F] at H
   replace H:=sp_ H;rcases H with ⟨c9,H⟩ | ⟨c9,H⟩
   · skip
     replace H:=np_ H;obtain ⟨c10,H⟩:=H;(try simp only [F] at c10)
     (first | (with_reducible replace H:=ob_ H;obtain ⟨y459,hy459,H⟩:=H;(try dsimp only at H)) | (obtain ⟨y459,hy459⟩:∃ y_:List Int,y_ = (x8_1 ++ [wrap64 ((wrap64 (x10_1 * a0_1)) + x2_1)]):=⟨_,rfl⟩;(try rw [← hy459] at H);(try simp only [Option.bind_some] at H)));have Ny459:=Aside0.mk hy459;clear hy459
     obtain ⟨ji11,hji11⟩:∃ j_:Int,(wrap64 ((wrap64 (x10_1 * a0_1)) + x2_1)) = j_:=⟨_,rfl⟩;simp only [hji11] at H
     (try rw [hji11] at Ny459)
     have hji11w:(IntKind.i64.wrap ((wrap64 (x10_1 * a0_1)) + x2_1)) = ji11:=(i64_w _).trans hji11
     replace H:=np_ H;obtain ⟨c12,H⟩:=H;(try simp only [F] at c12)
     replace H:=np_ H;obtain ⟨c13,H⟩:=H;(try simp only [F] at c13)
     replace H:=Option.bind_eq_some_iff.mp H;obtain ⟨⟨t464,t465⟩,A14,H⟩:=H;(try dsimp only at H)
     replace H:=sp_ H;rcases H with ⟨c15,H⟩ | ⟨c15,H⟩
     · skip
       subst c15
       go_upto_if 51 with (first | ((with_reducible refine gd 31 rfl (L ?_));refine apa (A:=Ax8_1) 31 S Try.underlying25 info3 ?_ (ho:=rfl) (hs:=rfl) (hx:=rfl);clear S F;intro Ay459 cy459 W S;(try rw [← Ny459.out] at S ⊢);have F:=S.fc) | ((with_reducible refine gd 12 rfl (L ?_));refine al 12 S zi42 ?_;clear S F;intro gb463 W S;have F:=S.fc) | ((with_reducible refine gate_callee (f:=204) rfl (L ?_));refine cl (some 40) Try.func204 (impl_GoesTo.calls _ _ _ _ _ _ _ A14) (hargs:=by (simp only [ma_,mb_,mc_,F] <;> rfl)) (h:=?_);rintro e W ⟨rfl,hb⟩;refine ⟨_,rfl,?_⟩;replace S:=S.go hb;clear F hb;have F:=S.fc) | ((with_reducible refine gs (t:=3) rfl (L ?_));(first | refine sb (.int _ _) S sz3 ?_ | refine ro (.int _ _) S sz3 ?_ (ho:=rfl) (hx:=rfl) (hy:=rfl));clear S F;intro W S;(try simp only [gd42] at S);(try rw [← Ny459.out] at S);have F:=S.fc) | ((with_reducible refine gs (t:=42) rfl (L ?_));(first | refine sb (.agg #[_,_]) S sz42 ?_ | refine ro (.agg #[_,_]) S sz42 ?_ (ho:=rfl) (hx:=rfl) (hy:=rfl));clear S F;intro W S;(try simp only [gd42] at S);(try rw [← Ny459.out] at S);have F:=S.fc) | ((with_reducible refine gs (t:=80) rfl (L ?_));(first | refine sb (.agg #[_,_,_]) S sz80 ?_ | refine ro (.agg #[_,_,_]) S sz80 ?_ (ho:=rfl) (hx:=rfl) (hy:=rfl));clear S F;intro W S;(try simp only [gd42] at S);(try rw [← Ny459.out] at S);have F:=S.fc))
       (try simp only [Act.put,List.setIfInBounds_toArray,List.set_cons_zero,List.set_cons_succ])
       go_cut [] (fun wc=>∃ (kq:Nat) (x455002_15:List (S42)) (x464001_15:Int),impl_drop.j1 kq l1 x2_1 y459 x10_1 ji11 t464 a0_0 a0_1 x455002_15 ((rd_T42 x455002_1 (ji11)).f0) x464001_15 = some (r1,r2,r3,r4,r5)∧kq ≤ k1∧St w0 w P0_2_ [bor (atI .i64) A1 c1 l1] wc  [box gb463 42 [.int .i64 ((rd_T42 x455002_1 (ji11)).f0),.int .i64 x464001_15],row (atI .i64) 3 Ay459 y459.length cy459 y459,box gb455 80 [.int .i64 x456000_1,.int .i64 x456001_1,.int .i64 x456002_1],box gb454 30 [.int .i64 a0_0,.int .i64 a0_1,.slice Al0_2 l0_2.length cl0_2],row at42 42 Al0_2 l0_2.length cl0_2 x455002_15])
       case first =>
        replace H:=sp_ H;rcases H with ⟨c27,H⟩ | ⟨c27,H⟩
        · skip
          replace c27:=ceq c27
          (first | (with_reducible replace H:=ob_ H;obtain ⟨y466,hy466,H⟩:=H;(try dsimp only at H)) | (obtain ⟨y466,hy466⟩:∃ y_:List (S42),y_ = (x455002_1.set ((ji11):Int).toNat (⟨(rd_T42 x455002_1 (ji11)).f0,wrap64 (1 - ((rd_T42 x455002_1 (ji11)).f1))⟩:S42)):=⟨_,rfl⟩;(try rw [← hy466] at H);(try simp only [Option.bind_some] at H)));have Ny466:=Aside0.mk hy466;clear hy466
          go_wp2_with (first | ((with_reducible refine gs (t:=3) rfl (L ?_));(first | refine sb (.int _ _) S sz3 ?_ | refine ro (.int _ _) S sz3 ?_ (ho:=rfl) (hx:=rfl) (hy:=rfl));clear S F;intro W S;(try simp only [gd42] at S);(try rw [← Ny459.out] at S);(try rw [← Ny466.out] at S);have F:=S.fc) | ((with_reducible refine gs (t:=42) rfl (L ?_));(first | refine sb (.agg #[_,_]) S sz42 ?_ | refine ro (.agg #[_,_]) S sz42 ?_ (ho:=rfl) (hx:=rfl) (hy:=rfl));clear S F;intro W S;(try simp only [gd42] at S);(try rw [← Ny459.out] at S);(try rw [← Ny466.out] at S);have F:=S.fc) | ((with_reducible refine gs (t:=80) rfl (L ?_));(first | refine sb (.agg #[_,_,_]) S sz80 ?_ | refine ro (.agg #[_,_,_]) S sz80 ?_ (ho:=rfl) (hx:=rfl) (hy:=rfl));clear S F;intro W S;(try simp only [gd42] at S);(try rw [← Ny459.out] at S);(try rw [← Ny466.out] at S);have F:=S.fc))
          go_meet
          case rel=>exact ⟨_,y466,((rd_T42 x455002_1 (ji11)).f1),(by first | exact H | (simp only [F];exact H)),(by first | omega | exact Nat.le_refl _),S⟩
          all_goals (rename_i hd_;exact absurd (c27.1.symm.trans hd_) (by decide))
        · skip
          replace c27:=cne c27
          go_wp2_with (first | ((with_reducible refine gs (t:=3) rfl (L ?_));(first | refine sb (.int _ _) S sz3 ?_ | refine ro (.int _ _) S sz3 ?_ (ho:=rfl) (hx:=rfl) (hy:=rfl));clear S F;intro W S;(try simp only [gd42] at S);(try rw [← Ny459.out] at S);have F:=S.fc) | ((with_reducible refine gs (t:=42) rfl (L ?_));(first | refine sb (.agg #[_,_]) S sz42 ?_ | refine ro (.agg #[_,_]) S sz42 ?_ (ho:=rfl) (hx:=rfl) (hy:=rfl));clear S F;intro W S;(try simp only [gd42] at S);(try rw [← Ny459.out] at S);have F:=S.fc) | ((with_reducible refine gs (t:=80) rfl (L ?_));(first | refine sb (.agg #[_,_,_]) S sz80 ?_ | refine ro (.agg #[_,_,_]) S sz80 ?_ (ho:=rfl) (hx:=rfl) (hy:=rfl));clear S F;intro W S;(try simp only [gd42] at S);(try rw [← Ny459.out] at S);have F:=S.fc))
          go_meet
          case rel=>exact ⟨_,x455002_1,((rd_T42 x455002_1 (ji11)).f1),(by first | exact H | (simp only [F];exact H)),(by first | omega | exact Nat.le_refl _),S⟩
       case rest =>
        clear H S F
        obtain ⟨kq,x455002_15,x464001_15,HA,HJ15,S⟩:=hcut
        have F:=S.fc
        cases kq with
        | zero=>exact absurd HA (by simp [impl_drop.j1])
        | succ kj15 =>
         have H:=HA;clear HA;simp only [impl_drop.j1,F] at H
         replace H:=sp_ H;rcases H with ⟨c36,H⟩ | ⟨c36,H⟩
         · skip
           replace c36:=ceq c36
           replace H:=Option.bind_eq_some_iff.mp H;obtain ⟨t467,A37,H⟩:=H;(try dsimp only at H)
           replace H:=sp_ H;rcases H with ⟨c38,H⟩ | ⟨c38,H⟩
           · skip
             simp only [Option.some.injEq,Prod.mk.injEq] at H
             obtain ⟨rfl,rfl,rfl,rfl,rfl⟩:=H
             go_wp2_with (first | ((with_reducible refine gate_callee (f:=205) rfl (L ?_));obtain ⟨ok_,k_⟩:=S.lend (A:=Al0_2);refine cl (some 66) Try.func205 (impl_turnGroup.calls _ _ _ ok_ _ _ _ _ _ _ _ _ _ k_.below k_.own k_.c k_.n A37) (hargs:=by (simp only [ma_,mb_,mc_,F] <;> rfl)) (h:=?_);rintro e W ⟨rfl,hy,hb,hk⟩;refine ⟨_,rfl,?_⟩;clear S F;have S:=k_.back _ _ hy hb hk;clear k_ hy hb hk ok_;have F:=S.fc) | ((with_reducible refine gs (t:=3) rfl (L ?_));(first | refine sb (.int _ _) S sz3 ?_ | refine ro (.int _ _) S sz3 ?_ (ho:=rfl) (hx:=rfl) (hy:=rfl));clear S F;intro W S;(try simp only [gd42] at S);(try rw [← Ny459.out] at S);have F:=S.fc) | ((with_reducible refine gs (t:=42) rfl (L ?_));(first | refine sb (.agg #[_,_]) S sz42 ?_ | refine ro (.agg #[_,_]) S sz42 ?_ (ho:=rfl) (hx:=rfl) (hy:=rfl));clear S F;intro W S;(try simp only [gd42] at S);(try rw [← Ny459.out] at S);have F:=S.fc) | ((with_reducible refine gs (t:=80) rfl (L ?_));(first | refine sb (.agg #[_,_,_]) S sz80 ?_ | refine ro (.agg #[_,_,_]) S sz80 ?_ (ho:=rfl) (hx:=rfl) (hy:=rfl));clear S F;intro W S;(try simp only [gd42] at S);(try rw [← Ny459.out] at S);have F:=S.fc))
             refine bodyPost_ret (results_ct rfl _ _ gb455 80 #[.int .i64 3,.int .i64 x10_1,.int .i64 (wrap64 (x2_1 + t464))] (0,0) _ rfl S.hb Try.underlying80 rfl (by kernel_rfl)) rfl ?_
             exact ⟨_,(by first | rfl | (simp [e0_,e1_] <;> rfl) | (simp [*,e0_,e1_] <;> rfl)),(by first | exact S.rp | exact Kd.R_nil _ _ _ _ _),(by first | exact S.rp | exact Kd.R_nil _ _ _ _ _),S.below,S.kept⟩
           · skip
             replace H:=sp_ H;rcases H with ⟨c46,H⟩ | ⟨c46,H⟩
             · skip
               simp only [Option.some.injEq,Prod.mk.injEq] at H
               obtain ⟨rfl,rfl,rfl,rfl,rfl⟩:=H
               go_wp2_with (first | ((with_reducible refine gate_callee (f:=205) rfl (L ?_));obtain ⟨ok_,k_⟩:=S.lend (A:=Al0_2);refine cl (some 66) Try.func205 (impl_turnGroup.calls _ _ _ ok_ _ _ _ _ _ _ _ _ _ k_.below k_.own k_.c k_.n A37) (hargs:=by (simp only [ma_,mb_,mc_,F] <;> rfl)) (h:=?_);rintro e W ⟨rfl,hy,hb,hk⟩;refine ⟨_,rfl,?_⟩;clear S F;have S:=k_.back _ _ hy hb hk;clear k_ hy hb hk ok_;have F:=S.fc) | ((with_reducible refine gs (t:=3) rfl (L ?_));(first | refine sb (.int _ _) S sz3 ?_ | refine ro (.int _ _) S sz3 ?_ (ho:=rfl) (hx:=rfl) (hy:=rfl));clear S F;intro W S;(try simp only [gd42] at S);(try rw [← Ny459.out] at S);have F:=S.fc) | ((with_reducible refine gs (t:=42) rfl (L ?_));(first | refine sb (.agg #[_,_]) S sz42 ?_ | refine ro (.agg #[_,_]) S sz42 ?_ (ho:=rfl) (hx:=rfl) (hy:=rfl));clear S F;intro W S;(try simp only [gd42] at S);(try rw [← Ny459.out] at S);have F:=S.fc) | ((with_reducible refine gs (t:=80) rfl (L ?_));(first | refine sb (.agg #[_,_,_]) S sz80 ?_ | refine ro (.agg #[_,_,_]) S sz80 ?_ (ho:=rfl) (hx:=rfl) (hy:=rfl));clear S F;intro W S;(try simp only [gd42] at S);(try rw [← Ny459.out] at S);have F:=S.fc))
               refine bodyPost_ret (results_ct rfl _ _ gb455 80 #[.int .i64 3,.int .i64 x10_1,.int .i64 (wrap64 (x2_1 + t464))] (0,0) _ rfl S.hb Try.underlying80 rfl (by kernel_rfl)) rfl ?_
               exact ⟨_,(by first | rfl | (simp [e0_,e1_] <;> rfl) | (simp [*,e0_,e1_] <;> rfl)),(by first | exact S.rp | exact Kd.R_nil _ _ _ _ _),(by first | exact S.rp | exact Kd.R_nil _ _ _ _ _),S.below,S.kept⟩
             · skip
               go_wp2_with (first | ((with_reducible refine gate_callee (f:=205) rfl (L ?_));obtain ⟨ok_,k_⟩:=S.lend (A:=Al0_2);refine cl (some 66) Try.func205 (impl_turnGroup.calls _ _ _ ok_ _ _ _ _ _ _ _ _ _ k_.below k_.own k_.c k_.n A37) (hargs:=by (simp only [ma_,mb_,mc_,F] <;> rfl)) (h:=?_);rintro e W ⟨rfl,hy,hb,hk⟩;refine ⟨_,rfl,?_⟩;clear S F;have S:=k_.back _ _ hy hb hk;clear k_ hy hb hk ok_;have F:=S.fc) | ((with_reducible refine gs (t:=3) rfl (L ?_));(first | refine sb (.int _ _) S sz3 ?_ | refine ro (.int _ _) S sz3 ?_ (ho:=rfl) (hx:=rfl) (hy:=rfl));clear S F;intro W S;(try simp only [gd42] at S);(try rw [← Ny459.out] at S);have F:=S.fc) | ((with_reducible refine gs (t:=42) rfl (L ?_));(first | refine sb (.agg #[_,_]) S sz42 ?_ | refine ro (.agg #[_,_]) S sz42 ?_ (ho:=rfl) (hx:=rfl) (hy:=rfl));clear S F;intro W S;(try simp only [gd42] at S);(try rw [← Ny459.out] at S);have F:=S.fc) | ((with_reducible refine gs (t:=80) rfl (L ?_));(first | refine sb (.agg #[_,_,_]) S sz80 ?_ | refine ro (.agg #[_,_,_]) S sz80 ?_ (ho:=rfl) (hx:=rfl) (hy:=rfl));clear S F;intro W S;(try simp only [gd42] at S);(try rw [← Ny459.out] at S);have F:=S.fc))
               go_roundg kj15
               case measure=>omega
               case rel=>exact ⟨(wrap64 (x2_1 + t464)),y459,(wrap64 (-t464)),(wrap64 (x10_1 + 1)),t467,x456000_1,x456001_1,x456002_1,_,_,(by first | rfl | (simp;done) | (simp [*];done) | (rw [w6_ (by omega) (by omega)])),(by first | rfl | (simp;done) | (simp [*];done) | (rw [w6_ (by omega) (by omega)])),(by first | rfl | (simp;done) | (simp [*];done) | (rw [w6_ (by omega) (by omega)])),rfl,(by first | exact H | (simp only [F];exact H)),(by first | omega | exact Nat.le_refl _),S.tl⟩
         · skip
           replace c36:=cne c36
           replace H:=sp_ H;rcases H with ⟨c62,H⟩ | ⟨c62,H⟩
           · skip
             simp only [Option.some.injEq,Prod.mk.injEq] at H
             obtain ⟨rfl,rfl,rfl,rfl,rfl⟩:=H
             go_wp2_with (first | ((with_reducible refine gs (t:=3) rfl (L ?_));(first | refine sb (.int _ _) S sz3 ?_ | refine ro (.int _ _) S sz3 ?_ (ho:=rfl) (hx:=rfl) (hy:=rfl));clear S F;intro W S;(try simp only [gd42] at S);(try rw [← Ny459.out] at S);have F:=S.fc) | ((with_reducible refine gs (t:=42) rfl (L ?_));(first | refine sb (.agg #[_,_]) S sz42 ?_ | refine ro (.agg #[_,_]) S sz42 ?_ (ho:=rfl) (hx:=rfl) (hy:=rfl));clear S F;intro W S;(try simp only [gd42] at S);(try rw [← Ny459.out] at S);have F:=S.fc) | ((with_reducible refine gs (t:=80) rfl (L ?_));(first | refine sb (.agg #[_,_,_]) S sz80 ?_ | refine ro (.agg #[_,_,_]) S sz80 ?_ (ho:=rfl) (hx:=rfl) (hy:=rfl));clear S F;intro W S;(try simp only [gd42] at S);(try rw [← Ny459.out] at S);have F:=S.fc))
             refine bodyPost_ret (results_ct rfl _ _ gb455 80 #[.int .i64 3,.int .i64 x10_1,.int .i64 (wrap64 (x2_1 + t464))] (0,0) _ rfl S.hb Try.underlying80 rfl (by kernel_rfl)) rfl ?_
             exact ⟨_,(by first | rfl | (simp [e0_,e1_] <;> rfl) | (simp [*,e0_,e1_] <;> rfl)),(by first | exact S.rp | exact Kd.R_nil _ _ _ _ _),(by first | exact S.rp | exact Kd.R_nil _ _ _ _ _),S.below,S.kept⟩
           · skip
             replace H:=sp_ H;rcases H with ⟨c68,H⟩ | ⟨c68,H⟩
             · skip
               simp only [Option.some.injEq,Prod.mk.injEq] at H
               obtain ⟨rfl,rfl,rfl,rfl,rfl⟩:=H
               go_wp2_with (first | ((with_reducible refine gs (t:=3) rfl (L ?_));(first | refine sb (.int _ _) S sz3 ?_ | refine ro (.int _ _) S sz3 ?_ (ho:=rfl) (hx:=rfl) (hy:=rfl));clear S F;intro W S;(try simp only [gd42] at S);(try rw [← Ny459.out] at S);have F:=S.fc) | ((with_reducible refine gs (t:=42) rfl (L ?_));(first | refine sb (.agg #[_,_]) S sz42 ?_ | refine ro (.agg #[_,_]) S sz42 ?_ (ho:=rfl) (hx:=rfl) (hy:=rfl));clear S F;intro W S;(try simp only [gd42] at S);(try rw [← Ny459.out] at S);have F:=S.fc) | ((with_reducible refine gs (t:=80) rfl (L ?_));(first | refine sb (.agg #[_,_,_]) S sz80 ?_ | refine ro (.agg #[_,_,_]) S sz80 ?_ (ho:=rfl) (hx:=rfl) (hy:=rfl));clear S F;intro W S;(try simp only [gd42] at S);(try rw [← Ny459.out] at S);have F:=S.fc))
               refine bodyPost_ret (results_ct rfl _ _ gb455 80 #[.int .i64 3,.int .i64 x10_1,.int .i64 (wrap64 (x2_1 + t464))] (0,0) _ rfl S.hb Try.underlying80 rfl (by kernel_rfl)) rfl ?_
               exact ⟨_,(by first | rfl | (simp [e0_,e1_] <;> rfl) | (simp [*,e0_,e1_] <;> rfl)),(by first | exact S.rp | exact Kd.R_nil _ _ _ _ _),(by first | exact S.rp | exact Kd.R_nil _ _ _ _ _),S.below,S.kept⟩
             · skip
               go_wp2_with (first | ((with_reducible refine gs (t:=3) rfl (L ?_));(first | refine sb (.int _ _) S sz3 ?_ | refine ro (.int _ _) S sz3 ?_ (ho:=rfl) (hx:=rfl) (hy:=rfl));clear S F;intro W S;(try simp only [gd42] at S);(try rw [← Ny459.out] at S);have F:=S.fc) | ((with_reducible refine gs (t:=42) rfl (L ?_));(first | refine sb (.agg #[_,_]) S sz42 ?_ | refine ro (.agg #[_,_]) S sz42 ?_ (ho:=rfl) (hx:=rfl) (hy:=rfl));clear S F;intro W S;(try simp only [gd42] at S);(try rw [← Ny459.out] at S);have F:=S.fc) | ((with_reducible refine gs (t:=80) rfl (L ?_));(first | refine sb (.agg #[_,_,_]) S sz80 ?_ | refine ro (.agg #[_,_,_]) S sz80 ?_ (ho:=rfl) (hx:=rfl) (hy:=rfl));clear S F;intro W S;(try simp only [gd42] at S);(try rw [← Ny459.out] at S);have F:=S.fc))
               go_roundg kj15
               case measure=>omega
               case rel=>exact ⟨(wrap64 (x2_1 + t464)),y459,(wrap64 (-t464)),(wrap64 (x10_1 + 1)),x455002_15,x456000_1,x456001_1,x456002_1,_,_,(by first | rfl | (simp;done) | (simp [*];done) | (rw [w6_ (by omega) (by omega)])),(by first | rfl | (simp;done) | (simp [*];done) | (rw [w6_ (by omega) (by omega)])),(by first | rfl | (simp;done) | (simp [*];done) | (rw [w6_ (by omega) (by omega)])),rfl,(by first | exact H | (simp only [F];exact H)),(by first | omega | exact Nat.le_refl _),S.tl⟩
     · skip
       replace c15:=cbf c15;subst c15
       simp only [Option.some.injEq,Prod.mk.injEq] at H
       obtain ⟨rfl,rfl,rfl,rfl,rfl⟩:=H
       go_wp2_with (first | ((with_reducible refine gd 31 rfl (L ?_));refine apa (A:=Ax8_1) 31 S Try.underlying25 info3 ?_ (ho:=rfl) (hs:=rfl) (hx:=rfl);clear S F;intro Ay459 cy459 W S;(try rw [← Ny459.out] at S ⊢);have F:=S.fc) | ((with_reducible refine gd 12 rfl (L ?_));refine al 12 S zi42 ?_;clear S F;intro gb463 W S;have F:=S.fc) | ((with_reducible refine gate_callee (f:=204) rfl (L ?_));refine cl (some 40) Try.func204 (impl_GoesTo.calls _ _ _ _ _ _ _ A14) (hargs:=by (simp only [ma_,mb_,mc_,F] <;> rfl)) (h:=?_);rintro e W ⟨rfl,hb⟩;refine ⟨_,rfl,?_⟩;replace S:=S.go hb;clear F hb;have F:=S.fc) | ((with_reducible refine gs (t:=3) rfl (L ?_));(first | refine sb (.int _ _) S sz3 ?_ | refine ro (.int _ _) S sz3 ?_ (ho:=rfl) (hx:=rfl) (hy:=rfl));clear S F;intro W S;(try simp only [gd42] at S);(try rw [← Ny459.out] at S);have F:=S.fc) | ((with_reducible refine gs (t:=42) rfl (L ?_));(first | refine sb (.agg #[_,_]) S sz42 ?_ | refine ro (.agg #[_,_]) S sz42 ?_ (ho:=rfl) (hx:=rfl) (hy:=rfl));clear S F;intro W S;(try simp only [gd42] at S);(try rw [← Ny459.out] at S);have F:=S.fc) | ((with_reducible refine gs (t:=80) rfl (L ?_));(first | refine sb (.agg #[_,_,_]) S sz80 ?_ | refine ro (.agg #[_,_,_]) S sz80 ?_ (ho:=rfl) (hx:=rfl) (hy:=rfl));clear S F;intro W S;(try simp only [gd42] at S);(try rw [← Ny459.out] at S);have F:=S.fc))
       refine bodyPost_ret (results_ct rfl _ _ gb455 80 #[.int .i64 2,.int .i64 x10_1,.int .i64 x2_1] (0,0) _ rfl S.hb Try.underlying80 rfl (by kernel_rfl)) rfl ?_
       exact ⟨_,(by first | rfl | (simp [e0_,e1_] <;> rfl) | (simp [*,e0_,e1_] <;> rfl)),(by first | exact S.rp | exact Kd.R_nil _ _ _ _ _),(by first | exact S.rp | exact Kd.R_nil _ _ _ _ _),S.below,S.kept⟩
   · skip
     simp only [Option.some.injEq,Prod.mk.injEq] at H
     obtain ⟨rfl,rfl,rfl,rfl,rfl⟩:=H
     go_wp2_with (first | ((with_reducible refine gs (t:=3) rfl (L ?_));(first | refine sb (.int _ _) S sz3 ?_ | refine ro (.int _ _) S sz3 ?_ (ho:=rfl) (hx:=rfl) (hy:=rfl));clear S F;intro W S;(try simp only [gd42] at S);have F:=S.fc) | ((with_reducible refine gs (t:=42) rfl (L ?_));(first | refine sb (.agg #[_,_]) S sz42 ?_ | refine ro (.agg #[_,_]) S sz42 ?_ (ho:=rfl) (hx:=rfl) (hy:=rfl));clear S F;intro W S;(try simp only [gd42] at S);have F:=S.fc) | ((with_reducible refine gs (t:=80) rfl (L ?_));(first | refine sb (.agg #[_,_,_]) S sz80 ?_ | refine ro (.agg #[_,_,_]) S sz80 ?_ (ho:=rfl) (hx:=rfl) (hy:=rfl));clear S F;intro W S;(try simp only [gd42] at S);have F:=S.fc))
     refine bodyPost_ret (results_ct rfl _ _ gb455 80 #[.int .i64 1,.int .i64 a0_0,.int .i64 x2_1] (0,0) _ rfl S.hb Try.underlying80 rfl (by kernel_rfl)) rfl ?_
     exact ⟨_,(by first | rfl | (simp [e0_,e1_] <;> rfl) | (simp [*,e0_,e1_] <;> rfl)),(by first | exact S.rp | exact Kd.R_nil _ _ _ _ _),(by first | exact S.rp | exact Kd.R_nil _ _ _ _ _),S.below,S.kept⟩

/-! ### impl_copyBoard: function 163 -/
def impl_copyBoard.f (a0_0:Int) (a0_1:Int) (l0_2:List (S42)):Option (Int × Int × (List (S42))):=(some (([]:List (S42)):List (S42))).bind fun y470=>(if y470.length + l0_2.length < 8796093022208 then (some (a0_0,a0_1,(y470 ++ l0_2))) else (none))
theorem impl_copyBoard.calls (a0_0:Int) (a0_1:Int) (A0_2:Option Addr) (c0_2:Nat) (l0_2:List (S42)) (r1:Int) (r2:Int) (r3:List (S42)) (w:World) (hr0_2:Kd.C k42 w A0_2 l0_2.length l0_2) (hc0_2:l0_2.length ≤ c0_2) (h:impl_copyBoard.f a0_0 a0_1 l0_2 = some (r1,r2,r3)) :
    Calls Try.prog 163 #[.agg #[.int .i64 a0_0,.int .i64 a0_1,.slice A0_2 l0_2.length c0_2]] w fun e w'=>∃ v2_:Value,e = .returned (.agg #[.int .i64 r1,.int .i64 r2,v2_])∧Kd.R k42 42 w' w.heap.size (fun _=>True) v2_ r3∧Below w.heap.size w w':=by
 have S:=St.init (w:=w) (dc k42_heap at42 hr0_2 hc0_2 dn)
 clear hr0_2 hc0_2
 have F:=S.fc
 have H:=h;clear h;unfold impl_copyBoard.f at H
 (first | (with_reducible replace H:=ob_ H;obtain ⟨y470,hy470,H⟩:=H;(try dsimp only at H)) | (obtain ⟨y470,hy470⟩:∃ y_:List (S42),y_ = (([]:List (S42))):=⟨_,rfl⟩;(try rw [← hy470] at H);(try simp only [Option.bind_some] at H)));have Ny470:=Aside0.mk hy470;clear hy470
 replace H:=np_ H;obtain ⟨c2,H⟩:=H
 (first | (with_reducible replace H:=ob_ H;obtain ⟨y473,hy473,H⟩:=H;(try dsimp only at H)) | (obtain ⟨y473,hy473⟩:∃ y_:List (S42),y_ = (y470 ++ l0_2):=⟨_,rfl⟩;(try rw [← hy473] at H);(try simp only [Option.bind_some] at H)));have Ny473:=Aside0.mk hy473;clear hy473
 simp only [Option.some.injEq,Prod.mk.injEq] at H
 obtain ⟨rfl,rfl,rfl⟩:=H
 go_enter Try.func163,Try.ntmps163
 go_wp2_with (first | ((with_reducible refine gd 1 rfl (L ?_));refine bo 1 (.agg #[_,_,_]) S ?_;clear S F;intro gb468 W S;have F:=S.fc) | ((with_reducible refine gd 2 rfl (L ?_));refine al 2 S zi30 ?_;clear S F;intro gb469 W S;have F:=S.fc))
 refine rgP S (fun _ S=>S.tl) [(0,0),(0,2),(0,5),(1,1),(1,3),(1,6),(2,4),(2,7),(0,8),(2,9)] [] (by kernel_rfl) (by kernel_rfl) (fun _ d _ _ _ h=>by cases d <;> exact h) ?_;clear S F;intro W S;have S0:=S.tl;have F:=S.fc
 repeat (first | (refine q0 (h:=?_)) | (refine q1 S0 (h:=?_)))
 refine lk2 (by rfl) (by exact (Eq.refl true)) ?_;refine lia 7 at42 42 S ([]:List (S42)) (fun _ _=>(Reps.none _ _)) (by first | (go_simp;done) | (go_simp;rfl)) ?_;clear S F;intro Ay470 cy470 W S;(try rw [← Ny470.out] at S ⊢);(try rw [← Ny473.out] at S ⊢);have F:=S.fc
 clear S0;have S0:=S.tl.tl;refine ⟨S0,?_⟩
 refine lk2 (by rfl) (by exact (Eq.refl true)) ?_;refine apr (A:=Ay470) (ys:=l0_2) 10 S Try.underlying24 info42 S.c ?_ (ho:=rfl) (hs:=rfl) (hx:=rfl);clear S F;intro Ay473 cy473 W S;(try rw [← Ny473.out] at S ⊢);have F:=S.fc
 clear S0;have S0:=S.tl.tl;refine ⟨S0,?_⟩
 repeat ((refine q0 (h:=?_)))
 refine lk2 (by rfl) (by exact (Eq.refl true)) ?_;(first | refine sb (.agg #[_,_,_]) S sz30 ?_ | refine ro (.agg #[_,_,_]) S sz30 ?_ (ho:=rfl) (hx:=rfl) (hy:=rfl));clear S F;intro W S;(try rw [← Ny473.out] at S);have F:=S.fc
 clear S0;have S0:=S.tl.tl;refine ⟨S0,?_⟩
 refine oz ?_
 try clear S0
 go_wp2
 refine bodyPost_ret (results_cell_row rfl _ _ gb469 30 #[.int .i64 a0_0,.int .i64 a0_1,.slice Ay473 y473.length cy473] (0,0) _ rfl S.hb Try.underlying30 rfl (by kernel_rfl)) rfl ?_
 exact ⟨_,(by first | rfl | (simp [e0_,e1_] <;> rfl) | (simp [*,e0_,e1_] <;> rfl)),(by first | exact S.r | exact Kd.R_nil _ _ _ _ _),S.below⟩

/-! ### impl_isGeared: function 206 -/
def impl_isGeared.f (a0_0:Int) (a0_1:Int):Option (Bool):=if a0_0 = 6 then (some true) else (some (a0_0 == 7))
theorem impl_isGeared.calls (a0_0:Int) (a0_1:Int) (r:Bool) (w:World) (h:impl_isGeared.f a0_0 a0_1 = some r) :
    Calls Try.prog 206 #[.agg #[.int .i64 a0_0,.int .i64 a0_1]] w fun e w'=>e = .returned (.bool r)∧Below w.heap.size w w':=by
 have S:=St.init (w:=w) dn
 have F:=S.fc
 have H:=h;clear h;unfold impl_isGeared.f at H
 replace H:=sp_ H;rcases H with ⟨c2,H⟩ | ⟨c2,H⟩
 · skip
   replace c2:=ceq c2
   obtain rfl:=Option.some.inj H
   go_enter Try.func206,Try.ntmps206
   go_wp2_with ((with_reducible refine gd 1 rfl (L ?_));refine bo 1 (.agg #[_,_]) S ?_;clear S F;intro gb476 W S;have F:=S.fc)
   go_ret
   exact ⟨(by first | rfl | (simp [e0_,e1_] <;> rfl) | (simp [*,e0_,e1_] <;> rfl)),S.below⟩
 · skip
   replace c2:=cne c2
   obtain rfl:=Option.some.inj H
   go_enter Try.func206,Try.ntmps206
   go_wp2_with ((with_reducible refine gd 1 rfl (L ?_));refine bo 1 (.agg #[_,_]) S ?_;clear S F;intro gb476 W S;have F:=S.fc)
   go_ret
   exact ⟨(by first | rfl | (simp [e0_,e1_] <;> rfl) | (simp [*,e0_,e1_] <;> rfl)),S.below⟩

/-! ### impl_besideOf: function 207 -/
mutual
def impl_besideOf.j0:Nat→Int→List Int→Int→Int→Int→Int→List (S42)→Option (List Int)
  | 0,_,_,_,_,_,_,_=>none
  | k + 1,x1,x5,x6,x7,x478000,x478001,x478002=>if x7 > 0 then (if x5.length < 17592186044416 then (impl_besideOf.j1 k x1 (x5 ++ [wrap64 (x1 - 1)]) x6 x7 x478000 x478001 x478002) else (none)) else (impl_besideOf.j1 k x1 x5 x6 x7 x478000 x478001 x478002)
def impl_besideOf.j1:Nat→Int→List Int→Int→Int→Int→Int→List (S42)→Option (List Int)
  | 0,_,_,_,_,_,_,_=>none
  | k + 1,x1,x5,x6,x7,x478000,x478001,x478002=>if (wrap64 (x7 + 1)) < x478001 then (if x5.length < 17592186044416 then ((some (x5 ++ [wrap64 (x1 + 1)]:List Int)).bind fun y487=>(if (wrap64 (x6 + 1)) < x478000 then (if y487.length < 17592186044416 then (some (y487 ++ [wrap64 (x1 + x478001)])) else (none)) else (some y487))) else (none)) else (if (wrap64 (x6 + 1)) < x478000 then (if x5.length < 17592186044416 then (some (x5 ++ [wrap64 (x1 + x478001)])) else (none)) else (some x5))
end
def impl_besideOf.f (k:Nat) (a0_0:Int) (a0_1:Int) (l0_2:List (S42)) (a1:Int):Option (List Int):=(some (([]:List Int):List Int)).bind fun y478=>(if a0_1 = 0 then (none) else (if (wrap64 (Int.tdiv a1 a0_1)) > 0 then (if y478.length < 17592186044416 then (impl_besideOf.j0 k a1 (y478 ++ [wrap64 (a1 - a0_1)]) (wrap64 (Int.tdiv a1 a0_1)) (Int.tmod a1 a0_1) a0_0 a0_1 l0_2) else (none)) else (impl_besideOf.j0 k a1 y478 (wrap64 (Int.tdiv a1 a0_1)) (Int.tmod a1 a0_1) a0_0 a0_1 l0_2)))
theorem impl_besideOf.calls (k:Nat) (a0_0:Int) (a0_1:Int) (A0_2:Option Addr) (c0_2:Nat) (l0_2:List (S42)) (a1:Int) (r:List Int) (w:World) (hr0_2:Kd.C k42 w A0_2 l0_2.length l0_2) (hc0_2:l0_2.length ≤ c0_2) (h:impl_besideOf.f k a0_0 a0_1 l0_2 a1 = some r) :
    Calls Try.prog 207 #[.agg #[.int .i64 a0_0,.int .i64 a0_1,.slice A0_2 l0_2.length c0_2],.int .i64 a1] w fun e w'=>∃ v0_:Value,e = .returned (v0_)∧Kd.R (Kd.int .i64) 3 w' w.heap.size (fun _=>True) v0_ r∧Below w.heap.size w w':=by
 have S:=St.init (w:=w) (dc k42_heap at42 hr0_2 hc0_2 dn)
 clear hr0_2 hc0_2
 have F:=S.fc
 have H:=h;clear h;unfold impl_besideOf.f at H
 (first | (with_reducible replace H:=ob_ H;obtain ⟨y478,hy478,H⟩:=H;(try dsimp only at H)) | (obtain ⟨y478,hy478⟩:∃ y_:List Int,y_ = (([]:List Int)):=⟨_,rfl⟩;(try rw [← hy478] at H);(try simp only [Option.bind_some] at H)));have Ny478:=Aside0.mk hy478;clear hy478
 replace H:=nn_ H;obtain ⟨c3,H⟩:=H
 replace c3:=cne c3
 go_enter Try.func207,Try.ntmps207
 go_upto_if 18 with (first | ((with_reducible refine gd 2 rfl (L ?_));refine bo 2 (.agg #[_,_,_]) S ?_;clear S F;intro gb477 W S;have F:=S.fc) | ((with_reducible refine gd 8 rfl (L ?_));refine lia 8 (atI .i64) 3 S ([]:List Int) (fun _ _=>(Reps.none _ _)) (by first | (go_simp;done) | (go_simp;rfl)) ?_;clear S F;intro Ay478 cy478 W S;(try rw [← Ny478.out] at S ⊢);have F:=S.fc))
 go_upto_if 18 with (first | ((refine rq (id:=2) S [(0,0),(0,1),(0,4),(0,5),(1,2),(0,3),(0,8),(1,6),(0,7),(0,9)] [] (h:=?_);clear S F;intro W S;have S0:=S;have F:=S.fc)) | (refine q0 (h:=?_)) | (refine q1 S0 (h:=?_)) | refine oz ?_)
 (try simp only [Act.put,List.setIfInBounds_toArray,List.set_cons_zero,List.set_cons_succ])
 go_cut [5] (fun v5 wc=>∃ (kq:Nat) (x5_3:List Int) (Ax5_3:Option Addr) (cx5_3:Nat),v5 = .slice Ax5_3 x5_3.length cx5_3∧impl_besideOf.j0 kq a1 x5_3 (wrap64 (Int.tdiv a1 a0_1)) (Int.tmod a1 a0_1) a0_0 a0_1 l0_2 = some r∧kq ≤ k∧St w w (fun _=>False) [bor at42 A0_2 c0_2 l0_2] wc  [row (atI .i64) 3 Ax5_3 x5_3.length cx5_3 x5_3,box gb477 30 [.int .i64 a0_0,.int .i64 a0_1,.slice A0_2 l0_2.length c0_2]])
 case first =>
  replace H:=sp_ H;rcases H with ⟨c9,H⟩ | ⟨c9,H⟩
  · skip
    replace H:=np_ H;obtain ⟨c10,H⟩:=H
    (first | (with_reducible replace H:=ob_ H;obtain ⟨y481,hy481,H⟩:=H;(try dsimp only at H)) | (obtain ⟨y481,hy481⟩:∃ y_:List Int,y_ = (y478 ++ [wrap64 (a1 - a0_1)]):=⟨_,rfl⟩;(try rw [← hy481] at H);(try simp only [Option.bind_some] at H)));have Ny481:=Aside0.mk hy481;clear hy481
    go_wp2_with ((with_reducible refine gd 25 rfl (L ?_));refine apa (A:=Ay478) 25 S Try.underlying25 info3 ?_ (ho:=rfl) (hs:=rfl) (hx:=rfl);clear S F;intro Ay481 cy481 W S;(try rw [← Ny481.out] at S ⊢);have F:=S.fc)
    go_wp2
    go_meet
    case rel=>exact ⟨_,y481,_,_,rfl,H,(by first | omega | exact Nat.le_refl _),S⟩
  · skip
    go_wp2
    go_wp2
    go_meet
    case rel=>exact ⟨_,y478,_,_,rfl,H,(by first | omega | exact Nat.le_refl _),S⟩
 case rest =>
  clear H S F
  obtain ⟨kq,x5_3,Ax5_3,cx5_3,rfl,HA,HJ3,S⟩:=hcut
  have F:=S.fc
  cases kq with
  | zero=>exact absurd HA (by simp [impl_besideOf.j0])
  | succ kj3 =>
   have H:=HA;clear HA;simp only [impl_besideOf.j0,F] at H
   go_upto_if 27 with (fail)
   go_upto_if 27 with (fail)
   go_cut [5] (fun v5 wc=>∃ (kq:Nat) (x5_12:List Int) (Ax5_12:Option Addr) (cx5_12:Nat),v5 = .slice Ax5_12 x5_12.length cx5_12∧impl_besideOf.j1 kq a1 x5_12 (wrap64 (Int.tdiv a1 a0_1)) (Int.tmod a1 a0_1) a0_0 a0_1 l0_2 = some r∧kq ≤ kj3∧St w w (fun _=>False) [bor at42 A0_2 c0_2 l0_2] wc  [row (atI .i64) 3 Ax5_12 x5_12.length cx5_12 x5_12,box gb477 30 [.int .i64 a0_0,.int .i64 a0_1,.slice A0_2 l0_2.length c0_2]])
   case first =>
    replace H:=sp_ H;rcases H with ⟨c14,H⟩ | ⟨c14,H⟩
    · skip
      replace H:=np_ H;obtain ⟨c15,H⟩:=H
      (first | (with_reducible replace H:=ob_ H;obtain ⟨y484,hy484,H⟩:=H;(try dsimp only at H)) | (obtain ⟨y484,hy484⟩:∃ y_:List Int,y_ = (x5_3 ++ [wrap64 (a1 - 1)]):=⟨_,rfl⟩;(try rw [← hy484] at H);(try simp only [Option.bind_some] at H)));have Ny484:=Aside0.mk hy484;clear hy484
      go_wp2_with ((with_reducible refine gd 32 rfl (L ?_));refine apa (A:=Ax5_3) 32 S Try.underlying25 info3 ?_ (ho:=rfl) (hs:=rfl) (hx:=rfl);clear S F;intro Ay484 cy484 W S;(try rw [← Ny484.out] at S ⊢);have F:=S.fc)
      go_wp2
      go_meet
      case rel=>exact ⟨_,y484,_,_,rfl,H,(by first | omega | exact Nat.le_refl _),S⟩
    · skip
      go_wp2
      go_wp2
      go_meet
      case rel=>exact ⟨_,x5_3,_,_,rfl,H,(by first | omega | exact Nat.le_refl _),S⟩
   case rest =>
    clear H S F
    obtain ⟨kq,x5_12,Ax5_12,cx5_12,rfl,HA,HJ12,S⟩:=hcut
    have F:=S.fc
    cases kq with
    | zero=>exact absurd HA (by simp [impl_besideOf.j1])
    | succ kj12 =>
     have H:=HA;clear HA;simp only [impl_besideOf.j1,F] at H
     replace H:=sp_ H;rcases H with ⟨c17,H⟩ | ⟨c17,H⟩
     · skip
       replace H:=np_ H;obtain ⟨c18,H⟩:=H
       (first | (with_reducible replace H:=ob_ H;obtain ⟨y487,hy487,H⟩:=H;(try dsimp only at H)) | (obtain ⟨y487,hy487⟩:∃ y_:List Int,y_ = (x5_12 ++ [wrap64 (a1 + 1)]):=⟨_,rfl⟩;(try rw [← hy487] at H);(try simp only [Option.bind_some] at H)));have Ny487:=Aside0.mk hy487;clear hy487
       replace H:=sp_ H;rcases H with ⟨c19,H⟩ | ⟨c19,H⟩
       · skip
         replace H:=np_ H;obtain ⟨c20,H⟩:=H
         (first | (with_reducible replace H:=ob_ H;obtain ⟨y490,hy490,H⟩:=H;(try dsimp only at H)) | (obtain ⟨y490,hy490⟩:∃ y_:List Int,y_ = (y487 ++ [wrap64 (a1 + a0_1)]):=⟨_,rfl⟩;(try rw [← hy490] at H);(try simp only [Option.bind_some] at H)));have Ny490:=Aside0.mk hy490;clear hy490
         obtain rfl:=Option.some.inj H
         go_wp2_with (first | ((with_reducible refine gd 42 rfl (L ?_));refine apa (A:=Ax5_12) 42 S Try.underlying25 info3 ?_ (ho:=rfl) (hs:=rfl) (hx:=rfl);clear S F;intro Ay487 cy487 W S;(try rw [← Ny487.out] at S ⊢);(try rw [← Ny490.out] at S ⊢);have F:=S.fc) | ((with_reducible refine gd 54 rfl (L ?_));refine apa (A:=Ay487) 54 S Try.underlying25 info3 ?_ (ho:=rfl) (hs:=rfl) (hx:=rfl);clear S F;intro Ay490 cy490 W S;(try rw [← Ny487.out] at S ⊢);(try rw [← Ny490.out] at S ⊢);have F:=S.fc))
         go_wp2
         go_ret
         exact ⟨_,(by first | rfl | (simp [e0_,e1_] <;> rfl) | (simp [*,e0_,e1_] <;> rfl)),(by first | exact S.r | exact Kd.R_nil _ _ _ _ _),S.below⟩
       · skip
         obtain rfl:=Option.some.inj H
         go_wp2_with ((with_reducible refine gd 42 rfl (L ?_));refine apa (A:=Ax5_12) 42 S Try.underlying25 info3 ?_ (ho:=rfl) (hs:=rfl) (hx:=rfl);clear S F;intro Ay487 cy487 W S;(try rw [← Ny487.out] at S ⊢);have F:=S.fc)
         go_wp2
         go_ret
         exact ⟨_,(by first | rfl | (simp [e0_,e1_] <;> rfl) | (simp [*,e0_,e1_] <;> rfl)),(by first | exact S.r | exact Kd.R_nil _ _ _ _ _),S.below⟩
     · skip
       replace H:=sp_ H;rcases H with ⟨c28,H⟩ | ⟨c28,H⟩
       · skip
         replace H:=np_ H;obtain ⟨c29,H⟩:=H
         (first | (with_reducible replace H:=ob_ H;obtain ⟨y493,hy493,H⟩:=H;(try dsimp only at H)) | (obtain ⟨y493,hy493⟩:∃ y_:List Int,y_ = (x5_12 ++ [wrap64 (a1 + a0_1)]):=⟨_,rfl⟩;(try rw [← hy493] at H);(try simp only [Option.bind_some] at H)));have Ny493:=Aside0.mk hy493;clear hy493
         obtain rfl:=Option.some.inj H
         go_wp2_with ((with_reducible refine gd 54 rfl (L ?_));refine apa (A:=Ax5_12) 54 S Try.underlying25 info3 ?_ (ho:=rfl) (hs:=rfl) (hx:=rfl);clear S F;intro Ay493 cy493 W S;(try rw [← Ny493.out] at S ⊢);have F:=S.fc)
         go_wp2
         go_ret
         exact ⟨_,(by first | rfl | (simp [e0_,e1_] <;> rfl) | (simp [*,e0_,e1_] <;> rfl)),(by first | exact S.r | exact Kd.R_nil _ _ _ _ _),S.below⟩
       · skip
         obtain rfl:=Option.some.inj H
         go_wp2
         go_wp2
         go_ret
         exact ⟨_,(by first | rfl | (simp [e0_,e1_] <;> rfl) | (simp [*,e0_,e1_] <;> rfl)),(by first | exact S.r | exact Kd.R_nil _ _ _ _ _),S.below⟩

/-! ### impl_groupNumbers: function 164 -/
mutual
def impl_groupNumbers.l0:Nat→List Int→Int→Int→Int→Int→List (S42)→Option (List Int)
 | 0,_,_,_,_,_,_=>none
 | k + 1,x3,x17,x18,x497000,x497001,x497002=>if x18 < x17 then (if 0 ≤ x18 then (if x18 < (x3.length:Int) then (impl_groupNumbers.l0 k (x3.set (x18:Int).toNat (-1)) x17 (wrap64 (x18 + 1)) x497000 x497001 x497002) else (none)) else (none)) else (impl_groupNumbers.l1 k x3 0 x497002 (x497002.length:Int) 0 x497000 x497001 x497002)
def impl_groupNumbers.l1:Nat→List Int→Int→List (S42)→Int→Int→Int→Int→List (S42)→Option (List Int)
 | 0,_,_,_,_,_,_,_,_=>none
 | k + 1,x3,x5,x26,x27,x28,x497000,x497001,x497002=>if x28 < x27 then (if 0 ≤ x28 then (if x28 < (x26.length:Int) then ((impl_isGeared.f ((rd_T42 x26 x28).f0) ((rd_T42 x26 x28).f1)).bind fun t503=>(if t503 = true then (if x28 < (x3.length:Int) then (impl_groupNumbers.j2 k x3 x5 x28 x26 x27 x28 (decide ((rd x3 x28) ≥ 0)) x497000 x497001 x497002) else (none)) else (impl_groupNumbers.j2 k x3 x5 x28 x26 x27 x28 true x497000 x497001 x497002))) else (none)) else (none)) else (some x3)
def impl_groupNumbers.j2:Nat→List Int→Int→Int→List (S42)→Int→Int→Bool→Int→Int→List (S42)→Option (List Int)
 | 0,_,_,_,_,_,_,_,_,_,_=>none
 | k + 1,x3,x5,x6,x26,x27,x28,x42,x497000,x497001,x497002=>if x42 = true then (impl_groupNumbers.l1 k x3 x5 x26 x27 (wrap64 (x28 + 1)) x497000 x497001 x497002) else (if 0 ≤ x6 then (if x6 < (x3.length:Int) then (impl_groupNumbers.l2 k (x3.set (x6:Int).toNat x5) x5 (([x6]:List Int)) x26 x27 x28 x497000 x497001 x497002) else (none)) else (none))
def impl_groupNumbers.l2:Nat→List Int→Int→List Int→List (S42)→Int→Int→Int→Int→List (S42)→Option (List Int)
 | 0,_,_,_,_,_,_,_,_,_=>none
 | k + 1,x3,x5,x8,x26,x27,x28,x497000,x497001,x497002=>if (x8.length:Int) > 0 then (if 0 < (x8.length:Int) then (if 1 ≤ (x8.length:Int) then ((impl_besideOf.f k x497000 x497001 x497002 (rd x8 0)).bind fun t513=>(impl_groupNumbers.l3 k x3 x5 (x8.drop (1:Int).toNat) x26 x27 x28 t513 (t513.length:Int) 0 x497000 x497001 x497002)) else (none)) else (none)) else (impl_groupNumbers.l1 k x3 (wrap64 (x5 + 1)) x26 x27 (wrap64 (x28 + 1)) x497000 x497001 x497002)
def impl_groupNumbers.l3:Nat→List Int→Int→List Int→List (S42)→Int→Int→List Int→Int→Int→Int→Int→List (S42)→Option (List Int)
 | 0,_,_,_,_,_,_,_,_,_,_,_,_=>none
 | k + 1,x3,x5,x8,x26,x27,x28,x59,x60,x61,x497000,x497001,x497002=>if x61 < x60 then (if 0 ≤ x61 then (if x61 < (x59.length:Int) then (if 0 ≤ (rd x59 x61) then (if (rd x59 x61) < (x497002.length:Int) then ((impl_isGeared.f ((rd_T42 x497002 (rd x59 x61)).f0) ((rd_T42 x497002 (rd x59 x61)).f1)).bind fun t518=>(if t518 = true then (if (rd x59 x61) < (x3.length:Int) then (if (rd x3 (rd x59 x61)) < 0 then (if x8.length < 17592186044416 then (impl_groupNumbers.l3 k (x3.set ((rd x59 x61):Int).toNat x5) x5 (x8 ++ [rd x59 x61]) x26 x27 x28 x59 x60 (wrap64 (x61 + 1)) x497000 x497001 x497002) else (none)) else (impl_groupNumbers.l3 k x3 x5 x8 x26 x27 x28 x59 x60 (wrap64 (x61 + 1)) x497000 x497001 x497002)) else (none)) else (impl_groupNumbers.l3 k x3 x5 x8 x26 x27 x28 x59 x60 (wrap64 (x61 + 1)) x497000 x497001 x497002))) else (none)) else (none)) else (none)) else (none)) else (impl_groupNumbers.l2 k x3 x5 x8 x26 x27 x28 x497000 x497001 x497002)
end
def impl_groupNumbers.f (k:Nat) (a0_0:Int) (a0_1:Int) (l0_2:List (S42)):Option (List Int):=if 0 ≤ (l0_2.length:Int) then (if ((l0_2.length:Int):Int).toNat ≤ 35184372088832 then ((some (List.replicate ((l0_2.length:Int):Int).toNat 0:List Int)).bind fun y497=>(impl_groupNumbers.l0 k y497 (y497.length:Int) 0 a0_0 a0_1 l0_2)) else (none)) else (none)
theorem impl_groupNumbers.calls (k:Nat) (a0_0:Int) (a0_1:Int) (A0_2:Option Addr) (c0_2:Nat) (l0_2:List (S42)) (r:List Int) (w:World) (hr0_2:Kd.C k42 w A0_2 l0_2.length l0_2) (hc0_2:l0_2.length ≤ c0_2) (h:impl_groupNumbers.f k a0_0 a0_1 l0_2 = some r) :
  Calls Try.prog 164 #[.agg #[.int .i64 a0_0,.int .i64 a0_1,.slice A0_2 l0_2.length c0_2]] w fun e w'=>∃ v0_:Value,e = .returned (v0_)∧Kd.R (Kd.int .i64) 3 w' w.heap.size (fun _=>True) v0_ r∧Below w.heap.size w w':=by
 have HR0_2:=Aside0.mk hr0_2;have HC0_2:=Aside0.mk hc0_2;clear hr0_2 hc0_2;have HB:=Aside0.mk (Below.refl w.heap.size w);have H:(if 0 ≤ (l0_2.length:Int) then (if ((l0_2.length:Int):Int).toNat ≤ 35184372088832 then ((some (List.replicate ((l0_2.length:Int):Int).toNat 0:List Int)).bind fun y497=>(impl_groupNumbers.l0 k y497 (y497.length:Int) 0 a0_0 a0_1 l0_2)) else (none)) else (none)) = some r:=h;clear h;replace H:=np_ H;obtain ⟨c2,H⟩:=H;have c2b0:=eq_true c2;have c2b1:decide (0 ≤ (l0_2.length:Int)) = true:=decide_eq_true c2;clear c2;replace H:=np_ H;obtain ⟨c3,H⟩:=H;have c3b0:=eq_true c3;have c3b1:decide (((l0_2.length:Int):Int).toNat ≤ 35184372088832) = true:=decide_eq_true c3;clear c3;obtain ⟨y497,hy497⟩:∃ y_:List Int,y_ = (List.replicate ((l0_2.length:Int):Int).toNat 0):=⟨_,rfl⟩
 replace H:(impl_groupNumbers.l0 k y497 (y497.length:Int) 0 a0_0 a0_1 l0_2) = some r:=by first | (rw [hy497];with_reducible exact H) | (have H2_:=(Option.bind_some _ _).symm.trans H;rw [hy497];with_reducible exact H2_) | (have H2_:=(Option.bind_some _ _).symm.trans H;with_reducible exact H2_) | with_reducible exact H | (rw [hy497];exact H) | exact H
 have Ny497:=Aside0.mk hy497;clear hy497;have H':=Aside0.mk H;clear H;go_enter Try.func164,Try.ntmps164;go_wp2_with (first | ((with_reducible refine gate_dst (N:=1) rfl ?_);refine box_event ?hg (N:=1) ?hd (cs:=#[.int .i64 a0_0,.int .i64 a0_1,.slice A0_2 l0_2.length c0_2]) (t:=30) ?hr ?_;(case hd=>rfl);(case hg=>rfl);(case hr=>first | (go_simp;done) | (go_simp;rfl));intro gb496 hg w4 hbox hb;refine ev4 (bs HB hb) (hbox) (gle hg HB) (gle hg HB) ?_;clear HB;intro HB BK496 GW496 GE496;clear hb hbox hg;obtain ⟨hcz5_0,hcz5_1,hcz5_2,hfz5_0,hfz5_1,hfz5_2⟩:=bt3 BK496) | ((with_reducible refine gate_dst (N:=15) rfl ?_);refine Kd.R_make (Kd.int .i64) _ 3 rfl (N:=15) rfl 25 _ _ rfl (l0_2.length:Int) rfl rfl Try.underlying25 (.int .i64 0) 8 info3 rfl (by decide) (by omega) 0 (ok:=fun _=>True) (okp:=fun _=>True) rfl (fun _ hk=>hk) trivial (of_decide_eq_true (by first | (with_reducible assumption) | assumption)) (Nat.le_trans (Nat.mul_le_mul_right _ (of_decide_eq_true (by first | (with_reducible assumption) | assumption):(l0_2.length:Int).toNat ≤ 35184372088832)) (by omega)) (Below.refl _ _) (Nat.le_refl _) ?_;intro v498 w6 ho7 hb hg_ hnew_;clear hg_ hnew_;(first | rw [← Ny497.out] at ho7 | (simp only [Int.reduceToNat] at ho7;rw [← Ny497.out] at ho7));refine ev3 (Kd.R_lower ho7 (below_size (bm HB))) (kb BK496 hb) (bs HB hb) ?_;clear BK496 HB;intro HO499 BK496 HB;clear hb ho7;obtain ⟨Ao8,co8,eo8⟩:=Kd.R_slice HO499.out;subst eo8))
 go_loopg [18] k (fun kq v18 w'=>∃ (x3_1:List Int) (x18_1:Int),v18 = .int .i64 x18_1∧Aside0 (impl_groupNumbers.l0 kq x3_1 (y497.length:Int) x18_1 a0_0 a0_1 l0_2 = some r)∧Aside0 (kq ≤ k)∧Aside0 (Kd.R (Kd.int .i64) 3 w' w.heap.size (fun _=>True) (.slice Ao8 y497.length co8) x3_1)∧Aside0 (w'.heap[gb496]? = some (.cells #[.int .i64 a0_0,.int .i64 a0_1,(.slice A0_2 l0_2.length c0_2)] 30 (0,0)))∧Aside0 (Below w.heap.size w w'))
 case atStart=>exact ⟨(y497),(0),(by first | rfl | (simp;done) | (simp [*];done)),H',⟨Nat.le_refl _⟩,⟨Kd.R_mv HO499.out⟩,⟨km_ BK496⟩,⟨bm HB⟩⟩
 case round =>
  clear H';(try clear c1);(try clear c2);(try clear c2b0);(try clear c2b1);(try clear p2);(try clear c3);(try clear c3b0);(try clear c3b1);(try clear hcz5_0 hcz5_1 hcz5_2 hfz5_0 hfz5_1 hfz5_2);obtain ⟨x3_1,x18_1,rfl,HA,HK1,HO_3,BK496,HB⟩:=hrel;have hl3_1:=(Kd.R_reads' HO_3.out).1;rw [hl3_1] at HO_3;(try simp only [hl3_1])
  (try simp only [hl3_1] at BK496)
  cases gk with
  | zero=>exact absurd HA.out (by simp [impl_groupNumbers.l0])
  | succ k1 =>
   have H:=HA.out;clear HA;simp only [impl_groupNumbers.l0] at H;by_cases c9:x18_1 < (y497.length:Int)
   ·rw [if_pos c9] at H;have c9b0:decide (x18_1 < (y497.length:Int)) = true:=decide_eq_true c9;(try simp only [hl3_1] at c9b0)
    clear c9;replace H:=np_ H;obtain ⟨c10,H⟩:=H;have c10b0:decide (0 ≤ x18_1) = true:=decide_eq_true c10;clear c10;replace H:=np_ H;obtain ⟨c11,H⟩:=H;have c11b0:decide (x18_1 < (x3_1.length:Int)) = true:=decide_eq_true c11;(try simp only [hl3_1] at c11b0)
    clear c11;obtain ⟨y500,hy500⟩:∃ y_:List Int,y_ = (x3_1.set (x18_1:Int).toNat (-1)):=⟨_,rfl⟩
    replace H:(impl_groupNumbers.l0 k1 y500 (y497.length:Int) (wrap64 (x18_1 + 1)) a0_0 a0_1 l0_2) = some r:=by first | (rw [hy500];with_reducible exact H) | (have H2_:=(Option.bind_some _ _).symm.trans H;rw [hy500];with_reducible exact H2_) | (have H2_:=(Option.bind_some _ _).symm.trans H;with_reducible exact H2_) | with_reducible exact H | (rw [hy500];exact H) | exact H
    have Ny500:=Aside0.mk hy500;clear hy500;have H':=Aside0.mk H;clear H;have p12:0 ≤ (x18_1:Int):=of_decide_eq_true (by first | (with_reducible assumption) | assumption);have q12:(x18_1:Int) < ((x3_1.length:Int):Int):=of_decide_eq_true (by first | (with_reducible assumption) | assumption);obtain ⟨go12,co12,eo12,gb12,gl12,cl12,HG12⟩:=Kd.R_form HO_3.out (by omega);(first | cases eo12 | (injection eo12 with ea_ en_ ec_;(first | subst ea_ | (injection ea_ with ea_;subst ea_));subst ec_;clear en_))
    have GB12:=Aside0.mk gb12;have GG12:=Aside0.mk HG12;clear gb12 gl12 HG12;obtain ⟨hx12_0,hf12_0⟩:=Kd.R_celln 0 HO_3.out (x18_1:Int) p12 q12;replace p12:=eq_true p12;replace q12:=eq_true q12;have HP13:=Kd.R_putg HO_3.out (x18_1:Int) (-1);go_wp2_with (first | ((with_reducible refine gate_store (t:=3) (p:=23) rfl ?_);refine store_event (t:=3) (p:=23) (v:=?vo_w14) (w1:=(wr.setCell ⟨go12,(x18_1:Int).toNat,none⟩ (.int .i64 (-1)))) ?hg ?ho ?hn ?hr ?_;(case ho=>rfl);(case hg=>rfl);(case hn=>rfl);(case hr=>first | (go_simp;done) | (go_simp;rfl));intro w14 hw;have hg:wr.grownBy w14 (some go12):=(by rw [hw];exact HP13.2);have hp_:Kd.R (Kd.int .i64) 3 w14 w.heap.size (fun _=>True) (.slice (some ⟨go12,0,none⟩) x3_1.length co8) y500:=(by rw [hw,Ny500.out];exact HP13.1);clear HP13;refine ev3 (hp_) (blk_grown (km_ BK496) hg (Kd.R_ne HO_3.out BK496.out (by decide))) ((by rw [hw];exact below_set (HB.out) GB12.out:Below w.heap.size w w14)) ?_;clear HO_3 BK496 HB;intro HO_3 BK496 HB;clear hg hw hp_))
    (try simp only [← hl3_1])
    go_roundg k1
    case measure=>have:=HK1.out;omega
    case rel=>exact ⟨(y500),(wrap64 (x18_1 + 1)),(by first | rfl | (simp;done) | (simp [*];done)),H',⟨by have:=HK1.out;omega⟩,⟨by (try simp only [hl3_1]);exact Kd.R_mv HO_3.out⟩,⟨by (try simp only [hl3_1]);exact km_ BK496⟩,⟨bm HB⟩⟩
   ·rw [if_neg c9] at H;have c9b0:decide (x18_1 < (y497.length:Int)) = false:=decide_eq_false c9;(try simp only [hl3_1] at c9b0)
    clear c9;have H':=Aside0.mk H;clear H;obtain ⟨hcz15_0,hcz15_1,hcz15_2,hfz15_0,hfz15_1,hfz15_2⟩:=bt3 BK496;go_wp2;go_loopg [5,28] k1 (fun kq v5 v28 w'=>∃ (x3_2:List Int) (x5_2:Int) (x28_2:Int),v5 = .int .i64 x5_2∧v28 = .int .i64 x28_2∧Aside0 (impl_groupNumbers.l1 kq x3_2 x5_2 l0_2 (l0_2.length:Int) x28_2 a0_0 a0_1 l0_2 = some r)∧Aside0 (kq ≤ k1)∧Aside0 (Kd.R (Kd.int .i64) 3 w' w.heap.size (fun _=>True) (.slice Ao8 x3_1.length co8) x3_2)∧Aside0 (w'.heap[gb496]? = some (.cells #[.int .i64 a0_0,.int .i64 a0_1,(.slice A0_2 l0_2.length c0_2)] 30 (0,0)))∧Aside0 (Below w.heap.size w w'))
    case atStart=>exact ⟨(x3_1),(0),(0),(by first | rfl | (simp;done) | (simp [*];done)),(by first | rfl | (simp;done) | (simp [*];done)),H',⟨Nat.le_refl _⟩,⟨by (try simp only [hl3_1]);exact Kd.R_mv HO_3.out⟩,⟨by (try simp only [hl3_1]);exact km_ BK496⟩,⟨bm HB⟩⟩
    case round =>
     clear H';(try clear c1);(try clear c2);(try clear c2b0);(try clear c2b1);(try clear p2);(try clear c3);(try clear c3b0);(try clear c3b1);(try clear c9);(try clear c9b0);(try clear hcz15_0 hcz15_1 hcz15_2 hfz15_0 hfz15_1 hfz15_2);(try clear hcz5_0 hcz5_1 hcz5_2 hfz5_0 hfz5_1 hfz5_2);(try clear p2);obtain ⟨x3_2,x5_2,x28_2,rfl,rfl,HA,HK2,HO_3,BK496,HB⟩:=hrel;have hl3_2:=(Kd.R_reads' HO_3.out).1;rw [hl3_2] at HO_3;(try simp only [hl3_2])
     (try simp only [hl3_2] at BK496)
     cases gk with
     | zero=>exact absurd HA.out (by simp [impl_groupNumbers.l1])
     | succ k2 =>
      have H:=HA.out;clear HA;simp only [impl_groupNumbers.l1] at H;by_cases c16:x28_2 < (l0_2.length:Int)
      ·rw [if_pos c16] at H;have c16b0:decide (x28_2 < (l0_2.length:Int)) = true:=decide_eq_true c16;(try simp only [hl3_1] at c16b0)
       (try simp only [hl3_2] at c16b0)
       clear c16;replace H:=np_ H;obtain ⟨c17,H⟩:=H;have c17b0:decide (0 ≤ x28_2) = true:=decide_eq_true c17;clear c17;replace H:=np_ H;obtain ⟨c18,H⟩:=H;have c18b0:decide (x28_2 < (l0_2.length:Int)) = true:=decide_eq_true c18;(try simp only [hl3_1] at c18b0)
       (try simp only [hl3_2] at c18b0)
       clear c18;have HC19:=Aside0.mk H;clear H;have p501:0 ≤ (x28_2:Int):=of_decide_eq_true (by first | (with_reducible assumption) | assumption);have q501:x28_2 < (l0_2.length:Int):=of_decide_eq_true (by first | (with_reducible assumption) | assumption);obtain ⟨ad501,e501,hx501_0,hx501_1⟩:=at_T42 HR0_2.out x28_2 p501 q501;cases e501;replace hx501_0:=(HB.out.cell (World.block_lt_of_cell? w _ hx501_0)).trans hx501_0;replace hx501_1:=(HB.out.cell (World.block_lt_of_cell? w _ hx501_1)).trans hx501_1;replace p501:=eq_true p501;replace q501:=eq_true q501;go_upto_region 11 with (first | ((with_reducible refine gate_dst (N:=7) rfl ?_);refine box_event ?hg (N:=7) ?hd (cs:=#[.int .i64 0,.int .i64 0]) (t:=42) ?hr ?_;(case hd=>rfl);(case hg=>rfl);(case hr=>first | (go_simp;done) | (go_simp;rfl));intro gb502 hg w20 hbox hb;refine ev8 (Kd.R_below (Kd.R_mv HO_3.out) hb) (kb BK496 hb) (bs HB hb) (hbox) (gle hg HB) (gle hg HB) (gnf hg BK496) (gne hg BK496) ?_;clear HO_3 BK496 HB;intro HO_3 BK496 HB BK502 GW502 GE502 NB496_502 NB502_496;clear hb hbox hg;have hnb21:=NB502_496.out;have hnc21:=NB496_502.out;obtain ⟨hcz22_0,hcz22_1,hfz22_0,hfz22_1⟩:=bt2 BK502))
       (try simp only [Act.put,za_,zb_,zc_])
       go_cut [42] (fun v42 wc=>∃ (kq:Nat) (x42_18:Bool),v42 = .bool x42_18∧Aside0 (impl_groupNumbers.j2 kq x3_2 x5_2 x28_2 l0_2 (l0_2.length:Int) x28_2 x42_18 a0_0 a0_1 l0_2 = some r)∧Aside0 (kq ≤ k2)∧Aside0 (Kd.R (Kd.int .i64) 3 wc w.heap.size (fun _=>True) (.slice Ao8 x3_2.length co8) x3_2)∧Aside0 (wc.heap[gb496]? = some (.cells #[.int .i64 a0_0,.int .i64 a0_1,(.slice (some ad501) l0_2.length c0_2)] 30 (0,0)))∧Aside0 (wc.heap[gb502]? = some (.cells #[.int .i64 ((rd_T42 l0_2 x28_2).f0),.int .i64 ((rd_T42 l0_2 x28_2).f1)] 42 (0,0)))∧Aside0 (Below w.heap.size w wc))
       case first =>
        have H:=HC19.out;clear HC19;replace H:=Option.bind_eq_some_iff.mp H;obtain ⟨t503,A230,H⟩:=H;(try dsimp only at H)
        have A23:=Aside0.mk A230;clear A230;by_cases c24:t503 = true
        ·subst c24;have H1:(if x28_2 < (x3_2.length:Int) then (impl_groupNumbers.j2 k2 x3_2 x5_2 x28_2 l0_2 (l0_2.length:Int) x28_2 (decide ((rd x3_2 x28_2) ≥ 0)) a0_0 a0_1 l0_2) else (none)) = some r:=by rw [if_pos rfl] at H;exact H
         clear H;have H:=H1;clear H1;replace H:=np_ H;obtain ⟨c25,H⟩:=H;have c25b0:decide (x28_2 < (x3_2.length:Int)) = true:=decide_eq_true c25;(try simp only [hl3_1] at c25b0)
         (try simp only [hl3_2] at c25b0)
         clear c25;(first | rw [c25b0] | (simp only [i64_w,i32_w];rw [c25b0]) | skip)
         have H':=Aside0.mk H;clear H;have hnb26:=NB502_496.out;have hnc26:=NB496_502.out;obtain ⟨hcz27_0,hcz27_1,hfz27_0,hfz27_1⟩:=bt2 BK502;go_wp2_with (first | ((with_reducible refine gate_callee (f:=206) rfl ?_);refine gL_ (some 34) Try.func206 #[.agg #[.int .i64 ((rd_T42 l0_2 x28_2).f0),.int .i64 ((rd_T42 l0_2 x28_2).f1)]] (h:=?_);(with_reducible refine (impl_isGeared.calls ((rd_T42 l0_2 x28_2).f0) ((rd_T42 l0_2 x28_2).f1) true _ A23.out).mono ?_);rintro e w28 ⟨rfl,hb⟩;refine ⟨_,rfl,?_⟩;refine ev4 (Kd.R_below (Kd.R_ft HO_3.out BK502.out (by decide)) hb) (blk_below (g:=gb496) (o:=.cells #[.int .i64 a0_0,.int .i64 a0_1,.slice (some ad501) l0_2.length c0_2] 30 (0,0)) (fp BK496 rfl) hb) (blk_below (g:=gb502) (o:=.cells #[.int .i64 ((rd_T42 l0_2 x28_2).f0),.int .i64 ((rd_T42 l0_2 x28_2).f1)] 42 (0,0)) (fp BK502 rfl) hb) (bs HB hb) ?_;clear HO_3 BK496 BK502 HB;intro HO_3 BK496 BK502 HB;(try clear hb);have p504:0 ≤ (x28_2:Int):=of_decide_eq_true (by first | (with_reducible assumption) | assumption);have q504:x28_2 < (x3_2.length:Int):=of_decide_eq_true (by first | (with_reducible assumption) | assumption);obtain ⟨ad504,e504,hx504_0⟩:=Kd.at_int (Kd.R_reads' HO_3.out).2.2 x28_2 p504 q504;cases e504;replace p504:=eq_true p504;replace q504:=eq_true q504))
         go_meet
         case rel=>exact ⟨_,(decide ((rd x3_2 x28_2) ≥ 0)),(by first | rfl | (simp;done) | (simp [*];done)),H',⟨by have:=HK1.out;have:=HK2.out;first | omega | exact Nat.le_refl _⟩,⟨by (try simp only [hl3_1]);(try simp only [hl3_2]);exact Kd.R_mv HO_3.out⟩,⟨by (try simp only [hl3_1]);(try simp only [hl3_2]);exact km_ BK496⟩,⟨by (try simp only [hl3_1]);(try simp only [hl3_2]);exact km_ BK502⟩,⟨bm HB⟩⟩
        ·replace c24:=Bool.eq_false_iff.mpr c24;subst c24;have H1:(impl_groupNumbers.j2 k2 x3_2 x5_2 x28_2 l0_2 (l0_2.length:Int) x28_2 true a0_0 a0_1 l0_2) = some r:=by rw [if_neg (show ¬ (false = true) by decide)] at H;exact H
         clear H;have H:=H1;clear H1;have H':=Aside0.mk H;clear H;have hnb29:=NB502_496.out;have hnc29:=NB496_502.out;obtain ⟨hcz30_0,hcz30_1,hfz30_0,hfz30_1⟩:=bt2 BK502;go_wp2_with (first | ((with_reducible refine gate_callee (f:=206) rfl ?_);refine gL_ (some 34) Try.func206 #[.agg #[.int .i64 ((rd_T42 l0_2 x28_2).f0),.int .i64 ((rd_T42 l0_2 x28_2).f1)]] (h:=?_);(with_reducible refine (impl_isGeared.calls ((rd_T42 l0_2 x28_2).f0) ((rd_T42 l0_2 x28_2).f1) false _ A23.out).mono ?_);rintro e w31 ⟨rfl,hb⟩;refine ⟨_,rfl,?_⟩;refine ev4 (Kd.R_below (Kd.R_ft HO_3.out BK502.out (by decide)) hb) (blk_below (g:=gb496) (o:=.cells #[.int .i64 a0_0,.int .i64 a0_1,.slice (some ad501) l0_2.length c0_2] 30 (0,0)) (fp BK496 rfl) hb) (blk_below (g:=gb502) (o:=.cells #[.int .i64 ((rd_T42 l0_2 x28_2).f0),.int .i64 ((rd_T42 l0_2 x28_2).f1)] 42 (0,0)) (fp BK502 rfl) hb) (bs HB hb) ?_;clear HO_3 BK496 BK502 HB;intro HO_3 BK496 BK502 HB;(try clear hb)))
         go_meet
         case rel=>exact ⟨_,(true),(by first | rfl | (simp;done) | (simp [*];done)),H',⟨by have:=HK1.out;have:=HK2.out;first | omega | exact Nat.le_refl _⟩,⟨by (try simp only [hl3_1]);(try simp only [hl3_2]);exact Kd.R_mv HO_3.out⟩,⟨by (try simp only [hl3_1]);(try simp only [hl3_2]);exact km_ BK496⟩,⟨by (try simp only [hl3_1]);(try simp only [hl3_2]);exact km_ BK502⟩,⟨bm HB⟩⟩
       case rest =>
        clear HC19;(try clear c1);(try clear c2);(try clear c2b0);(try clear c2b1);(try clear p2);(try clear c3);(try clear c3b0);(try clear c3b1);(try clear p5);(try clear q5);(try clear hx5);(try clear c9);(try clear c9b0);(try clear c16);(try clear c16b0);(try clear c17);(try clear c17b0);(try clear c18);(try clear c18b0);(try clear c21);(try clear hcz15_0 hcz15_1 hcz15_2 hfz15_0 hfz15_1 hfz15_2);(try clear hcz22_0 hcz22_1 hfz22_0 hfz22_1);(try clear hcz5_0 hcz5_1 hcz5_2 hfz5_0 hfz5_1 hfz5_2);(try clear hx501_0);(try clear hx501_1);(try clear p2);(try clear p501);(try clear q501);obtain ⟨kq,x42_18,rfl,HA,HJ18,HO_3,BK496,BK502,HB⟩:=hcut;cases kq with
        | zero=>exact absurd HA.out (by simp [impl_groupNumbers.j2])
        | succ kj18 =>
         have H:=HA.out;clear HA;simp only [impl_groupNumbers.j2] at H;by_cases c32:x42_18 = true
         ·subst c32;have H1:(impl_groupNumbers.l1 kj18 x3_2 x5_2 l0_2 (l0_2.length:Int) (wrap64 (x28_2 + 1)) a0_0 a0_1 l0_2) = some r:=by rw [if_pos rfl] at H;exact H
          clear H;have H:=H1;clear H1;have H':=Aside0.mk H;clear H;go_wp2;(try simp only [← hl3_2])
          go_roundg kj18
          case measure=>have:=HK1.out;have:=HK2.out;have:=HJ18.out;omega
          case rel=>exact ⟨(x3_2),(x5_2),(wrap64 (x28_2 + 1)),(by first | rfl | (simp;done) | (simp [*];done)),(by first | rfl | (simp;done) | (simp [*];done)),H',⟨by have:=HK1.out;have:=HK2.out;have:=HJ18.out;omega⟩,⟨by (try simp only [hl3_1]);(try simp only [hl3_2]);exact Kd.R_mv HO_3.out⟩,⟨by (try simp only [hl3_1]);(try simp only [hl3_2]);exact km_ BK496⟩,⟨bm HB⟩⟩
         ·replace c32:=Bool.eq_false_iff.mpr c32;subst c32;have H1:(if 0 ≤ x28_2 then (if x28_2 < (x3_2.length:Int) then (impl_groupNumbers.l2 kj18 (x3_2.set (x28_2:Int).toNat x5_2) x5_2 (([x28_2]:List Int)) l0_2 (l0_2.length:Int) x28_2 a0_0 a0_1 l0_2) else (none)) else (none)) = some r:=by rw [if_neg (show ¬ (false = true) by decide)] at H;exact H
          clear H;have H:=H1;clear H1;replace H:=np_ H;obtain ⟨c33,H⟩:=H;have c33b0:decide (0 ≤ x28_2) = true:=decide_eq_true c33;clear c33;replace H:=np_ H;obtain ⟨c34,H⟩:=H;have c34b0:decide (x28_2 < (x3_2.length:Int)) = true:=decide_eq_true c34;(try simp only [hl3_1] at c34b0)
          (try simp only [hl3_2] at c34b0)
          clear c34;obtain ⟨y505,hy505⟩:∃ y_:List Int,y_ = (x3_2.set (x28_2:Int).toNat x5_2):=⟨_,rfl⟩
          replace H:(impl_groupNumbers.l2 kj18 y505 x5_2 (([x28_2]:List Int)) l0_2 (l0_2.length:Int) x28_2 a0_0 a0_1 l0_2) = some r:=by first | (rw [hy505];with_reducible exact H) | (have H2_:=(Option.bind_some _ _).symm.trans H;rw [hy505];with_reducible exact H2_) | (have H2_:=(Option.bind_some _ _).symm.trans H;with_reducible exact H2_) | with_reducible exact H | (rw [hy505];exact H) | exact H
          have Ny505:=Aside0.mk hy505;clear hy505;obtain ⟨y506,hy506⟩:∃ y_:List Int,y_ = (([x28_2]:List Int)):=⟨_,rfl⟩
          replace H:(impl_groupNumbers.l2 kj18 y505 x5_2 y506 l0_2 (l0_2.length:Int) x28_2 a0_0 a0_1 l0_2) = some r:=by first | (rw [hy506];with_reducible exact H) | (have H2_:=(Option.bind_some _ _).symm.trans H;rw [hy506];with_reducible exact H2_) | (have H2_:=(Option.bind_some _ _).symm.trans H;with_reducible exact H2_) | with_reducible exact H | (rw [hy506];exact H) | exact H
          have Ny506:=Aside0.mk hy506;clear hy506;have H':=Aside0.mk H;clear H;have p35:0 ≤ (x28_2:Int):=of_decide_eq_true (by first | (with_reducible assumption) | assumption);have q35:(x28_2:Int) < ((x3_2.length:Int):Int):=of_decide_eq_true (by first | (with_reducible assumption) | assumption);obtain ⟨go35,co35,eo35,gb35,gl35,cl35,HG35⟩:=Kd.R_form HO_3.out (by omega);(first | cases eo35 | (injection eo35 with ea_ en_ ec_;(first | subst ea_ | (injection ea_ with ea_;subst ea_));subst ec_;clear en_))
          have GB35:=Aside0.mk gb35;have GG35:=Aside0.mk HG35;clear gb35 gl35 HG35;obtain ⟨hx35_0,hf35_0⟩:=Kd.R_celln 0 HO_3.out (x28_2:Int) p35 q35;replace p35:=eq_true p35;replace q35:=eq_true q35;have HP36:=Kd.R_putg HO_3.out (x28_2:Int) x5_2;go_wp2_with (first | ((with_reducible refine gate_store (t:=3) (p:=46) rfl ?_);refine store_event (t:=3) (p:=46) (v:=?vo_w37) (w1:=(wc.setCell ⟨go35,(x28_2:Int).toNat,none⟩ (.int .i64 x5_2))) ?hg ?ho ?hn ?hr ?_;(case ho=>rfl);(case hg=>rfl);(case hn=>rfl);(case hr=>first | (go_simp;done) | (go_simp;rfl));intro w37 hw;have hg:wc.grownBy w37 (some go35):=(by rw [hw];exact HP36.2);have hp_:Kd.R (Kd.int .i64) 3 w37 w.heap.size (fun _=>True) (.slice (some ⟨go35,0,none⟩) x3_2.length co8) y505:=(by rw [hw,Ny505.out];exact HP36.1);clear HP36;refine ev4 (hp_) (blk_grown (km_ BK496) hg (Kd.R_ne HO_3.out BK496.out (by decide))) (blk_grown (km_ BK502) hg (Kd.R_ne HO_3.out BK502.out (by decide))) ((by rw [hw];exact below_set (HB.out) GB35.out:Below w.heap.size w w37)) ?_;clear HO_3 BK496 BK502 HB;intro HO_3 BK496 BK502 HB;clear hg hw hp_) | ((with_reducible refine gate_dst (N:=48) rfl ?_);refine Kd.R_lit (Kd.int .i64) _ 3 ?hg (N:=48) ?hd (xs:=([x28_2]:List Int)) (inner:=[.int .i64 x28_2]) (ok:=fun _=>True) (okp:=fun _=>True) ?hr ?hp (fun _ hk=>hk) trivial (Below.refl _ _) (Nat.le_refl _) (by simp) ?_;(case hd=>rfl);(case hg=>rfl);(case hr=>first | (go_simp;done) | (go_simp;rfl));(case hp=>exact (Reps.one (show Kd.M (Kd.int .i64) _ _ _ x28_2 [.int .i64 x28_2] from rfl) (Reps.none _ _)));intro v507 w38 ho39 hb hg_ hnew_;clear hg_ hnew_;(first | rw [← Ny506.out] at ho39 | (simp only [Int.reduceToNat] at ho39;rw [← Ny506.out] at ho39));refine ev5 (Kd.R_elder' (Kd.R_mv HO_3.out) (Kd.R_base ho39) hb) (Kd.R_lower (Kd.R_new' ho39 (Kd.R_lt (Kd.R_mv HO_3.out))) (below_size (bm HB))) (kb BK496 hb) (kb BK502 hb) (bs HB hb) ?_;clear HO_3 BK496 BK502 HB;intro HO_3 HO508 BK496 BK502 HB;clear hb ho39))
          go_loopg [8] kj18 (fun kq v8 w'=>∃ (x3_4:List Int) (x8_4:List Int),Aside0 (impl_groupNumbers.l2 kq x3_4 x5_2 x8_4 l0_2 (l0_2.length:Int) x28_2 a0_0 a0_1 l0_2 = some r)∧Aside0 (kq ≤ kj18)∧Aside0 (Kd.R (Kd.int .i64) 3 w' w.heap.size (fun k_=>some k_ ≠ (v8:Value).ownBlock) (.slice (some ⟨go35,0,none⟩) x3_2.length co8) x3_4)∧Aside0 (Kd.Q (Kd.int .i64) 3 w' w.heap.size (fun k_=>some k_ ≠ ((.slice (some ⟨go35,0,none⟩) x3_2.length co8):Value).ownBlock) v8 x8_4)∧Aside0 (w'.heap[gb496]? = some (.cells #[.int .i64 a0_0,.int .i64 a0_1,(.slice (some ad501) l0_2.length c0_2)] 30 (0,0)))∧Aside0 (w'.heap[gb502]? = some (.cells #[.int .i64 ((rd_T42 l0_2 x28_2).f0),.int .i64 ((rd_T42 l0_2 x28_2).f1)] 42 (0,0)))∧Aside0 (Below w.heap.size w w'))
          case atStart=>exact ⟨(y505),(y506),H',⟨Nat.le_refl _⟩,⟨by (try simp only [hl3_1]);(try simp only [hl3_2]);exact Kd.R_mv (Kd.R_mono HO_3.out (fun _ hk=>hk.2))⟩,⟨Kd.Q_of_R (by (try simp only [hl3_1]);(try simp only [hl3_2]);exact Kd.R_mv (Kd.R_mono HO508.out (fun _ hk=>hk.2)))⟩,⟨by (try simp only [hl3_1]);(try simp only [hl3_2]);exact km_ BK496⟩,⟨by (try simp only [hl3_1]);(try simp only [hl3_2]);exact km_ BK502⟩,⟨bm HB⟩⟩
          case round =>
           clear H';(try clear c1);(try clear c2);(try clear c2b0);(try clear c2b1);(try clear p2);(try clear c3);(try clear c3b0);(try clear c3b1);(try clear p3);(try clear q3);(try clear hx3);(try clear hf3);(try clear p5);(try clear q5);(try clear hx5);(try clear c9);(try clear c9b0);(try clear c16);(try clear c16b0);(try clear c17);(try clear c17b0);(try clear c18);(try clear c18b0);(try clear c21);(try clear c32);(try clear c33);(try clear c33b0);(try clear c34);(try clear c34b0);(try clear p35);(try clear q35);(try clear hx35);(try clear hf35);(try clear hcz15_0 hcz15_1 hcz15_2 hfz15_0 hfz15_1 hfz15_2);(try clear hcz22_0 hcz22_1 hfz22_0 hfz22_1);(try clear hcz5_0 hcz5_1 hcz5_2 hfz5_0 hfz5_1 hfz5_2);(try clear hx35_0);(try clear hx501_0);(try clear hx501_1);(try clear p2);(try clear p35);(try clear p5);(try clear p501);(try clear q35);(try clear q5);(try clear q501);obtain ⟨x3_4,x8_4,HA,HK4,HO_3,HO_8,BK496,BK502,HB⟩:=hrel;have hl3_4:=(Kd.R_reads' HO_3.out).1;rw [hl3_4] at HO_3;(try simp only [hl3_4])
           (try simp only [hl3_4] at BK496)
           (try simp only [hl3_4] at BK502)
           (try simp only [hl3_4] at HO_8)
           cases gk with
           | zero=>exact absurd HA.out (by simp [impl_groupNumbers.l2])
           | succ k4 =>
            have H:=HA.out;clear HA;simp only [impl_groupNumbers.l2] at H;by_cases c40:(x8_4.length:Int) > 0
            ·rw [if_pos c40] at H;have c40b0:decide (0 < (x8_4.length:Int)) = true:=decide_eq_true c40;have c40b1:decide (0 < x8_4.length) = true:=decide_eq_true (by omega);(try simp only [hl3_1] at c40b0 c40b1)
             (try simp only [hl3_2] at c40b0 c40b1)
             (try simp only [hl3_4] at c40b0 c40b1)
             clear c40;replace H:=np_ H;obtain ⟨c41,H⟩:=H;have c41b0:decide (0 < (x8_4.length:Int)) = true:=decide_eq_true c41;have c41b1:decide (0 < x8_4.length) = true:=decide_eq_true (by omega);(try simp only [hl3_1] at c41b0 c41b1)
             (try simp only [hl3_2] at c41b0 c41b1)
             (try simp only [hl3_4] at c41b0 c41b1)
             clear c41;replace H:=np_ H;obtain ⟨c42,H⟩:=H;have c42b0:=eq_true c42;have c42b1:decide (1 ≤ (x8_4.length:Int)) = true:=decide_eq_true c42;clear c42;obtain ⟨y510,hy510⟩:∃ y_:List Int,y_ = (x8_4.drop (1:Int).toNat):=⟨_,rfl⟩
             replace H:((impl_besideOf.f k4 a0_0 a0_1 l0_2 (rd x8_4 0)).bind fun t513=>(impl_groupNumbers.l3 k4 x3_4 x5_2 y510 l0_2 (l0_2.length:Int) x28_2 t513 (t513.length:Int) 0 a0_0 a0_1 l0_2)) = some r:=by first | (rw [hy510];with_reducible exact H) | (have H2_:=(Option.bind_some _ _).symm.trans H;rw [hy510];with_reducible exact H2_) | (have H2_:=(Option.bind_some _ _).symm.trans H;with_reducible exact H2_) | with_reducible exact H | (rw [hy510];exact H) | exact H
             have Ny510:=Aside0.mk hy510;clear hy510;replace H:=Option.bind_eq_some_iff.mp H;obtain ⟨t513,A430,H⟩:=H;(try dsimp only at H)
             have A43:=Aside0.mk A430;clear A430;have H':=Aside0.mk H;clear H;obtain ⟨Ao44,co44,eo44,_⟩:=Kd.Q_slice HO_8.out;subst eo44;have p509:0 ≤ (0:Int):=(by omega)
             have q509:0 < (x8_4.length:Int):=of_decide_eq_true (by first | (with_reducible assumption) | assumption);obtain ⟨ad509,e509,hx509_0⟩:=Kd.at_int (Kd.Q_reads' HO_8.out).2.2 0 p509 q509;cases e509;have qi509:(0 < x8_4.length) = True:=eq_true (by omega);(try rw [show ((0:Int)).toNat = 0 from rfl] at hx509_0)
             (try rw [Addr.add_zero'] at hx509_0)
             replace p509:=eq_true p509;replace q509:=eq_true q509;have q45:(1:Int) ≤ ((x8_4.length:Int):Int):=of_decide_eq_true (by first | (with_reducible assumption) | assumption);obtain ⟨i045,hi045,_,hsz45,_⟩:=info_parts info3;have hcut45:=cut_from (P:=Try.prog) 25 3 .i64 Try.underlying25 hi045 1 hsz45 (some ad509) x8_4.length co44 1 (by omega) q45;have hr45:=Kd.Q_drop (k:=(1:Int).toNat) HO_8.out (by omega);obtain ⟨A45,hA45⟩:∃ A1,A1 = (if co44 = (1:Int).toNat then (some ad509) else ((some ad509):Option Addr).map (·.add ((1:Int).toNat * 1))):=⟨_,rfl⟩
             obtain ⟨c45,hc45⟩:∃ c1,c1 = co44 - (1:Int).toNat:=⟨_,rfl⟩
             have hy45:y510.length = x8_4.length - (1:Int).toNat:=(by rw [Ny510.out,List.length_drop])
             rw [← Ny510.out] at hr45;rw [← hy45,← hA45,← hc45] at hcut45;replace hr45:Kd.Q (Kd.int .i64) 3 wr w.heap.size (fun k_=>some k_ ≠ (.slice (some ⟨go35,0,none⟩) x3_4.length co8:Value).ownBlock) (.slice A45 y510.length c45) y510:=(by rw [hA45,hc45,hy45];exact hr45)
             have HE45:Aside0 ((Value.slice A45 y510.length c45).ownBlock = (.slice (some ad509) x8_4.length co44:Value).ownBlock):=⟨by rw [hA45];split <;> (cases ((some ad509):Option Addr) <;> rfl)⟩
             clear hy45 hi045 hsz45 HO_8 hA45 hc45;have HO512:=Aside0.mk hr45;clear hr45;replace q45:=eq_true q45;have n_:=Aside0.mk (Kd.R_mono (ok':=fun k_=>some k_ ≠ (.slice A45 y510.length c45:Value).ownBlock) HO_3.out (fun k_ hk=>(by rw [HE45.out];exact hk)));clear HO_3;have HO_3:=n_;clear n_;have hnb46:=NB496_502.out;have hnc46:=NB502_496.out;obtain ⟨hcz47_0,hcz47_1,hcz47_2,hfz47_0,hfz47_1,hfz47_2⟩:=bt3 BK496;go_wp2_with (first | ((with_reducible refine gate_callee (f:=207) rfl ?_);refine gL_ (some 59) Try.func207 #[.agg #[.int .i64 a0_0,.int .i64 a0_1,.slice (some ad501) l0_2.length c0_2],.int .i64 (rd x8_4 0)] (h:=?_);(with_reducible refine (impl_besideOf.calls k4 a0_0 a0_1 _ _ l0_2 (rd x8_4 0) t513 _ (Kd.C_mv (Kd.C_below HR0_2.out HB.out)) HC0_2.out A43.out).mono ?_);rintro e w48 ⟨v514,rfl,ho0,hb⟩;refine ⟨_,rfl,?_⟩;refine ev6 (Kd.R_elder' (Kd.R_mv HO_3.out) (Kd.R_base ho0) hb) (Kd.Q_elder' (Kd.Q_mv HO512.out) (Kd.R_base ho0) hb) (Kd.R_lower (Kd.R_new' (Kd.R_new' ho0 (Kd.R_lt (Kd.R_mv HO_3.out))) (Kd.Q_lt (Kd.Q_mv HO512.out))) (below_size (bm HB))) (kb BK496 hb) (kb BK502 hb) (bs HB hb) ?_;clear HO_3 HO512 BK496 BK502 HB;intro HO_3 HO512 HO515 BK496 BK502 HB;(try clear hb);(try clear ho0);obtain ⟨Ao49,co49,eo49⟩:=Kd.R_slice HO515.out;subst eo49))
             go_loopg [8,61] k4 (fun kq v8 v61 w'=>∃ (x3_5:List Int) (x8_5:List Int) (x61_5:Int),v61 = .int .i64 x61_5∧Aside0 (impl_groupNumbers.l3 kq x3_5 x5_2 x8_5 l0_2 (l0_2.length:Int) x28_2 t513 (t513.length:Int) x61_5 a0_0 a0_1 l0_2 = some r)∧Aside0 (kq ≤ k4)∧Aside0 (Kd.R (Kd.int .i64) 3 w' w.heap.size (fun k_=>some k_ ≠ (v8:Value).ownBlock∧some k_ ≠ ((.slice Ao49 t513.length co49):Value).ownBlock) (.slice (some ⟨go35,0,none⟩) x3_4.length co8) x3_5)∧Aside0 (Kd.Q (Kd.int .i64) 3 w' w.heap.size (fun k_=>some k_ ≠ ((.slice (some ⟨go35,0,none⟩) x3_4.length co8):Value).ownBlock∧some k_ ≠ ((.slice Ao49 t513.length co49):Value).ownBlock) v8 x8_5)∧Aside0 (Kd.R (Kd.int .i64) 3 w' w.heap.size (fun k_=>some k_ ≠ ((.slice (some ⟨go35,0,none⟩) x3_4.length co8):Value).ownBlock∧some k_ ≠ (v8:Value).ownBlock) (.slice Ao49 t513.length co49) t513)∧Aside0 (w'.heap[gb496]? = some (.cells #[.int .i64 a0_0,.int .i64 a0_1,(.slice (some ad501) l0_2.length c0_2)] 30 (0,0)))∧Aside0 (w'.heap[gb502]? = some (.cells #[.int .i64 ((rd_T42 l0_2 x28_2).f0),.int .i64 ((rd_T42 l0_2 x28_2).f1)] 42 (0,0)))∧Aside0 (Below w.heap.size w w'))
             case atStart=>exact ⟨(x3_4),(y510),(0),(by first | rfl | (simp;done) | (simp [*];done)),H',⟨Nat.le_refl _⟩,⟨by (try simp only [hl3_1]);(try simp only [hl3_2]);(try simp only [hl3_4]);exact Kd.R_mv HO_3.out⟩,⟨by (try simp only [hl3_1]);(try simp only [hl3_2]);(try simp only [hl3_4]);exact Kd.Q_mv HO512.out⟩,⟨by (try simp only [hl3_1]);(try simp only [hl3_2]);(try simp only [hl3_4]);exact Kd.R_mv (Kd.R_mono HO515.out (fun _ hk=>⟨hk.1.2,hk.2⟩))⟩,⟨by (try simp only [hl3_1]);(try simp only [hl3_2]);(try simp only [hl3_4]);exact km_ BK496⟩,⟨by (try simp only [hl3_1]);(try simp only [hl3_2]);(try simp only [hl3_4]);exact km_ BK502⟩,⟨bm HB⟩⟩
             case round =>
              clear H';(try clear c1);(try clear c2);(try clear c2b0);(try clear c2b1);(try clear p2);(try clear c3);(try clear c3b0);(try clear c3b1);(try clear p3);(try clear q3);(try clear hx3);(try clear hf3);(try clear c4);(try clear q4);(try clear p5);(try clear q5);(try clear hx5);(try clear qi5);(try clear c9);(try clear c9b0);(try clear c16);(try clear c16b0);(try clear c17);(try clear c17b0);(try clear c18);(try clear c18b0);(try clear c20);(try clear c21);(try clear c32);(try clear c33);(try clear c33b0);(try clear c34);(try clear c34b0);(try clear p35);(try clear q35);(try clear hx35);(try clear hf35);(try clear c40);(try clear c40b0);(try clear c40b1);(try clear c41);(try clear c41b0);(try clear c41b1);(try clear c42);(try clear c42b0);(try clear c42b1);(try clear c45);(try clear q45);(try clear c46);(try clear hcz15_0 hcz15_1 hcz15_2 hfz15_0 hfz15_1 hfz15_2);(try clear hcz22_0 hcz22_1 hfz22_0 hfz22_1);(try clear hcz47_0 hcz47_1 hcz47_2 hfz47_0 hfz47_1 hfz47_2);(try clear hcz5_0 hcz5_1 hcz5_2 hfz5_0 hfz5_1 hfz5_2);(try clear hx35_0);(try clear hx501_0);(try clear hx501_1);(try clear hx509_0);(try clear p2);(try clear p3);(try clear p35);(try clear p5);(try clear p501);(try clear p509);(try clear q3);(try clear q35);(try clear q45);(try clear q5);(try clear q501);(try clear q509);obtain ⟨x3_5,x8_5,x61_5,rfl,HA,HK5,HO_3,HO_8,HO_59,BK496,BK502,HB⟩:=hrel;have hl3_5:=(Kd.R_reads' HO_3.out).1;rw [hl3_5] at HO_3;(try simp only [hl3_5])
              (try simp only [hl3_5] at BK496)
              (try simp only [hl3_5] at BK502)
              (try simp only [hl3_5] at HO_8)
              (try simp only [hl3_5] at HO_59)
              cases gk with
              | zero=>exact absurd HA.out (by simp [impl_groupNumbers.l3])
              | succ k5 =>
               have H:=HA.out;clear HA;simp only [impl_groupNumbers.l3] at H;by_cases c50:x61_5 < (t513.length:Int)
               ·rw [if_pos c50] at H;have c50b0:decide (x61_5 < (t513.length:Int)) = true:=decide_eq_true c50;(try simp only [hl3_1] at c50b0)
                (try simp only [hl3_2] at c50b0)
                (try simp only [hl3_4] at c50b0)
                (try simp only [hl3_5] at c50b0)
                clear c50;replace H:=np_ H;obtain ⟨c51,H⟩:=H;have c51b0:decide (0 ≤ x61_5) = true:=decide_eq_true c51;clear c51;replace H:=np_ H;obtain ⟨c52,H⟩:=H;have c52b0:decide (x61_5 < (t513.length:Int)) = true:=decide_eq_true c52;(try simp only [hl3_1] at c52b0)
                (try simp only [hl3_2] at c52b0)
                (try simp only [hl3_4] at c52b0)
                (try simp only [hl3_5] at c52b0)
                clear c52;replace H:=np_ H;obtain ⟨c53,H⟩:=H;have c53b0:decide (0 ≤ (rd t513 x61_5)) = true:=decide_eq_true c53;clear c53;replace H:=np_ H;obtain ⟨c54,H⟩:=H;have c54b0:decide ((rd t513 x61_5) < (l0_2.length:Int)) = true:=decide_eq_true c54;(try simp only [hl3_1] at c54b0)
                (try simp only [hl3_2] at c54b0)
                (try simp only [hl3_4] at c54b0)
                (try simp only [hl3_5] at c54b0)
                clear c54;replace H:=Option.bind_eq_some_iff.mp H;obtain ⟨t518,A550,H⟩:=H;(try dsimp only at H)
                have A55:=Aside0.mk A550;clear A550;by_cases c56:t518 = true
                ·subst c56;have H1:(if (rd t513 x61_5) < (x3_5.length:Int) then (if (rd x3_5 (rd t513 x61_5)) < 0 then (if x8_5.length < 17592186044416 then (impl_groupNumbers.l3 k5 (x3_5.set ((rd t513 x61_5):Int).toNat x5_2) x5_2 (x8_5 ++ [rd t513 x61_5]) l0_2 (l0_2.length:Int) x28_2 t513 (t513.length:Int) (wrap64 (x61_5 + 1)) a0_0 a0_1 l0_2) else (none)) else (impl_groupNumbers.l3 k5 x3_5 x5_2 x8_5 l0_2 (l0_2.length:Int) x28_2 t513 (t513.length:Int) (wrap64 (x61_5 + 1)) a0_0 a0_1 l0_2)) else (none)) = some r:=by rw [if_pos rfl] at H;exact H
                 clear H;have H:=H1;clear H1;replace H:=np_ H;obtain ⟨c57,H⟩:=H;have c57b0:decide ((rd t513 x61_5) < (x3_5.length:Int)) = true:=decide_eq_true c57;(try simp only [hl3_1] at c57b0)
                 (try simp only [hl3_2] at c57b0)
                 (try simp only [hl3_4] at c57b0)
                 (try simp only [hl3_5] at c57b0)
                 clear c57;by_cases c58:(rd x3_5 (rd t513 x61_5)) < 0
                 ·rw [if_pos c58] at H;have c58b0:decide ((rd x3_5 (rd t513 x61_5)) < 0) = true:=decide_eq_true c58;clear c58;obtain ⟨y520,hy520⟩:∃ y_:List Int,y_ = (x3_5.set ((rd t513 x61_5):Int).toNat x5_2):=⟨_,rfl⟩
                  replace H:(if x8_5.length < 17592186044416 then (impl_groupNumbers.l3 k5 y520 x5_2 (x8_5 ++ [rd t513 x61_5]) l0_2 (l0_2.length:Int) x28_2 t513 (t513.length:Int) (wrap64 (x61_5 + 1)) a0_0 a0_1 l0_2) else (none)) = some r:=by first | (rw [hy520];with_reducible exact H) | (have H2_:=(Option.bind_some _ _).symm.trans H;rw [hy520];with_reducible exact H2_) | (have H2_:=(Option.bind_some _ _).symm.trans H;with_reducible exact H2_) | with_reducible exact H | (rw [hy520];exact H) | exact H
                  have Ny520:=Aside0.mk hy520;clear hy520;replace H:=np_ H;obtain ⟨c60,H⟩:=H;have LMc60:=Aside0.mk c60;clear c60;obtain ⟨y521,hy521⟩:∃ y_:List Int,y_ = (x8_5 ++ [rd t513 x61_5]):=⟨_,rfl⟩
                  replace H:(impl_groupNumbers.l3 k5 y520 x5_2 y521 l0_2 (l0_2.length:Int) x28_2 t513 (t513.length:Int) (wrap64 (x61_5 + 1)) a0_0 a0_1 l0_2) = some r:=by first | (rw [hy521];with_reducible exact H) | (have H2_:=(Option.bind_some _ _).symm.trans H;rw [hy521];with_reducible exact H2_) | (have H2_:=(Option.bind_some _ _).symm.trans H;with_reducible exact H2_) | with_reducible exact H | (rw [hy521];exact H) | exact H
                  have Ny521:=Aside0.mk hy521;clear hy521;have H':=Aside0.mk H;clear H;have p516:0 ≤ (x61_5:Int):=of_decide_eq_true (by first | (with_reducible assumption) | assumption);have q516:x61_5 < (t513.length:Int):=of_decide_eq_true (by first | (with_reducible assumption) | assumption);obtain ⟨ad516,e516,hx516_0⟩:=Kd.at_int (Kd.R_reads' HO_59.out).2.2 x61_5 p516 q516;cases e516;replace p516:=eq_true p516;replace q516:=eq_true q516;have hnb61:=NB496_502.out;have hnc61:=NB502_496.out;obtain ⟨hcz62_0,hcz62_1,hcz62_2,hfz62_0,hfz62_1,hfz62_2⟩:=bt3 BK496;have p517:0 ≤ ((rd t513 x61_5):Int):=of_decide_eq_true (by first | (with_reducible assumption) | assumption);have q517:(rd t513 x61_5) < (l0_2.length:Int):=of_decide_eq_true (by first | (with_reducible assumption) | assumption);obtain ⟨ad517,e517,hx517_0,hx517_1⟩:=at_T42 HR0_2.out (rd t513 x61_5) p517 q517;obtain rfl:ad501 = ad517:=(by injection e517)
                  replace hx517_0:=(HB.out.cell (World.block_lt_of_cell? w _ hx517_0)).trans hx517_0;replace hx517_1:=(HB.out.cell (World.block_lt_of_cell? w _ hx517_1)).trans hx517_1;replace p517:=eq_true p517;replace q517:=eq_true q517;go_wp2_with (first | ((with_reducible refine gate_callee (f:=206) rfl ?_);refine gL_ (some 70) Try.func206 #[.agg #[.int .i64 ((rd_T42 l0_2 (rd t513 x61_5)).f0),.int .i64 ((rd_T42 l0_2 (rd t513 x61_5)).f1)]] (h:=?_);(with_reducible refine (impl_isGeared.calls ((rd_T42 l0_2 (rd t513 x61_5)).f0) ((rd_T42 l0_2 (rd t513 x61_5)).f1) true _ A55.out).mono ?_);rintro e w63 ⟨rfl,hb⟩;refine ⟨_,rfl,?_⟩;refine ev6 (Kd.R_below (Kd.R_mv HO_3.out) hb) (Kd.Q_below (Kd.Q_mv HO_8.out) hb) (Kd.R_below (Kd.R_mv HO_59.out) hb) (kb BK496 hb) (kb BK502 hb) (bs HB hb) ?_;clear HO_3 HO_8 HO_59 BK496 BK502 HB;intro HO_3 HO_8 HO_59 BK496 BK502 HB;(try clear hb);have p519:0 ≤ ((rd t513 x61_5):Int):=of_decide_eq_true (by first | (with_reducible assumption) | assumption);have q519:(rd t513 x61_5) < (x3_5.length:Int):=of_decide_eq_true (by first | (with_reducible assumption) | assumption);obtain ⟨ad519,e519,hx519_0⟩:=Kd.at_int (Kd.R_reads' HO_3.out).2.2 (rd t513 x61_5) p519 q519;obtain rfl:(⟨go35,0,none⟩:Addr) = ad519:=(by injection e519);(first | simp only [add_plain] at hx519_0 | simp only [add_at] at hx519_0 | simp only [Addr.add,Nat.zero_add] at hx519_0 | skip);replace p519:=eq_true p519;replace q519:=eq_true q519;have p59:0 ≤ ((rd t513 x61_5):Int):=of_decide_eq_true (by first | (with_reducible assumption) | assumption);have q59:((rd t513 x61_5):Int) < ((x3_5.length:Int):Int):=of_decide_eq_true (by first | (with_reducible assumption) | assumption);obtain ⟨hx59_0,hf59_0⟩:=Kd.R_celln 0 HO_3.out ((rd t513 x61_5):Int) p59 q59;replace p59:=eq_true p59;replace q59:=eq_true q59;obtain ⟨hy64_,hz64_⟩:=Kd.R_celln 0 HO_3.out ((rd t513 x61_5):Int) (of_decide_eq_true (by first | (with_reducible assumption) | assumption)) (of_decide_eq_true (by first | (with_reducible assumption) | assumption));have HP64:=Kd.R_putg HO_3.out ((rd t513 x61_5):Int) x5_2) | ((with_reducible refine gate_store (t:=3) (p:=81) rfl ?_);refine store_event (t:=3) (p:=81) (v:=?vo_w65) (w1:=(w63.setCell ⟨go35,((rd t513 x61_5):Int).toNat,none⟩ (.int .i64 x5_2))) ?hg ?ho ?hn ?hr ?_;(case ho=>rfl);(case hg=>rfl);(case hn=>rfl);(case hr=>first | (go_simp;done) | (go_simp;rfl));intro w65 hw;have hg:w63.grownBy w65 (some go35):=(by rw [hw];exact HP64.2);have hp_:Kd.R (Kd.int .i64) 3 w65 w.heap.size (fun k_=>some k_ ≠ (u8:Value).ownBlock∧some k_ ≠ (.slice (some ad516) t513.length co49:Value).ownBlock) (.slice (some ⟨go35,0,none⟩) x3_5.length co8) y520:=(by rw [hw,Ny520.out];exact HP64.1);clear HP64;refine ev6 (hp_) (Kd.Q_after (v:=(.slice (some ⟨go35,0,none⟩) x3_5.length co8)) (v1:=(.slice (some ⟨go35,0,none⟩) x3_5.length co8)) (ok:=(fun k_=>some k_ ≠ (.slice (some ad516) t513.length co49:Value).ownBlock)) (Kd.Q_mv (Kd.Q_mono HO_8.out (fun _ hk=>⟨hk.2,hk.1⟩))) hg (.inl rfl)) (Kd.R_after (v:=(.slice (some ⟨go35,0,none⟩) x3_5.length co8)) (v1:=(.slice (some ⟨go35,0,none⟩) x3_5.length co8)) (ok:=(fun k_=>some k_ ≠ (u8:Value).ownBlock)) (Kd.R_mv (Kd.R_mono HO_59.out (fun _ hk=>⟨hk.2,hk.1⟩))) hg (.inl rfl)) (blk_grown (km_ BK496) hg (Kd.R_ne HO_3.out BK496.out (by decide))) (blk_grown (km_ BK502) hg (Kd.R_ne HO_3.out BK502.out (by decide))) ((by rw [hw];exact below_set (HB.out) GB35.out:Below w.heap.size w w65)) ?_;clear HO_3 HO_8 HO_59 BK496 BK502 HB;intro HO_3 HO_8 HO_59 BK496 BK502 HB;clear hg hw hp_) | ((with_reducible refine gate_builtin (b:=.append) (xs:=#[.tmp 82,.tmp 84]) rfl ?_);at_builtin;refine Kd.Q_append (Kd.int .i64) (w0:=w) w.heap.size rfl (.tmp 82) (.tmp 84) 25 3 (.int .i64 0) 8 rfl Try.underlying25 info3 rfl (by decide) (by omega) u8 x8_5 (rd t513 x61_5) [.int .i64 (rd t513 x61_5)] (fun k_=>some k_ ≠ (.slice (some ⟨go35,0,none⟩) x3_5.length co8:Value).ownBlock∧some k_ ≠ (.slice (some ad516) t513.length co49:Value).ownBlock) (fun _=>False) rfl rfl ?aP (fun _ hk=>hk.elim) ?aF ?aO ?aB ?aS ?aL ?_;(case aP=>exact rfl);(case aB=>exact (bm HB));(case aF=>exact (fun k_ hk=>⟨Kd.fresh' (Kd.R_lt (Kd.R_mv HO_3.out)) k_ hk,Kd.fresh' (Kd.R_lt (Kd.R_mv HO_59.out)) k_ hk⟩));(case aO=>exact (Kd.Q_mv (Kd.Q_mono HO_8.out (fun _ hk=>⟨hk.2,hk.1⟩))));(case aS=>exact (below_size (bm HB)));(case aL=>have:=LMc60.out;omega);intro v522 w66 ho hb hg hat;rw [← Ny521.out] at ho;refine ev6 (Kd.R_after (ok:=(fun k_=>some k_ ≠ (.slice (some ad516) t513.length co49:Value).ownBlock)) (Kd.R_mv (Kd.R_mono HO_3.out (fun _ hk=>⟨hk.2,hk.1⟩))) hg hat) (Kd.R_after (ok:=(fun k_=>some k_ ≠ (.slice (some ⟨go35,0,none⟩) x3_5.length co8:Value).ownBlock)) (Kd.R_mv (Kd.R_mono HO_59.out (fun _ hk=>⟨hk.2,hk.1⟩))) hg hat) (blk_grown (km_ BK496) hg (Kd.Q_ne HO_8.out BK496.out (by decide))) (blk_grown (km_ BK502) hg (Kd.Q_ne HO_8.out BK502.out (by decide))) (hb) (ho) ?_;clear HO_3 HO_59 BK496 BK502 HB HO_8;intro HO_3 HO_59 BK496 BK502 HB HO523;clear ho hb hg hat))
                  (try simp only [← hl3_5])
                  go_roundg k5
                  case measure=>have:=HK1.out;have:=HK2.out;have:=HJ18.out;have:=HK4.out;have:=HK5.out;omega
                  case rel=>exact ⟨(y520),(y521),(wrap64 (x61_5 + 1)),(by first | rfl | (simp;done) | (simp [*];done)),H',⟨by have:=HK1.out;have:=HK2.out;have:=HJ18.out;have:=HK4.out;have:=HK5.out;omega⟩,⟨by (try simp only [hl3_1]);(try simp only [hl3_2]);(try simp only [hl3_4]);(try simp only [hl3_5]);exact Kd.R_mv (Kd.R_mono HO_3.out (fun _ hk=>⟨hk.2,hk.1⟩))⟩,⟨by (try simp only [hl3_1]);(try simp only [hl3_2]);(try simp only [hl3_4]);(try simp only [hl3_5]);exact Kd.Q_mv HO523.out⟩,⟨by (try simp only [hl3_1]);(try simp only [hl3_2]);(try simp only [hl3_4]);(try simp only [hl3_5]);exact Kd.R_mv HO_59.out⟩,⟨by (try simp only [hl3_1]);(try simp only [hl3_2]);(try simp only [hl3_4]);(try simp only [hl3_5]);exact km_ BK496⟩,⟨by (try simp only [hl3_1]);(try simp only [hl3_2]);(try simp only [hl3_4]);(try simp only [hl3_5]);exact km_ BK502⟩,⟨bm HB⟩⟩
                 ·rw [if_neg c58] at H;have c58b0:decide ((rd x3_5 (rd t513 x61_5)) < 0) = false:=decide_eq_false c58;clear c58;have H':=Aside0.mk H;clear H;have p516:0 ≤ (x61_5:Int):=of_decide_eq_true (by first | (with_reducible assumption) | assumption);have q516:x61_5 < (t513.length:Int):=of_decide_eq_true (by first | (with_reducible assumption) | assumption);obtain ⟨ad516,e516,hx516_0⟩:=Kd.at_int (Kd.R_reads' HO_59.out).2.2 x61_5 p516 q516;cases e516;replace p516:=eq_true p516;replace q516:=eq_true q516;have hnb67:=NB496_502.out;have hnc67:=NB502_496.out;obtain ⟨hcz68_0,hcz68_1,hcz68_2,hfz68_0,hfz68_1,hfz68_2⟩:=bt3 BK496;have p517:0 ≤ ((rd t513 x61_5):Int):=of_decide_eq_true (by first | (with_reducible assumption) | assumption);have q517:(rd t513 x61_5) < (l0_2.length:Int):=of_decide_eq_true (by first | (with_reducible assumption) | assumption);obtain ⟨ad517,e517,hx517_0,hx517_1⟩:=at_T42 HR0_2.out (rd t513 x61_5) p517 q517;obtain rfl:ad501 = ad517:=(by injection e517)
                  replace hx517_0:=(HB.out.cell (World.block_lt_of_cell? w _ hx517_0)).trans hx517_0;replace hx517_1:=(HB.out.cell (World.block_lt_of_cell? w _ hx517_1)).trans hx517_1;replace p517:=eq_true p517;replace q517:=eq_true q517;go_wp2_with (first | ((with_reducible refine gate_callee (f:=206) rfl ?_);refine gL_ (some 70) Try.func206 #[.agg #[.int .i64 ((rd_T42 l0_2 (rd t513 x61_5)).f0),.int .i64 ((rd_T42 l0_2 (rd t513 x61_5)).f1)]] (h:=?_);(with_reducible refine (impl_isGeared.calls ((rd_T42 l0_2 (rd t513 x61_5)).f0) ((rd_T42 l0_2 (rd t513 x61_5)).f1) true _ A55.out).mono ?_);rintro e w69 ⟨rfl,hb⟩;refine ⟨_,rfl,?_⟩;refine ev6 (Kd.R_below (Kd.R_mv HO_3.out) hb) (Kd.Q_below (Kd.Q_mv HO_8.out) hb) (Kd.R_below (Kd.R_mv HO_59.out) hb) (kb BK496 hb) (kb BK502 hb) (bs HB hb) ?_;clear HO_3 HO_8 HO_59 BK496 BK502 HB;intro HO_3 HO_8 HO_59 BK496 BK502 HB;(try clear hb);have p519:0 ≤ ((rd t513 x61_5):Int):=of_decide_eq_true (by first | (with_reducible assumption) | assumption);have q519:(rd t513 x61_5) < (x3_5.length:Int):=of_decide_eq_true (by first | (with_reducible assumption) | assumption);obtain ⟨ad519,e519,hx519_0⟩:=Kd.at_int (Kd.R_reads' HO_3.out).2.2 (rd t513 x61_5) p519 q519;obtain rfl:(⟨go35,0,none⟩:Addr) = ad519:=(by injection e519);(first | simp only [add_plain] at hx519_0 | simp only [add_at] at hx519_0 | simp only [Addr.add,Nat.zero_add] at hx519_0 | skip);replace p519:=eq_true p519;replace q519:=eq_true q519))
                  (try simp only [← hl3_5])
                  go_roundg k5
                  case measure=>have:=HK1.out;have:=HK2.out;have:=HJ18.out;have:=HK4.out;have:=HK5.out;omega
                  case rel=>exact ⟨(x3_5),(x8_5),(wrap64 (x61_5 + 1)),(by first | rfl | (simp;done) | (simp [*];done)),H',⟨by have:=HK1.out;have:=HK2.out;have:=HJ18.out;have:=HK4.out;have:=HK5.out;omega⟩,⟨by (try simp only [hl3_1]);(try simp only [hl3_2]);(try simp only [hl3_4]);(try simp only [hl3_5]);exact Kd.R_mv HO_3.out⟩,⟨by (try simp only [hl3_1]);(try simp only [hl3_2]);(try simp only [hl3_4]);(try simp only [hl3_5]);exact Kd.Q_mv HO_8.out⟩,⟨by (try simp only [hl3_1]);(try simp only [hl3_2]);(try simp only [hl3_4]);(try simp only [hl3_5]);exact Kd.R_mv HO_59.out⟩,⟨by (try simp only [hl3_1]);(try simp only [hl3_2]);(try simp only [hl3_4]);(try simp only [hl3_5]);exact km_ BK496⟩,⟨by (try simp only [hl3_1]);(try simp only [hl3_2]);(try simp only [hl3_4]);(try simp only [hl3_5]);exact km_ BK502⟩,⟨bm HB⟩⟩
                ·replace c56:=Bool.eq_false_iff.mpr c56;subst c56;have H1:(impl_groupNumbers.l3 k5 x3_5 x5_2 x8_5 l0_2 (l0_2.length:Int) x28_2 t513 (t513.length:Int) (wrap64 (x61_5 + 1)) a0_0 a0_1 l0_2) = some r:=by rw [if_neg (show ¬ (false = true) by decide)] at H;exact H
                 clear H;have H:=H1;clear H1;have H':=Aside0.mk H;clear H;have p516:0 ≤ (x61_5:Int):=of_decide_eq_true (by first | (with_reducible assumption) | assumption);have q516:x61_5 < (t513.length:Int):=of_decide_eq_true (by first | (with_reducible assumption) | assumption);obtain ⟨ad516,e516,hx516_0⟩:=Kd.at_int (Kd.R_reads' HO_59.out).2.2 x61_5 p516 q516;cases e516;replace p516:=eq_true p516;replace q516:=eq_true q516;have hnb70:=NB496_502.out;have hnc70:=NB502_496.out;obtain ⟨hcz71_0,hcz71_1,hcz71_2,hfz71_0,hfz71_1,hfz71_2⟩:=bt3 BK496;have p517:0 ≤ ((rd t513 x61_5):Int):=of_decide_eq_true (by first | (with_reducible assumption) | assumption);have q517:(rd t513 x61_5) < (l0_2.length:Int):=of_decide_eq_true (by first | (with_reducible assumption) | assumption);obtain ⟨ad517,e517,hx517_0,hx517_1⟩:=at_T42 HR0_2.out (rd t513 x61_5) p517 q517;obtain rfl:ad501 = ad517:=(by injection e517)
                 replace hx517_0:=(HB.out.cell (World.block_lt_of_cell? w _ hx517_0)).trans hx517_0;replace hx517_1:=(HB.out.cell (World.block_lt_of_cell? w _ hx517_1)).trans hx517_1;replace p517:=eq_true p517;replace q517:=eq_true q517;go_wp2_with (first | ((with_reducible refine gate_callee (f:=206) rfl ?_);refine gL_ (some 70) Try.func206 #[.agg #[.int .i64 ((rd_T42 l0_2 (rd t513 x61_5)).f0),.int .i64 ((rd_T42 l0_2 (rd t513 x61_5)).f1)]] (h:=?_);(with_reducible refine (impl_isGeared.calls ((rd_T42 l0_2 (rd t513 x61_5)).f0) ((rd_T42 l0_2 (rd t513 x61_5)).f1) false _ A55.out).mono ?_);rintro e w72 ⟨rfl,hb⟩;refine ⟨_,rfl,?_⟩;refine ev6 (Kd.R_below (Kd.R_mv HO_3.out) hb) (Kd.Q_below (Kd.Q_mv HO_8.out) hb) (Kd.R_below (Kd.R_mv HO_59.out) hb) (kb BK496 hb) (kb BK502 hb) (bs HB hb) ?_;clear HO_3 HO_8 HO_59 BK496 BK502 HB;intro HO_3 HO_8 HO_59 BK496 BK502 HB;(try clear hb)))
                 (try simp only [← hl3_5])
                 go_roundg k5
                 case measure=>have:=HK1.out;have:=HK2.out;have:=HJ18.out;have:=HK4.out;have:=HK5.out;omega
                 case rel=>exact ⟨(x3_5),(x8_5),(wrap64 (x61_5 + 1)),(by first | rfl | (simp;done) | (simp [*];done)),H',⟨by have:=HK1.out;have:=HK2.out;have:=HJ18.out;have:=HK4.out;have:=HK5.out;omega⟩,⟨by (try simp only [hl3_1]);(try simp only [hl3_2]);(try simp only [hl3_4]);(try simp only [hl3_5]);exact Kd.R_mv HO_3.out⟩,⟨by (try simp only [hl3_1]);(try simp only [hl3_2]);(try simp only [hl3_4]);(try simp only [hl3_5]);exact Kd.Q_mv HO_8.out⟩,⟨by (try simp only [hl3_1]);(try simp only [hl3_2]);(try simp only [hl3_4]);(try simp only [hl3_5]);exact Kd.R_mv HO_59.out⟩,⟨by (try simp only [hl3_1]);(try simp only [hl3_2]);(try simp only [hl3_4]);(try simp only [hl3_5]);exact km_ BK496⟩,⟨by (try simp only [hl3_1]);(try simp only [hl3_2]);(try simp only [hl3_4]);(try simp only [hl3_5]);exact km_ BK502⟩,⟨bm HB⟩⟩
               ·rw [if_neg c50] at H;have c50b0:decide (x61_5 < (t513.length:Int)) = false:=decide_eq_false c50;(try simp only [hl3_1] at c50b0)
                (try simp only [hl3_2] at c50b0)
                (try simp only [hl3_4] at c50b0)
                (try simp only [hl3_5] at c50b0)
                clear c50;have H':=Aside0.mk H;clear H;go_wp2;(try simp only [← hl3_4,← hl3_5])
                go_roundg k5
                case measure=>have:=HK1.out;have:=HK2.out;have:=HJ18.out;have:=HK4.out;have:=HK5.out;omega
                case rel=>exact ⟨(x3_5),(x8_5),H',⟨by have:=HK1.out;have:=HK2.out;have:=HJ18.out;have:=HK4.out;have:=HK5.out;omega⟩,⟨by (try simp only [hl3_1]);(try simp only [hl3_2]);(try simp only [hl3_4]);(try simp only [hl3_5]);exact Kd.R_mv (Kd.R_mono HO_3.out (fun _ hk=>hk.1))⟩,⟨by (try simp only [hl3_1]);(try simp only [hl3_2]);(try simp only [hl3_4]);(try simp only [hl3_5]);exact Kd.Q_mv (Kd.Q_mono HO_8.out (fun _ hk=>hk.1))⟩,⟨by (try simp only [hl3_1]);(try simp only [hl3_2]);(try simp only [hl3_4]);(try simp only [hl3_5]);exact km_ BK496⟩,⟨by (try simp only [hl3_1]);(try simp only [hl3_2]);(try simp only [hl3_4]);(try simp only [hl3_5]);exact km_ BK502⟩,⟨bm HB⟩⟩
            ·rw [if_neg c40] at H;have c40b0:decide (0 < (x8_4.length:Int)) = false:=decide_eq_false c40;have c40b1:decide (0 < x8_4.length) = false:=decide_eq_false (by omega);(try simp only [hl3_1] at c40b0 c40b1)
             (try simp only [hl3_2] at c40b0 c40b1)
             (try simp only [hl3_4] at c40b0 c40b1)
             clear c40;have H':=Aside0.mk H;clear H;obtain ⟨Ao73,co73,eo73,_⟩:=Kd.Q_slice HO_8.out;subst eo73;go_wp2;(try simp only [← hl3_2,← hl3_4])
             go_roundg k4
             case measure=>have:=HK1.out;have:=HK2.out;have:=HJ18.out;have:=HK4.out;omega
             case rel=>exact ⟨(x3_4),(wrap64 (x5_2 + 1)),(wrap64 (x28_2 + 1)),(by first | rfl | (simp;done) | (simp [*];done)),(by first | rfl | (simp;done) | (simp [*];done)),H',⟨by have:=HK1.out;have:=HK2.out;have:=HJ18.out;have:=HK4.out;omega⟩,⟨by (try simp only [hl3_1]);(try simp only [hl3_2]);(try simp only [hl3_4]);exact Kd.R_mv (Kd.R_mono (ok':=fun k_=>True) HO_3.out (fun _ hk=>trivial))⟩,⟨by (try simp only [hl3_1]);(try simp only [hl3_2]);(try simp only [hl3_4]);exact km_ BK496⟩,⟨bm HB⟩⟩
      ·rw [if_neg c16] at H;have c16b0:decide (x28_2 < (l0_2.length:Int)) = false:=decide_eq_false c16;(try simp only [hl3_1] at c16b0)
       (try simp only [hl3_2] at c16b0)
       clear c16;obtain rfl:=Option.some.inj H;go_wp2;go_ret;exact ⟨_,by first | rfl | (simp [e0_,e1_] <;> rfl) | (simp [*,e0_,e1_] <;> rfl),Kd.R_mv HO_3.out,bm HB⟩

/-! ### impl_hasEnds: function 100 -/
def impl_hasEnds.l0:Nat→List Int→List Int→Int→Int→Int→Int→List (S42)→List Int→List Int→Int→Int→List (S42)→Int→Int→List (S42)→Option (Bool)
  | 0,_,_,_,_,_,_,_,_,_,_,_,_,_,_,_=>none
  | k + 1,x6,x16,x17,x18,x525000,x525001,x525002,x525003,x525004,x526000,x526001,x526002,x532000,x532001,x532002=>if x18 < x17 then (if 0 ≤ x18 then (if x18 < (x16.length:Int) then ((impl_drop.f k x532000 x532001 x532002 x6 (rd x16 x18)).bind fun bt536=>((impl_endNumber.f x526000 x526001 x526002 bt536.1 bt536.2.1 bt536.2.2.1).bind fun t544=>(if x18 < (x525004.length:Int) then (if t544 = (rd x525004 x18) then (impl_hasEnds.l0 k x6 x16 x17 (wrap64 (x18 + 1)) x525000 x525001 x525002 x525003 x525004 x526000 x526001 x526002 x532000 x532001 bt536.2.2.2.2) else (some false)) else (none)))) else (none)) else (none)) else (some true)
def impl_hasEnds.f (k:Nat) (a0_0:Int) (a0_1:Int) (l0_2:List (S42)) (l0_3:List Int) (l0_4:List Int) (a1_0:Int) (a1_1:Int) (l1_2:List (S42)):Option (Bool):=(impl_copyBoard.f a1_0 a1_1 l1_2).bind fun bt526=>((impl_groupNumbers.f k a1_0 a1_1 l1_2).bind fun t532=>(impl_hasEnds.l0 k t532 l0_3 (l0_3.length:Int) 0 a0_0 a0_1 l0_2 l0_3 l0_4 a1_0 a1_1 l1_2 bt526.1 bt526.2.1 bt526.2.2))
theorem impl_hasEnds.calls (k:Nat) (a0_0:Int) (a0_1:Int) (A0_2:Option Addr) (c0_2:Nat) (l0_2:List (S42)) (A0_3:Option Addr) (c0_3:Nat) (l0_3:List Int) (A0_4:Option Addr) (c0_4:Nat) (l0_4:List Int) (a1_0:Int) (a1_1:Int) (A1_2:Option Addr) (c1_2:Nat) (l1_2:List (S42)) (r:Bool) (w:World) (hr0_2:Kd.C k42 w A0_2 l0_2.length l0_2) (hc0_2:l0_2.length ≤ c0_2) (hr0_3:Kd.C (Kd.int .i64) w A0_3 l0_3.length l0_3) (hc0_3:l0_3.length ≤ c0_3) (hr0_4:Kd.C (Kd.int .i64) w A0_4 l0_4.length l0_4) (hc0_4:l0_4.length ≤ c0_4) (hr1_2:Kd.C k42 w A1_2 l1_2.length l1_2) (hc1_2:l1_2.length ≤ c1_2) (h:impl_hasEnds.f k a0_0 a0_1 l0_2 l0_3 l0_4 a1_0 a1_1 l1_2 = some r) :
    Calls Try.prog 100 #[.agg #[.int .i64 a0_0,.int .i64 a0_1,.slice A0_2 l0_2.length c0_2,.slice A0_3 l0_3.length c0_3,.slice A0_4 l0_4.length c0_4],.agg #[.int .i64 a1_0,.int .i64 a1_1,.slice A1_2 l1_2.length c1_2]] w fun e w'=>e = .returned (.bool r)∧Below w.heap.size w w':=by
 have S:=St.init (w:=w) (dc k42_heap at42 hr0_2 hc0_2 (dc (Kd.heap_int .i64) (atI .i64) hr0_3 hc0_3 (dc (Kd.heap_int .i64) (atI .i64) hr0_4 hc0_4 (dc k42_heap at42 hr1_2 hc1_2 dn))))
 clear hr0_2 hc0_2 hr0_3 hc0_3 hr0_4 hc0_4 hr1_2 hc1_2
 have F:=S.fc
 have H:=h;clear h;unfold impl_hasEnds.f at H
 replace H:=Option.bind_eq_some_iff.mp H;obtain ⟨⟨t526,t527,t528⟩,A3,H⟩:=H;(try dsimp only at H)
 replace H:=Option.bind_eq_some_iff.mp H;obtain ⟨t532,A4,H⟩:=H;(try dsimp only at H)
 go_enter Try.func100,Try.ntmps100
 go_wp2_with (first | ((with_reducible refine gd 2 rfl (L ?_));refine bo 2 (.agg #[_,_,_,_,_]) S ?_;clear S F;intro gb524 W S;have F:=S.fc) | ((with_reducible refine gd 3 rfl (L ?_));refine bo 3 (.agg #[_,_,_]) S ?_;clear S F;intro gb525 W S;have F:=S.fc) | ((with_reducible refine gate_callee (f:=163) rfl (L ?_));refine cl (some 12) Try.func163 (impl_copyBoard.calls _ _ _ _ _ _ _ _ _ S.c S.n A3) (hargs:=by (simp only [ma_,mb_,mc_,F] <;> rfl)) (h:=?_);rintro e W ⟨v529,rfl,ho0,hb⟩;refine ⟨_,rfl,?_⟩;replace S:=S.got at42 hb ho0;obtain ⟨At528,ct528,rfl,S⟩:=S;clear F hb ho0;have F:=S.fc) | ((with_reducible refine gd 5 rfl (L ?_));refine al 5 S zi30 ?_;clear S F;intro gb531 W S;have F:=S.fc) | ((with_reducible refine gate_callee (f:=164) rfl (L ?_));refine cl (some 14) Try.func164 (impl_groupNumbers.calls _ _ _ _ _ _ _ _ S.c S.n A4) (hargs:=by (simp only [ma_,mb_,mc_,F] <;> rfl)) (h:=?_);rintro e W ⟨v533,rfl,ho0,hb⟩;refine ⟨_,rfl,?_⟩;replace S:=S.got (atI .i64) hb ho0;obtain ⟨At532,ct532,rfl,S⟩:=S;clear F hb ho0;have F:=S.fc) | ((with_reducible refine gs (t:=30) rfl (L ?_));refine sb (.agg #[_,_,_]) S sz30 ?_;(clear S F;intro W S;have F:=S.fc)))
 go_loopg [18] k (fun kq v18 w'=>∃ (x18_1:Int) (x532002_1:List (S42)) (Ax532002_1:Option Addr) (cx532002_1:Nat),v18 = .int .i64 x18_1∧impl_hasEnds.l0 kq t532 l0_3 (l0_3.length:Int) x18_1 a0_0 a0_1 l0_2 l0_3 l0_4 a1_0 a1_1 l1_2 t526 t527 x532002_1 = some r∧kq ≤ k∧St w w (fun _=>False) [bor at42 A0_2 c0_2 l0_2,bor (atI .i64) A0_3 c0_3 l0_3,bor (atI .i64) A0_4 c0_4 l0_4,bor at42 A1_2 c1_2 l1_2] w'  [row (atI .i64) 3 At532 t532.length ct532 t532,box gb531 30 [.int .i64 t526,.int .i64 t527,.slice Ax532002_1 x532002_1.length cx532002_1],row at42 42 Ax532002_1 x532002_1.length cx532002_1 x532002_1,box gb525 30 [.int .i64 a1_0,.int .i64 a1_1,.slice A1_2 l1_2.length c1_2],box gb524 27 [.int .i64 a0_0,.int .i64 a0_1,.slice A0_2 l0_2.length c0_2,.slice A0_3 l0_3.length c0_3,.slice A0_4 l0_4.length c0_4]])
 case atStart=>exact ⟨0,t528,_,_,(by first | rfl | (simp;done) | (simp [*];done) | (rw [w6_ (by omega) (by omega)])),H,Nat.le_refl _,S⟩
 case round =>
  clear H S F
  obtain ⟨x18_1,x532002_1,Ax532002_1,cx532002_1,rfl,HA,HK1,S⟩:=hrel
  have F:=S.fc
  cases gk with
  | zero=>exact absurd HA (by simp [impl_hasEnds.l0])
  | succ k1 =>
   have H:=HA;clear HA;simp only [impl_hasEnds.l0,F] at H
   replace H:=sp_ H;rcases H with ⟨c18,H⟩ | ⟨c18,H⟩
   · skip
     replace H:=np_ H;obtain ⟨c19,H⟩:=H
     replace H:=np_ H;obtain ⟨c20,H⟩:=H
     replace H:=Option.bind_eq_some_iff.mp H;obtain ⟨⟨t536,t537,t538,t539,t542⟩,A21,H⟩:=H;(try dsimp only at H)
     replace H:=Option.bind_eq_some_iff.mp H;obtain ⟨t544,A22,H⟩:=H;(try dsimp only at H)
     replace H:=np_ H;obtain ⟨c23,H⟩:=H
     replace H:=sp_ H;rcases H with ⟨c24,H⟩ | ⟨c24,H⟩
     · skip
       replace c24:=ceq c24
       go_wp2_with (first | ((with_reducible refine gate_callee (f:=162) rfl (L ?_));obtain ⟨ok_,k_⟩:=S.lend (A:=Ax532002_1);refine cl (some 27) Try.func162 (impl_drop.calls _ _ _ ok_ _ _ _ _ _ _ _ _ _ _ _ _ _ k_.below k_.own k_.c k_.n A21) (hargs:=by (simp only [ma_,mb_,mc_,F] <;> rfl)) (h:=?_);rintro e W ⟨v540,rfl,ho,hy,hb,hk⟩;refine ⟨_,rfl,?_⟩;clear S F;obtain ⟨At539,ct539,rfl,S⟩:=k_.back1 (atI .i64) ho hy hb hk (by decide);clear k_ ho hy hb hk;have F:=S.fc) | ((with_reducible refine gd 9 rfl (L ?_));refine al 9 S zi80 ?_;clear S F;intro gb543 W S;have F:=S.fc) | ((with_reducible refine gs (t:=80) rfl (L ?_));refine sb (.agg #[_,_,_]) S sz80 ?_;(clear S F;intro W S;have F:=S.fc)))
       refine rq S [(0,3),(0,5),(1,0),(1,1),(1,4),(0,6),(1,7),(2,2),(0,8)] [] (h:=?_);clear S F;intro W S;have S0:=S;have F:=S.fc
       repeat (first | (refine q0 (h:=?_)) | (refine q1 S0 (h:=?_)))
       refine lk2 (by rfl) (by exact (Eq.refl true)) ?_;refine cl (some 32) Try.func121 (impl_endNumber.calls _ _ _ _ _ _ _ _ _ _ S.c S.n A22) (hargs:=by (simp only [ma_,mb_,mc_,F] <;> rfl)) (h:=?_);rintro e W ⟨rfl,hb⟩;refine ⟨_,rfl,?_⟩;replace S:=S.go hb;clear F hb;have F:=S.fc
       clear S0;have S0:=S;refine ⟨S0,?_⟩
       repeat ((refine q0 (h:=?_)))
       refine oz ?_
       try clear S0
       go_wp2
       go_roundg k1
       case measure=>omega
       case rel=>(try rw [← (show t542.length = x532002_1.length by simp only [F])] at S);exact ⟨(wrap64 (x18_1 + 1)),t542,_,_,(by first | rfl | (simp;done) | (simp [*];done) | (rw [w6_ (by omega) (by omega)])),H,(by first | omega | exact Nat.le_refl _),S.tl.tl⟩
     · skip
       replace c24:=cne c24
       obtain rfl:=Option.some.inj H
       go_wp2_with (first | ((with_reducible refine gate_callee (f:=162) rfl (L ?_));obtain ⟨ok_,k_⟩:=S.lend (A:=Ax532002_1);refine cl (some 27) Try.func162 (impl_drop.calls _ _ _ ok_ _ _ _ _ _ _ _ _ _ _ _ _ _ k_.below k_.own k_.c k_.n A21) (hargs:=by (simp only [ma_,mb_,mc_,F] <;> rfl)) (h:=?_);rintro e W ⟨v540,rfl,ho,hy,hb,hk⟩;refine ⟨_,rfl,?_⟩;clear S F;obtain ⟨At539,ct539,rfl,S⟩:=k_.back1 (atI .i64) ho hy hb hk (by decide);clear k_ ho hy hb hk;have F:=S.fc) | ((with_reducible refine gd 9 rfl (L ?_));refine al 9 S zi80 ?_;clear S F;intro gb543 W S;have F:=S.fc) | ((with_reducible refine gs (t:=80) rfl (L ?_));refine sb (.agg #[_,_,_]) S sz80 ?_;(clear S F;intro W S;have F:=S.fc)))
       refine rq S [(0,3),(0,5),(1,0),(1,1),(1,4),(0,6),(1,7),(2,2),(0,8)] [] (h:=?_);clear S F;intro W S;have S0:=S;have F:=S.fc
       repeat (first | (refine q0 (h:=?_)) | (refine q1 S0 (h:=?_)))
       refine lk2 (by rfl) (by exact (Eq.refl true)) ?_;refine cl (some 32) Try.func121 (impl_endNumber.calls _ _ _ _ _ _ _ _ _ _ S.c S.n A22) (hargs:=by (simp only [ma_,mb_,mc_,F] <;> rfl)) (h:=?_);rintro e W ⟨rfl,hb⟩;refine ⟨_,rfl,?_⟩;replace S:=S.go hb;clear F hb;have F:=S.fc
       clear S0;have S0:=S;refine ⟨S0,?_⟩
       repeat ((refine q0 (h:=?_)))
       refine oz ?_
       try clear S0
       go_wp2
       go_ret
       exact ⟨(by first | rfl | (simp [e0_,e1_] <;> rfl) | (simp [*,e0_,e1_] <;> rfl)),S.below⟩
   · skip
     obtain rfl:=Option.some.inj H
     go_wp2
     go_ret
     exact ⟨(by first | rfl | (simp [e0_,e1_] <;> rfl) | (simp [*,e0_,e1_] <;> rfl)),S.below⟩

/-! ### impl_boardsTried: function 128 -/
def impl_boardsTried.l0:Nat→Int→Int→Int→Int→List (S42)→List Int→List Int→Option (Int)
  | 0,_,_,_,_,_,_,_=>none
  | k + 1,x3,x4,x547000,x547001,x547002,x547003,x547004=>if x4 < (wrap64 (x547000 * x547001)) then (impl_boardsTried.l0 k (wrap64 (x3 * (wrap64 ((x547002.length:Int) + 1)))) (wrap64 (x4 + 1)) x547000 x547001 x547002 x547003 x547004) else (some x3)
def impl_boardsTried.f (k:Nat) (a0_0:Int) (a0_1:Int) (l0_2:List (S42)) (l0_3:List Int) (l0_4:List Int):Option (Int):=impl_boardsTried.l0 k 1 0 a0_0 a0_1 l0_2 l0_3 l0_4
theorem impl_boardsTried.calls (k:Nat) (a0_0:Int) (a0_1:Int) (A0_2:Option Addr) (c0_2:Nat) (l0_2:List (S42)) (A0_3:Option Addr) (c0_3:Nat) (l0_3:List Int) (A0_4:Option Addr) (c0_4:Nat) (l0_4:List Int) (r:Int) (w:World) (hr0_2:Kd.C k42 w A0_2 l0_2.length l0_2) (hc0_2:l0_2.length ≤ c0_2) (hr0_3:Kd.C (Kd.int .i64) w A0_3 l0_3.length l0_3) (hc0_3:l0_3.length ≤ c0_3) (hr0_4:Kd.C (Kd.int .i64) w A0_4 l0_4.length l0_4) (hc0_4:l0_4.length ≤ c0_4) (h:impl_boardsTried.f k a0_0 a0_1 l0_2 l0_3 l0_4 = some r) :
    Calls Try.prog 128 #[.agg #[.int .i64 a0_0,.int .i64 a0_1,.slice A0_2 l0_2.length c0_2,.slice A0_3 l0_3.length c0_3,.slice A0_4 l0_4.length c0_4]] w fun e w'=>e = .returned (.int .i64 r)∧Below w.heap.size w w':=by
 have S:=St.init (w:=w) (dc k42_heap at42 hr0_2 hc0_2 (dc (Kd.heap_int .i64) (atI .i64) hr0_3 hc0_3 (dc (Kd.heap_int .i64) (atI .i64) hr0_4 hc0_4 dn)))
 clear hr0_2 hc0_2 hr0_3 hc0_3 hr0_4 hc0_4
 have F:=S.fc
 have H:=h;clear h;unfold impl_boardsTried.f at H
 go_enter Try.func128,Try.ntmps128
 go_wp2_with ((with_reducible refine gd 1 rfl (L ?_));refine bo 1 (.agg #[_,_,_,_,_]) S ?_;clear S F;intro gb546 W S;have F:=S.fc)
 go_loopg [3,4] k (fun kq v3 v4 w'=>∃ (x3_1:Int) (x4_1:Int),v3 = .int .i64 x3_1∧v4 = .int .i64 x4_1∧impl_boardsTried.l0 kq x3_1 x4_1 a0_0 a0_1 l0_2 l0_3 l0_4 = some r∧kq ≤ k∧St w w (fun _=>False) [bor at42 A0_2 c0_2 l0_2,bor (atI .i64) A0_3 c0_3 l0_3,bor (atI .i64) A0_4 c0_4 l0_4] w'  [box gb546 27 [.int .i64 a0_0,.int .i64 a0_1,.slice A0_2 l0_2.length c0_2,.slice A0_3 l0_3.length c0_3,.slice A0_4 l0_4.length c0_4]])
 case atStart=>exact ⟨1,0,(by first | rfl | (simp;done) | (simp [*];done) | (rw [w6_ (by omega) (by omega)])),(by first | rfl | (simp;done) | (simp [*];done) | (rw [w6_ (by omega) (by omega)])),H,Nat.le_refl _,S⟩
 case round =>
  clear H S F
  obtain ⟨x3_1,x4_1,rfl,rfl,HA,HK1,S⟩:=hrel
  have F:=S.fc
  cases gk with
  | zero=>exact absurd HA (by simp [impl_boardsTried.l0])
  | succ k1 =>
   have H:=HA;clear HA;simp only [impl_boardsTried.l0,F] at H
   replace H:=sp_ H;rcases H with ⟨c3,H⟩ | ⟨c3,H⟩
   · skip
     go_wp2
     go_roundg k1
     case measure=>omega
     case rel=>exact ⟨(wrap64 (x3_1 * (wrap64 ((l0_2.length:Int) + 1)))),(wrap64 (x4_1 + 1)),(by first | rfl | (simp;done) | (simp [*];done) | (rw [w6_ (by omega) (by omega)])),(by first | rfl | (simp;done) | (simp [*];done) | (rw [w6_ (by omega) (by omega)])),H,(by first | omega | exact Nat.le_refl _),S⟩
   · skip
     obtain rfl:=Option.some.inj H
     go_wp2
     go_ret
     exact ⟨(by first | rfl | (simp [e0_,e1_] <;> rfl) | (simp [*,e0_,e1_] <;> rfl)),S.below⟩

/-! ### impl_boardOf: function 182 -/
def impl_boardOf.l0:Nat→Int→Int→Int→Int→List (S42)→List Int→List Int→Int→Int→List (S42)→Option (Int × Int × (List (S42)))
  | 0,_,_,_,_,_,_,_,_,_,_=>none
  | k + 1,x1,x6,x548000,x548001,x548002,x548003,x548004,x553000,x553001,x553002=>if x6 ≥ 0 then (if (wrap64 ((x548002.length:Int) + 1)) = 0 then (none) else (if (Int.tmod x1 (wrap64 ((x548002.length:Int) + 1))) > 0 then (if 0 ≤ (wrap64 ((Int.tmod x1 (wrap64 ((x548002.length:Int) + 1))) - 1)) then (if (wrap64 ((Int.tmod x1 (wrap64 ((x548002.length:Int) + 1))) - 1)) < (x548002.length:Int) then (if 0 ≤ x6 then (if x6 < (x553002.length:Int) then (impl_boardOf.l0 k (wrap64 (Int.tdiv x1 (wrap64 ((x548002.length:Int) + 1)))) (wrap64 (x6 - 1)) x548000 x548001 x548002 x548003 x548004 x553000 x553001 (x553002.set (x6:Int).toNat (⟨(rd_T42 x548002 (wrap64 ((Int.tmod x1 (wrap64 ((x548002.length:Int) + 1))) - 1))).f0,(rd_T42 x548002 (wrap64 ((Int.tmod x1 (wrap64 ((x548002.length:Int) + 1))) - 1))).f1⟩:S42))) else (none)) else (none)) else (none)) else (none)) else (impl_boardOf.l0 k (wrap64 (Int.tdiv x1 (wrap64 ((x548002.length:Int) + 1)))) (wrap64 (x6 - 1)) x548000 x548001 x548002 x548003 x548004 x553000 x553001 x553002))) else (some (x553000,x553001,x553002))
def impl_boardOf.f (k:Nat) (a0_0:Int) (a0_1:Int) (l0_2:List (S42)) (l0_3:List Int) (l0_4:List Int) (a1:Int):Option (Int × Int × (List (S42))):=if 0 ≤ (wrap64 (a0_0 * a0_1)) then (if (wrap64 (a0_0 * a0_1):Int).toNat ≤ 17592186044416 then ((some (List.replicate (wrap64 (a0_0 * a0_1):Int).toNat z42:List (S42))).bind fun y549=>(impl_boardOf.l0 k a1 (wrap64 ((y549.length:Int) - 1)) a0_0 a0_1 l0_2 l0_3 l0_4 a0_0 a0_1 y549)) else (none)) else (none)
theorem impl_boardOf.calls (k:Nat) (a0_0:Int) (a0_1:Int) (A0_2:Option Addr) (c0_2:Nat) (l0_2:List (S42)) (A0_3:Option Addr) (c0_3:Nat) (l0_3:List Int) (A0_4:Option Addr) (c0_4:Nat) (l0_4:List Int) (a1:Int) (r1:Int) (r2:Int) (r3:List (S42)) (w:World) (hr0_2:Kd.C k42 w A0_2 l0_2.length l0_2) (hc0_2:l0_2.length ≤ c0_2) (hr0_3:Kd.C (Kd.int .i64) w A0_3 l0_3.length l0_3) (hc0_3:l0_3.length ≤ c0_3) (hr0_4:Kd.C (Kd.int .i64) w A0_4 l0_4.length l0_4) (hc0_4:l0_4.length ≤ c0_4) (h:impl_boardOf.f k a0_0 a0_1 l0_2 l0_3 l0_4 a1 = some (r1,r2,r3)) :
    Calls Try.prog 182 #[.agg #[.int .i64 a0_0,.int .i64 a0_1,.slice A0_2 l0_2.length c0_2,.slice A0_3 l0_3.length c0_3,.slice A0_4 l0_4.length c0_4],.int .i64 a1] w fun e w'=>∃ v2_:Value,e = .returned (.agg #[.int .i64 r1,.int .i64 r2,v2_])∧Kd.R k42 42 w' w.heap.size (fun _=>True) v2_ r3∧Below w.heap.size w w':=by
 have S:=St.init (w:=w) (dc k42_heap at42 hr0_2 hc0_2 (dc (Kd.heap_int .i64) (atI .i64) hr0_3 hc0_3 (dc (Kd.heap_int .i64) (atI .i64) hr0_4 hc0_4 dn)))
 clear hr0_2 hc0_2 hr0_3 hc0_3 hr0_4 hc0_4
 have F:=S.fc
 have H:=h;clear h;unfold impl_boardOf.f at H
 obtain ⟨ji3,hji3⟩:∃ j_:Int,(wrap64 (a0_0 * a0_1)) = j_:=⟨_,rfl⟩;simp only [hji3] at H
 have hji3w:(IntKind.i64.wrap (a0_0 * a0_1)) = ji3:=(i64_w _).trans hji3
 replace H:=np_ H;obtain ⟨c4,H⟩:=H
 replace H:=np_ H;obtain ⟨c5,H⟩:=H
 (first | (with_reducible replace H:=ob_ H;obtain ⟨y549,hy549,H⟩:=H;(try dsimp only at H)) | (obtain ⟨y549,hy549⟩:∃ y_:List (S42),y_ = (List.replicate (ji3:Int).toNat z42):=⟨_,rfl⟩;(try rw [← hy549] at H);(try simp only [Option.bind_some] at H)));have Ny549:=Aside0.mk hy549;clear hy549
 go_enter Try.func182,Try.ntmps182
 go_wp2_with (first | ((with_reducible refine gd 2 rfl (L ?_));refine bo 2 (.agg #[_,_,_,_,_]) S ?_;clear S F;intro gb547 W S;have F:=S.fc) | ((with_reducible refine gd 4 rfl (L ?_));refine al 4 S zi30 ?_;clear S F;intro gb548 W S;have F:=S.fc) | ((with_reducible refine gs (t:=30) rfl (L ?_));(first | refine sb (.agg #[_,_,_]) S sz30 ?_ | refine ro (.agg #[_,_,_]) S sz30 ?_ (ho:=rfl) (hx:=rfl) (hy:=rfl));clear S F;intro W S;(try simp only [gd42] at S);(try rw [← Ny549.out] at S);have F:=S.fc) | ((with_reducible refine gs (t:=42) rfl (L ?_));(first | refine sb (.agg #[_,_]) S sz42 ?_ | refine ro (.agg #[_,_]) S sz42 ?_ (ho:=rfl) (hx:=rfl) (hy:=rfl));clear S F;intro W S;(try simp only [gd42] at S);(try rw [← Ny549.out] at S);have F:=S.fc))
 refine rgF S (fun _ S=>S) (fkc 11 5 zi30 fk0) [(0,0),(0,2),(0,4),(0,6),(1,1),(1,3),(1,5),(1,7),(0,8),(2,9),(0,10)] [(3,12)] [12] (id:=1) (h:=?_);clear S F;intro W S;have S0:=S;have F:=S.fc
 repeat (first | (refine f0 (h:=?_)) | (refine f1 S0 (h:=?_)) | (refine f0n (h:=?_)) | (refine f1n S0 (h:=?_)))
 refine fe2 S (by rfl) ?_;intro x5_ X W S;simp only [List.cons_append,List.nil_append,putF,Act.put,za_,zb_,zc_] at S ⊢;clear F;have F:=S.fc;refine ⟨rfl,?_⟩;refine mka 17 at42 S Try.underlying24 info42 ?_;clear S F;intro Ay549 cy549 W S;(try simp only [Int.reduceToNat] at S ⊢);(try rw [← Ny549.out] at S ⊢);have F:=S.fc
 clear S0;have S0:=(S.nx X).tl;refine ⟨S0,?_⟩
 repeat (first | (refine f0 (h:=?_)) | (refine f1 S0 (h:=?_)) | (refine f0n (h:=?_)) | (refine f1n S0 (h:=?_)))
 refine fz S ?_;intro gb552 W S;simp only [bxs,fbox,ptr,List.map_cons,List.map_nil,List.cons_append,List.nil_append,putF,Act.put,za_,zb_,zc_] at S ⊢;clear F S0;have S0:=S.tl.tl;have F:=S.fc
 refine lk3 (by rfl) (by exact (Eq.refl true)) ?_;(first | refine sb (.agg #[_,_,_]) S sz30 ?_ | refine ro (.agg #[_,_,_]) S sz30 ?_ (ho:=rfl) (hx:=rfl) (hy:=rfl) | refine sb (.agg #[_,_]) S sz42 ?_ | refine ro (.agg #[_,_]) S sz42 ?_ (ho:=rfl) (hx:=rfl) (hy:=rfl));clear S F;intro W S;(try simp only [gd42] at S);(try rw [← Ny549.out] at S);have F:=S.fc
 refine oz ?_
 try clear S0
 go_wp2_with (first | ((with_reducible refine gs (t:=30) rfl (L ?_));(first | refine sb (.agg #[_,_,_]) S sz30 ?_ | refine ro (.agg #[_,_,_]) S sz30 ?_ (ho:=rfl) (hx:=rfl) (hy:=rfl));clear S F;intro W S;(try simp only [gd42] at S);(try rw [← Ny549.out] at S);have F:=S.fc) | ((with_reducible refine gs (t:=42) rfl (L ?_));(first | refine sb (.agg #[_,_]) S sz42 ?_ | refine ro (.agg #[_,_]) S sz42 ?_ (ho:=rfl) (hx:=rfl) (hy:=rfl));clear S F;intro W S;(try simp only [gd42] at S);(try rw [← Ny549.out] at S);have F:=S.fc))
 go_loopg [1,6] k (fun kq v1 v6 w'=>∃ (x1_1:Int) (x6_1:Int) (x553002_1:List (S42)) (Ax553002_1:Option Addr) (cx553002_1:Nat),v1 = .int .i64 x1_1∧v6 = .int .i64 x6_1∧impl_boardOf.l0 kq x1_1 x6_1 a0_0 a0_1 l0_2 l0_3 l0_4 a0_0 a0_1 x553002_1 = some (r1,r2,r3)∧kq ≤ k∧St w w (fun _=>False) [bor at42 A0_2 c0_2 l0_2,bor (atI .i64) A0_3 c0_3 l0_3,bor (atI .i64) A0_4 c0_4 l0_4] w'  [box gb552 30 [.int .i64 a0_0,.int .i64 a0_1,.slice Ax553002_1 x553002_1.length cx553002_1],row at42 42 Ax553002_1 x553002_1.length cx553002_1 x553002_1,box gb548 30 [.int .i64 0,.int .i64 0,.slice none 0 0],box gb547 27 [.int .i64 a0_0,.int .i64 a0_1,.slice A0_2 l0_2.length c0_2,.slice A0_3 l0_3.length c0_3,.slice A0_4 l0_4.length c0_4]])
 case atStart=>exact ⟨a1,(wrap64 ((y549.length:Int) - 1)),y549,_,_,(by first | rfl | (simp;done) | (simp [*];done) | (rw [w6_ (by omega) (by omega)])),(by first | rfl | (simp;done) | (simp [*];done) | (rw [w6_ (by omega) (by omega)])),H,Nat.le_refl _,S⟩
 case round =>
  clear H S F
  obtain ⟨x1_1,x6_1,x553002_1,Ax553002_1,cx553002_1,rfl,rfl,HA,HK1,S⟩:=hrel
  have F:=S.fc
  cases gk with
  | zero=>exact absurd HA (by simp [impl_boardOf.l0])
  | succ k1 =>
   have H:=HA;clear HA;simp only [impl_boardOf.l0,F] at H
   replace H:=sp_ H;rcases H with ⟨c21,H⟩ | ⟨c21,H⟩
   · skip
     replace H:=nn_ H;obtain ⟨c22,H⟩:=H
     replace c22:=cne c22
     replace H:=sp_ H;rcases H with ⟨c23,H⟩ | ⟨c23,H⟩
     · skip
       obtain ⟨ji24,hji24⟩:∃ j_:Int,(wrap64 ((Int.tmod x1_1 (wrap64 ((l0_2.length:Int) + 1))) - 1)) = j_:=⟨_,rfl⟩;simp only [hji24] at H
       have hji24w:(IntKind.i64.wrap ((Int.tmod x1_1 (wrap64 ((l0_2.length:Int) + 1))) - 1)) = ji24:=(i64_w _).trans hji24
       replace H:=np_ H;obtain ⟨c25,H⟩:=H
       replace H:=np_ H;obtain ⟨c26,H⟩:=H
       replace H:=np_ H;obtain ⟨c27,H⟩:=H
       replace H:=np_ H;obtain ⟨c28,H⟩:=H
       (first | (with_reducible replace H:=ob_ H;obtain ⟨y554,hy554,H⟩:=H;(try dsimp only at H)) | (obtain ⟨y554,hy554⟩:∃ y_:List (S42),y_ = (x553002_1.set (x6_1:Int).toNat (⟨(rd_T42 l0_2 (ji24)).f0,(rd_T42 l0_2 (ji24)).f1⟩:S42)):=⟨_,rfl⟩;(try rw [← hy554] at H);(try simp only [Option.bind_some] at H)));have Ny554:=Aside0.mk hy554;clear hy554
       go_wp2_with (first | ((with_reducible refine gs (t:=30) rfl (L ?_));(first | refine sb (.agg #[_,_,_]) S sz30 ?_ | refine ro (.agg #[_,_,_]) S sz30 ?_ (ho:=rfl) (hx:=rfl) (hy:=rfl));clear S F;intro W S;(try simp only [gd42] at S);(try rw [← Ny549.out] at S);(try rw [← Ny554.out] at S);have F:=S.fc) | ((with_reducible refine gs (t:=42) rfl (L ?_));(first | refine sb (.agg #[_,_]) S sz42 ?_ | refine ro (.agg #[_,_]) S sz42 ?_ (ho:=rfl) (hx:=rfl) (hy:=rfl));clear S F;intro W S;(try simp only [gd42] at S);(try rw [← Ny549.out] at S);(try rw [← Ny554.out] at S);have F:=S.fc))
       refine rq S [(0,0),(0,2),(0,3),(0,5),(0,6),(1,1),(1,4),(0,7),(1,8),(0,9),(3,10)] [10] (h:=?_);clear S F;intro W S;have S0:=S;have F:=S.fc
       repeat (first | (refine q0 (h:=?_)) | (refine q1 S0 (h:=?_)) | (refine q0n (h:=?_)) | (refine q1n S0 (h:=?_)))
       refine lk3 (by rfl) (by exact (Eq.refl true)) ?_;(first | refine sb (.agg #[_,_,_]) S sz30 ?_ | refine ro (.agg #[_,_,_]) S sz30 ?_ (ho:=rfl) (hx:=rfl) (hy:=rfl) | refine sb (.agg #[_,_]) S sz42 ?_ | refine ro (.agg #[_,_]) S sz42 ?_ (ho:=rfl) (hx:=rfl) (hy:=rfl));clear S F;intro W S;(try simp only [gd42] at S);(try rw [← Ny549.out] at S);(try rw [← Ny554.out] at S);have F:=S.fc
       refine oz ?_
       try clear S0
       go_wp2_with (first | ((with_reducible refine gs (t:=30) rfl (L ?_));(first | refine sb (.agg #[_,_,_]) S sz30 ?_ | refine ro (.agg #[_,_,_]) S sz30 ?_ (ho:=rfl) (hx:=rfl) (hy:=rfl));clear S F;intro W S;(try simp only [gd42] at S);(try rw [← Ny549.out] at S);(try rw [← Ny554.out] at S);have F:=S.fc) | ((with_reducible refine gs (t:=42) rfl (L ?_));(first | refine sb (.agg #[_,_]) S sz42 ?_ | refine ro (.agg #[_,_]) S sz42 ?_ (ho:=rfl) (hx:=rfl) (hy:=rfl));clear S F;intro W S;(try simp only [gd42] at S);(try rw [← Ny549.out] at S);(try rw [← Ny554.out] at S);have F:=S.fc))
       go_roundg k1
       case measure=>omega
       case rel=>(try rw [← (show y554.length = x553002_1.length by first | simp only [F] | (have F_:=F;simp only [Ny554.out,List.length_set] at F_;simp only [F_]))] at S);exact ⟨(wrap64 (Int.tdiv x1_1 (wrap64 ((l0_2.length:Int) + 1)))),(wrap64 (x6_1 - 1)),y554,_,_,(by first | rfl | (simp;done) | (simp [*];done) | (rw [w6_ (by omega) (by omega)])),(by first | rfl | (simp;done) | (simp [*];done) | (rw [w6_ (by omega) (by omega)])),H,(by first | omega | exact Nat.le_refl _),S⟩
     · skip
       go_wp2_with (first | ((with_reducible refine gs (t:=30) rfl (L ?_));(first | refine sb (.agg #[_,_,_]) S sz30 ?_ | refine ro (.agg #[_,_,_]) S sz30 ?_ (ho:=rfl) (hx:=rfl) (hy:=rfl));clear S F;intro W S;(try simp only [gd42] at S);(try rw [← Ny549.out] at S);have F:=S.fc) | ((with_reducible refine gs (t:=42) rfl (L ?_));(first | refine sb (.agg #[_,_]) S sz42 ?_ | refine ro (.agg #[_,_]) S sz42 ?_ (ho:=rfl) (hx:=rfl) (hy:=rfl));clear S F;intro W S;(try simp only [gd42] at S);(try rw [← Ny549.out] at S);have F:=S.fc))
       go_roundg k1
       case measure=>omega
       case rel=>exact ⟨(wrap64 (Int.tdiv x1_1 (wrap64 ((l0_2.length:Int) + 1)))),(wrap64 (x6_1 - 1)),x553002_1,_,_,(by first | rfl | (simp;done) | (simp [*];done) | (rw [w6_ (by omega) (by omega)])),(by first | rfl | (simp;done) | (simp [*];done) | (rw [w6_ (by omega) (by omega)])),H,(by first | omega | exact Nat.le_refl _),S⟩
   · skip
     simp only [Option.some.injEq,Prod.mk.injEq] at H
     obtain ⟨rfl,rfl,rfl⟩:=H
     go_wp2_with (first | ((with_reducible refine gs (t:=30) rfl (L ?_));(first | refine sb (.agg #[_,_,_]) S sz30 ?_ | refine ro (.agg #[_,_,_]) S sz30 ?_ (ho:=rfl) (hx:=rfl) (hy:=rfl));clear S F;intro W S;(try simp only [gd42] at S);(try rw [← Ny549.out] at S);have F:=S.fc) | ((with_reducible refine gs (t:=42) rfl (L ?_));(first | refine sb (.agg #[_,_]) S sz42 ?_ | refine ro (.agg #[_,_]) S sz42 ?_ (ho:=rfl) (hx:=rfl) (hy:=rfl));clear S F;intro W S;(try simp only [gd42] at S);(try rw [← Ny549.out] at S);have F:=S.fc))
     refine bodyPost_ret (results_cell_row rfl _ _ gb548 30 #[.int .i64 a0_0,.int .i64 a0_1,.slice Ax553002_1 x553002_1.length cx553002_1] (0,0) _ rfl S.hb Try.underlying30 rfl (by kernel_rfl)) rfl ?_
     exact ⟨_,(by first | rfl | (simp [e0_,e1_] <;> rfl) | (simp [*,e0_,e1_] <;> rfl)),(by first | exact S.r | exact Kd.R_nil _ _ _ _ _),S.below⟩

/-! ### impl_solutionsOf_1: function 181 -/
/-- What a range over solutionsOf does, told as a fold: step is the body. -/
def solFold {σ:Type} (step:Nat→σ→Int→Int→List S42→Option (σ × Bool)) (r c:Int) (p:List S42) (e ns:List Int):Nat→Int→σ→Option (σ × Bool)
 | 0,_,_=>none
 | k + 1,n,s=>(impl_boardsTried.f k r c p e ns).bind fun t=>if n < t then (impl_boardOf.f k r c p e ns n).bind fun b=>(impl_hasEnds.f k r c p e ns b.1 b.2.1 b.2.2).bind fun y=>if y = true then (step k s b.1 b.2.1 b.2.2).bind fun q=>if q.2 = true then solFold step r c p e ns k (wrap64 (n + 1)) q.1 else some (q.1,false) else solFold step r c p e ns k (wrap64 (n + 1)) s else some (s,true)
/-- A board that a call of yield is handed. -/
def BdArg (args:Array Value) (W:World) (base:Nat) (r c:Int) (xs:List S42):Prop:=∃ A cap,args = #[.agg #[.int .i64 r,.int .i64 c,.slice A xs.length cap]]∧Kd.R k42 42 W base (fun _=>True) (.slice A xs.length cap) xs
theorem sols_folds {σ:Type} (step:Nat→σ→Int→Int→List S42→Option (σ × Bool)) (m k:Nat) (gc:Nat) (r c:Int) (A2:Option Addr) (c2:Nat) (p:List S42) (A3:Option Addr) (c3:Nat) (es:List Int) (A4:Option Addr) (c4:Nat) (ns:List Int) (s0:σ) (q:σ × Bool) (O:Nat→Prop) (base:Nat) (W:World) (hbase:base ≤ W.heap.size)
  (hq:∀ W',Kept W W' O→bxr gc 27 [.int .i64 r,.int .i64 c,.slice A2 p.length c2,.slice A3 es.length c3,.slice A4 ns.length c4] W'∧Kd.C k42 W' A2 p.length p∧Kd.C (Kd.int .i64) W' A3 es.length es∧Kd.C (Kd.int .i64) W' A4 ns.length ns)
  (h2:p.length ≤ c2) (h3:es.length ≤ c3) (h4:ns.length ≤ c4) (h:solFold step r c p es ns k 0 s0 = some q) :
  Folds Fence.wide m Try.prog 181 #[.pointer (some ⟨gc,0,none⟩)] (fun s args W1 s' go=>∃ kk r c xs,step kk s r c xs = some (s',go)∧BdArg args W1 base r c xs) (fun W W'=>Kept W W' O) s0 (fun s' go=>q = (s',go)) W:=by
 intro l J Jx hJ hJx hY h0
 refine callsIn_of_wp Try.func181 rfl trivial ?_ rfl
 simp only [Try.ntmps181,List.size_toArray,List.length_cons,List.length_nil,Nat.reduceAdd,Nat.reduceSub,Array.replicate_succ,Array.replicate_zero,List.push_toArray,List.append_toArray,List.nil_append,List.cons_append]
 refine wpIn_wide.2 ?_
 go_wp2
 go_loopg [3] k (fun kq v3 w'=>∃ (i:Int) (s:σ),v3 = .int .i64 i∧solFold step r c p es ns kq i s = some q∧Kept W w' O∧J s w')
 case atStart=>exact ⟨0,s0,rfl,h,Kept.refl _ _,h0⟩
 case round =>
  clear h h0
  obtain ⟨i,s,rfl,H,HK,HJ⟩:=hrel
  obtain ⟨hb,hp,he,hn⟩:=hq _ HK
  have S:=St.init (w:=wr) (db hb (dc k42_heap at42 hp h2 (dc (Kd.heap_int .i64) (atI .i64) he h3 (dc (Kd.heap_int .i64) (atI .i64) hn h4 dn))))
  clear hb hp he hn
  have F:=S.fc
  cases gk with
  | zero=>exact absurd H (by simp [solFold])
  | succ k1 =>
   simp only [solFold] at H
   replace H:=Option.bind_eq_some_iff.mp H;obtain ⟨t,A3_,H⟩:=H;(try dsimp only at H)
   replace H:=sp_ H;rcases H with ⟨ct,H⟩ | ⟨ct,H⟩
   · skip
     replace H:=Option.bind_eq_some_iff.mp H;obtain ⟨⟨b1,b2,b3⟩,A5,H⟩:=H;(try dsimp only at H)
     replace H:=Option.bind_eq_some_iff.mp H;obtain ⟨y,A6,H⟩:=H;(try dsimp only at H)
     replace H:=sp_ H;rcases H with ⟨cy,H⟩ | ⟨cy,H⟩
     · subst cy
       replace H:=Option.bind_eq_some_iff.mp H;obtain ⟨⟨s2,go⟩,A7,H⟩:=H;(try dsimp only at H)
       go_upto_region 4 with (first | ((with_reducible refine gate_callee (f:=128) rfl (L ?_));refine cl (some 7) Try.func128 (impl_boardsTried.calls _ _ _ _ _ _ _ _ _ _ _ _ _ _ S.c S.n S.c S.n S.c S.n A3_) (hargs:=by (simp only [ma_,mb_,mc_,F] <;> rfl)) (h:=?_);rintro e W ⟨rfl,hb⟩;refine ⟨_,rfl,?_⟩;replace S:=S.go hb;clear F hb;have F:=S.fc) | ((with_reducible refine gate_callee (f:=182) rfl (L ?_));refine cl (some 13) Try.func182 (impl_boardOf.calls _ _ _ _ _ _ _ _ _ _ _ _ _ _ _ _ _ S.c S.n S.c S.n S.c S.n A5) (hargs:=by (simp only [ma_,mb_,mc_,F] <;> rfl)) (h:=?_);rintro e W ⟨v432,rfl,ho0,hb⟩;refine ⟨_,rfl,?_⟩;replace S:=S.got at42 hb ho0;obtain ⟨Ab,cb,rfl,S⟩:=S;clear F hb ho0;have F:=S.fc) | ((with_reducible refine gd 4 rfl (L ?_));refine al 4 S zi30 ?_;clear S F;intro gb W S;have F:=S.fc) | ((with_reducible refine gs (t:=30) rfl (L ?_));(first | refine sb (.agg #[_,_,_]) S sz30 ?_ | refine ro (.agg #[_,_,_]) S sz30 ?_ (ho:=rfl) (hx:=rfl) (hy:=rfl));(clear S F;intro W S;have F:=S.fc)))
       refine (wpIn_wide (n:=m)).1 ?_
       gi_wp2_with (refine ⟨trivial,fun h_=>(by cases h_),?_⟩;gi_at_call 100;refine (callsIn_wide.2 (impl_hasEnds.calls _ _ _ _ _ _ _ _ _ _ _ _ _ _ _ _ _ _ _ S.c S.n S.c S.n S.c S.n S.c S.n A6)).mono ?_;rintro e W2 ⟨rfl,hb⟩;replace S:=S.go hb;clear F hb;have F:=S.fc;obtain ⟨fn,tmps,assign,body,hy,hR⟩:=hY s _ W2 s2 go (hJ _ _ _ HJ S.below) ⟨k1,b1,b2,b3,A7,_,_,rfl,Kd.R_lower (Kd.R_mono (S.rk 1 rfl) (fun _ _=>trivial)) (Nat.le_trans hbase HK.1)⟩)
       refine ⟨fun h_=>(by cases h_),?_⟩
       refine hR.mono ?_
       rintro e W3 ⟨rfl,⟨rfl,HJ3,HK3⟩ | ⟨rfl,HX⟩⟩
       · gi_wp2
         go_wp2
         go_roundg k1
         case measure=>omega
         case rel=>exact ⟨_,s2,(by first | rfl | (simp;done) | (simp [*];done) | (rw [w6_ (by omega) (by omega)])),H,kept_trans (Kept.below HK S.below) HK3,HJ3⟩
       · obtain rfl:=Option.some.inj H
         gi_wp2
         go_wp2
         refine bodyPost_ret (results_none rfl _ _ _) rfl ?_
         exact ⟨⟨_,rfl⟩,by first | exact HX | exact Or.inr ⟨_,rfl,HX⟩⟩
     · replace cy:=cbf cy;subst cy
       go_upto_region 4 with (first | ((with_reducible refine gate_callee (f:=128) rfl (L ?_));refine cl (some 7) Try.func128 (impl_boardsTried.calls _ _ _ _ _ _ _ _ _ _ _ _ _ _ S.c S.n S.c S.n S.c S.n A3_) (hargs:=by (simp only [ma_,mb_,mc_,F] <;> rfl)) (h:=?_);rintro e W ⟨rfl,hb⟩;refine ⟨_,rfl,?_⟩;replace S:=S.go hb;clear F hb;have F:=S.fc) | ((with_reducible refine gate_callee (f:=182) rfl (L ?_));refine cl (some 13) Try.func182 (impl_boardOf.calls _ _ _ _ _ _ _ _ _ _ _ _ _ _ _ _ _ S.c S.n S.c S.n S.c S.n A5) (hargs:=by (simp only [ma_,mb_,mc_,F] <;> rfl)) (h:=?_);rintro e W ⟨v432,rfl,ho0,hb⟩;refine ⟨_,rfl,?_⟩;replace S:=S.got at42 hb ho0;obtain ⟨Ab,cb,rfl,S⟩:=S;clear F hb ho0;have F:=S.fc) | ((with_reducible refine gd 4 rfl (L ?_));refine al 4 S zi30 ?_;clear S F;intro gb W S;have F:=S.fc) | ((with_reducible refine gs (t:=30) rfl (L ?_));(first | refine sb (.agg #[_,_,_]) S sz30 ?_ | refine ro (.agg #[_,_,_]) S sz30 ?_ (ho:=rfl) (hx:=rfl) (hy:=rfl));(clear S F;intro W S;have F:=S.fc)))
       refine (wpIn_wide (n:=m)).1 ?_
       gi_wp2_with (refine ⟨trivial,fun h_=>(by cases h_),?_⟩;gi_at_call 100;refine (callsIn_wide.2 (impl_hasEnds.calls _ _ _ _ _ _ _ _ _ _ _ _ _ _ _ _ _ _ _ S.c S.n S.c S.n S.c S.n S.c S.n A6)).mono ?_;rintro e W2 ⟨rfl,hb⟩;replace S:=S.go hb;clear F hb;have F:=S.fc)
       refine ⟨fun _ h_=>(by cases h_),?_⟩
       gi_wp2
       go_wp2
       go_roundg k1
       case measure=>omega
       case rel=>exact ⟨_,s,(by first | rfl | (simp;done) | (simp [*];done) | (rw [w6_ (by omega) (by omega)])),H,Kept.below HK S.below,hJ _ _ _ HJ S.below⟩
   · skip
     obtain rfl:=Option.some.inj H
     go_wp2_with (first | ((with_reducible refine gate_callee (f:=128) rfl (L ?_));refine cl (some 7) Try.func128 (impl_boardsTried.calls _ _ _ _ _ _ _ _ _ _ _ _ _ _ S.c S.n S.c S.n S.c S.n A3_) (hargs:=by (simp only [ma_,mb_,mc_,F] <;> rfl)) (h:=?_);rintro e W ⟨rfl,hb⟩;refine ⟨_,rfl,?_⟩;replace S:=S.go hb;clear F hb;have F:=S.fc))
     go_end0
     exact ⟨⟨_,rfl⟩,by first | exact hJ _ _ _ HJ S.below | exact Or.inl ⟨_,rfl,hJ _ _ _ HJ S.below⟩⟩

/-! ### impl_solutionsOf: function 92 -/
theorem impl_solutionsOf.calls (a0_0:Int) (a0_1:Int) (A0_2:Option Addr) (c0_2:Nat) (l0_2:List (S42)) (A0_3:Option Addr) (c0_3:Nat) (l0_3:List Int) (A0_4:Option Addr) (c0_4:Nat) (l0_4:List Int) (w:World) :
  Calls Try.prog 92 #[.agg #[.int .i64 a0_0,.int .i64 a0_1,.slice A0_2 l0_2.length c0_2,.slice A0_3 l0_3.length c0_3,.slice A0_4 l0_4.length c0_4]] w fun e w'=>∃ g,e = .returned (.func (.func 181) #[] #[.pointer (some ⟨g,0,none⟩)])∧bxr g 27 [.int .i64 a0_0,.int .i64 a0_1,.slice A0_2 l0_2.length c0_2,.slice A0_3 l0_3.length c0_3,.slice A0_4 l0_4.length c0_4] w'∧w.heap.size ≤ g∧Below w.heap.size w w':=by
 have S:=St.init (w:=w) dn
 go_enter Try.func92,Try.ntmps92
 go_wp2_with ((with_reducible refine gd 1 rfl (L ?_));refine bo 1 (.agg #[_,_,_,_,_]) S ?_;clear S;intro g W S)
 go_ret
 exact ⟨g,rfl,(bx_of S).1,(bx_of S).2,S.below⟩

/-! ### spec_l1All: function 124 -/
def spec_l1All.l0:Nat→Int→Int→List Int→Int→Int→Option (Bool)
 | 0,_,_,_,_,_=>none
 | k + 1,x1,x2,x9,x10,x11=>if x11 < x10 then (if 0 ≤ x11 then (if x11 < (x9.length:Int) then ((spec_l1In.f (rd x9 x11) x1 x2).bind fun t567=>(if t567 = true then (spec_l1All.l0 k x1 x2 x9 x10 (wrap64 (x11 + 1))) else (some false))) else (none)) else (none)) else (some true)
def spec_l1All.f (k:Nat) (l0:List Int) (a1:Int) (a2:Int):Option (Bool):=spec_l1All.l0 k a1 a2 l0 (l0.length:Int) 0
theorem spec_l1All.calls (k:Nat) (A0:Option Addr) (c0:Nat) (l0:List Int) (a1:Int) (a2:Int) (r:Bool) (w:World) (hr0:Kd.C (Kd.int .i64) w A0 l0.length l0) (hc0:l0.length ≤ c0) (h:spec_l1All.f k l0 a1 a2 = some r) :
  Calls Try.prog 124 #[.slice A0 l0.length c0,.int .i64 a1,.int .i64 a2] w fun e w'=>e = .returned (.bool r)∧Drawn0 w w':=by
 have HR0:=Aside0.mk hr0;have HC0:=Aside0.mk hc0;clear hr0 hc0;have H:(spec_l1All.l0 k a1 a2 l0 (l0.length:Int) 0) = some r:=h;clear h;have H':=Aside0.mk H;clear H;go_enter Try.func124,Try.ntmps124;go_wp2;go_loopg [11] k (fun kq v11 w'=>∃ (x11_1:Int),v11 = .int .i64 x11_1∧Aside0 (spec_l1All.l0 kq a1 a2 l0 (l0.length:Int) x11_1 = some r)∧Aside0 (kq ≤ k)∧Drawn0 w w')
 case atStart=>exact ⟨(0),(by first | rfl | (simp;done) | (simp [*];done)),H',⟨Nat.le_refl _⟩,by repeat (first | exact Drawn0.refl _ | apply Drawn0.step)⟩
 case round =>
  clear H';(try clear c1);(try clear p2);obtain ⟨x11_1,rfl,HA,HK1,⟨m1,rfl⟩⟩:=hrel;cases gk with
  | zero=>exact absurd HA.out (by simp [spec_l1All.l0])
  | succ k1 =>
   have H:=HA.out;clear HA;simp only [spec_l1All.l0] at H;by_cases c4:x11_1 < (l0.length:Int)
   ·rw [if_pos c4] at H;have c4b0:decide (x11_1 < (l0.length:Int)) = true:=decide_eq_true c4;clear c4;replace H:=np_ H;obtain ⟨c5,H⟩:=H;have c5b0:decide (0 ≤ x11_1) = true:=decide_eq_true c5;clear c5;replace H:=np_ H;obtain ⟨c6,H⟩:=H;have c6b0:decide (x11_1 < (l0.length:Int)) = true:=decide_eq_true c6;clear c6;replace H:=Option.bind_eq_some_iff.mp H;obtain ⟨t567,A70,H⟩:=H;(try dsimp only at H)
    have A7:=Aside0.mk A70;clear A70;by_cases c8:t567 = true
    ·subst c8;have H1:(spec_l1All.l0 k1 a1 a2 l0 (l0.length:Int) (wrap64 (x11_1 + 1))) = some r:=by rw [if_pos rfl] at H;exact H
     clear H;have H:=H1;clear H1;have H':=Aside0.mk H;clear H;have p566:0 ≤ (x11_1:Int):=of_decide_eq_true (by first | (with_reducible assumption) | assumption);have q566:x11_1 < (l0.length:Int):=of_decide_eq_true (by first | (with_reducible assumption) | assumption);obtain ⟨ad566,e566,hx566_0⟩:=Kd.at_int HR0.out x11_1 p566 q566;cases e566;replace p566:=eq_true p566;replace q566:=eq_true q566;go_wp2_with (first | ((with_reducible refine gate_callee (f:=116) rfl ?_);refine gL_ (some 18) Try.func116 #[.int .i64 (rd l0 x11_1),.int .i64 a1,.int .i64 a2] (h:=?_);(with_reducible refine (spec_l1In.calls (rd l0 x11_1) a1 a2 true _ A7.out).mono ?_);rintro e w' ⟨rfl,⟨nd,rfl⟩⟩;refine ⟨_,rfl,?_⟩))
     go_roundg k1
     case measure=>have:=HK1.out;omega
     case rel=>exact ⟨(wrap64 (x11_1 + 1)),(by first | rfl | (simp;done) | (simp [*];done)),H',⟨by have:=HK1.out;omega⟩,by repeat (first | exact Drawn0.refl _ | apply Drawn0.step)⟩
    ·replace c8:=Bool.eq_false_iff.mpr c8;subst c8;have H1:(some false) = some r:=by rw [if_neg (show ¬ (false = true) by decide)] at H;exact H
     clear H;have H:=H1;clear H1;obtain rfl:=Option.some.inj H;have p566:0 ≤ (x11_1:Int):=of_decide_eq_true (by first | (with_reducible assumption) | assumption);have q566:x11_1 < (l0.length:Int):=of_decide_eq_true (by first | (with_reducible assumption) | assumption);obtain ⟨ad566,e566,hx566_0⟩:=Kd.at_int HR0.out x11_1 p566 q566;cases e566;replace p566:=eq_true p566;replace q566:=eq_true q566;go_wp2_with (first | ((with_reducible refine gate_callee (f:=116) rfl ?_);refine gL_ (some 18) Try.func116 #[.int .i64 (rd l0 x11_1),.int .i64 a1,.int .i64 a2] (h:=?_);(with_reducible refine (spec_l1In.calls (rd l0 x11_1) a1 a2 false _ A7.out).mono ?_);rintro e w' ⟨rfl,⟨nd,rfl⟩⟩;refine ⟨_,rfl,?_⟩))
     go_ret;exact ⟨by first | rfl | (simp;done) | (simp [*];done),by repeat (first | exact Drawn0.refl _ | apply Drawn0.step)⟩
   ·rw [if_neg c4] at H;have c4b0:decide (x11_1 < (l0.length:Int)) = false:=decide_eq_false c4;clear c4;obtain rfl:=Option.some.inj H;go_wp2;go_ret;exact ⟨by first | rfl | (simp;done) | (simp [*];done),by repeat (first | exact Drawn0.refl _ | apply Drawn0.step)⟩

/-! ### spec_paGood: function 180 -/
def spec_paGood.f (a0_0:Int) (a0_1:Int):Option (Bool):=(spec_l1In.f a0_0 0 7).bind fun t569=>(if t569 = true then (if a0_1 = 0 then (some true) else (if a0_1 = 1 then ((spec_paTurning.f a0_0 a0_1).bind fun t570=>(some t570)) else (some false))) else (some false))
theorem spec_paGood.calls (a0_0:Int) (a0_1:Int) (r:Bool) (w:World) (h:spec_paGood.f a0_0 a0_1 = some r) :
    Calls Try.prog 180 #[.agg #[.int .i64 a0_0,.int .i64 a0_1]] w fun e w'=>e = .returned (.bool r)∧Below w.heap.size w w':=by
 have S:=St.init (w:=w) dn
 have F:=S.fc
 have H:=h;clear h;unfold spec_paGood.f at H
 replace H:=Option.bind_eq_some_iff.mp H;obtain ⟨t569,A2,H⟩:=H;(try dsimp only at H)
 replace H:=sp_ H;rcases H with ⟨c3,H⟩ | ⟨c3,H⟩
 · skip
   subst c3
   replace H:=sp_ H;rcases H with ⟨c4,H⟩ | ⟨c4,H⟩
   · skip
     replace c4:=ceq c4
     obtain rfl:=Option.some.inj H
     go_enter Try.func180,Try.ntmps180
     go_wp2_with (first | ((with_reducible refine gd 1 rfl (L ?_));refine bo 1 (.agg #[_,_]) S ?_;clear S F;intro gb568 W S;have F:=S.fc) | ((with_reducible refine gate_callee (f:=116) rfl (L ?_));refine cl (some 5) Try.func116 (spec_l1In.calls _ _ _ _ _ A2) (hargs:=by (simp only [ma_,mb_,mc_,F] <;> rfl)) (h:=?_);rintro e W ⟨rfl,hb⟩;refine ⟨_,rfl,?_⟩;replace S:=S.gw hb;clear F hb;have F:=S.fc))
     go_ret
     exact ⟨(by first | rfl | (simp [e0_,e1_] <;> rfl) | (simp [*,e0_,e1_] <;> rfl)),S.below⟩
   · skip
     replace c4:=cne c4
     replace H:=sp_ H;rcases H with ⟨c7,H⟩ | ⟨c7,H⟩
     · skip
       replace c7:=ceq c7
       replace H:=Option.bind_eq_some_iff.mp H;obtain ⟨t570,A8,H⟩:=H;(try dsimp only at H)
       obtain rfl:=Option.some.inj H
       go_enter Try.func180,Try.ntmps180
       go_wp2_with (first | ((with_reducible refine gd 1 rfl (L ?_));refine bo 1 (.agg #[_,_]) S ?_;clear S F;intro gb568 W S;have F:=S.fc) | ((with_reducible refine gate_callee (f:=116) rfl (L ?_));refine cl (some 5) Try.func116 (spec_l1In.calls _ _ _ _ _ A2) (hargs:=by (simp only [ma_,mb_,mc_,F] <;> rfl)) (h:=?_);rintro e W ⟨rfl,hb⟩;refine ⟨_,rfl,?_⟩;replace S:=S.gw hb;clear F hb;have F:=S.fc) | (go_at_call 214;(try simp only [F]);refine (spec_paTurning.calls _ _ _ _ A8).mono ?_;rintro e W ⟨rfl,hb⟩;replace S:=S.go hb;clear F hb;have F:=S.fc))
       go_ret
       exact ⟨(by first | rfl | (simp [e0_,e1_] <;> rfl) | (simp [*,e0_,e1_] <;> rfl)),S.below⟩
     · skip
       replace c7:=cne c7
       obtain rfl:=Option.some.inj H
       go_enter Try.func180,Try.ntmps180
       go_wp2_with (first | ((with_reducible refine gd 1 rfl (L ?_));refine bo 1 (.agg #[_,_]) S ?_;clear S F;intro gb568 W S;have F:=S.fc) | ((with_reducible refine gate_callee (f:=116) rfl (L ?_));refine cl (some 5) Try.func116 (spec_l1In.calls _ _ _ _ _ A2) (hargs:=by (simp only [ma_,mb_,mc_,F] <;> rfl)) (h:=?_);rintro e W ⟨rfl,hb⟩;refine ⟨_,rfl,?_⟩;replace S:=S.gw hb;clear F hb;have F:=S.fc))
       go_ret
       exact ⟨(by first | rfl | (simp [e0_,e1_] <;> rfl) | (simp [*,e0_,e1_] <;> rfl)),S.below⟩
 · skip
   replace c3:=cbf c3;subst c3
   obtain rfl:=Option.some.inj H
   go_enter Try.func180,Try.ntmps180
   go_wp2_with (first | ((with_reducible refine gd 1 rfl (L ?_));refine bo 1 (.agg #[_,_]) S ?_;clear S F;intro gb568 W S;have F:=S.fc) | ((with_reducible refine gate_callee (f:=116) rfl (L ?_));refine cl (some 5) Try.func116 (spec_l1In.calls _ _ _ _ _ A2) (hargs:=by (simp only [ma_,mb_,mc_,F] <;> rfl)) (h:=?_);rintro e W ⟨rfl,hb⟩;refine ⟨_,rfl,?_⟩;replace S:=S.gw hb;clear F hb;have F:=S.fc))
   go_ret
   exact ⟨(by first | rfl | (simp [e0_,e1_] <;> rfl) | (simp [*,e0_,e1_] <;> rfl)),S.below⟩
end Go.Proofs.Ytnmffpfiichjgaa.F
