-- Printed by a program; checked here.
import Derived.Test.YtnmffpfiichjgaaF0
import Derived.Test.YtnmffpfiichjgaaF1
import Derived.Test.YtnmffpfiichjgaaF3
import Derived.Test.YtnmffpfiichjgaaF4
import Derived.Test.YtnmffpfiichjgaaF5
import Derived.Test.YtnmffpfiichjgaaF6
namespace Go.Proofs.Ytnmffpfiichjgaa.F
open Go.RowKit Go.Proofs.YtnmffpfiichjgaaV.PrintWords Go.Proofs.YtnmffpfiichjgaaV.PrintLast Go.Proofs.YtnmffpfiichjgaaV.PrintMore Go.Proofs.YtnmffpfiichjgaaV.Sl Go.Proofs.YtnmffpfiichjgaaV.Rf
attribute [local go_sem] max2_int min2_int max_two min_two max_three min_three max_four min_four ia_opt it_opt
attribute [local go_sem] Try.underlying4 Try.underlying23 Try.underlying24 Try.underlying25 Try.underlying27 Try.underlying30 Try.underlying42 Try.underlying68 Try.underlying80 Try.underlying111
set_option maxHeartbeats 8000000
set_option maxRecDepth 100000
set_option linter.unusedVariables false
set_option linter.unusedSimpArgs false

attribute [local go_sem high] eqA42
/-! ### spec_UsefulParts: function 15 -/
mutual
def spec_UsefulParts.j0:Nat→Bool→Int→Int→List (S42)→List Int→List Int→Option (List Int × Bool)
 | 0,_,_,_,_,_,_=>none
 | k + 1,x14,x698000,x698001,x698002,x698003,x698004=>if x14 = true then (some (([]:List Int),false)) else (spec_UsefulParts.l0 k ([]:List Int) (x698002.length:Int) 0 x698000 x698001 x698002 x698003 x698004)
def spec_UsefulParts.l0:Nat→List Int→Int→Int→Int→Int→List (S42)→List Int→List Int→Option (List Int × Bool)
 | 0,_,_,_,_,_,_,_,_=>none
 | k + 1,x4,x17,x18,x698000,x698001,x698002,x698003,x698004=>if x18 < x17 then ((some (([]:List (S42)):List (S42))).bind fun y701=>(if 0 ≤ x18 then (if x18 ≤ (x698002.length:Int) then ((some (x698002.take (x18:Int).toNat:List (S42))).bind fun y704=>(if y701.length + y704.length < 8796093022208 then ((some (y701 ++ y704:List (S42))).bind fun y708=>(if 0 ≤ (wrap64 (x18 + 1)) then (if (wrap64 (x18 + 1)) ≤ (x698002.length:Int) then ((some (x698002.drop ((wrap64 (x18 + 1)):Int).toNat:List (S42))).bind fun y711=>(if y708.length + y711.length < 8796093022208 then ((spec_syCan.f k x698000 x698001 (y708 ++ y711) x698003 x698004).bind fun t718=>(if t718 = true then (spec_UsefulParts.l0 k x4 x17 (wrap64 (x18 + 1)) x698000 x698001 x698002 x698003 x698004) else (if x4.length < 17592186044416 then (spec_UsefulParts.l0 k (x4 ++ [x18]) x17 (wrap64 (x18 + 1)) x698000 x698001 x698002 x698003 x698004) else (none)))) else (none))) else (none)) else (none))) else (none))) else (none)) else (none))) else (some (x4,true))
end
def spec_UsefulParts.f (k:Nat) (a0_0:Int) (a0_1:Int) (l0_2:List (S42)) (l0_3:List Int) (l0_4:List Int):Option (List Int × Bool):=(spec_syGood.f k a0_0 a0_1 l0_2 l0_3 l0_4).bind fun t698=>(if t698 = true then ((spec_syCan.f k a0_0 a0_1 l0_2 l0_3 l0_4).bind fun t699=>(spec_UsefulParts.j0 k (!t699) a0_0 a0_1 l0_2 l0_3 l0_4)) else (spec_UsefulParts.j0 k true a0_0 a0_1 l0_2 l0_3 l0_4))
def spec_UsefulParts.T8:Bool × List (List Nat × List Nat):=(true,[([],[]),([],[]),([1],[1]),([],[]),([2,3],[2,3]),([0,4],[0,4]),([],[]),([6],[6]),([],[]),([8],[8]),([7,9],[7,9]),([5,10,5],[5,10]),([0,1,2,3,4,5,6,7,8,9,10,11],[]),([12,11,11,0,1,2,3,4,5,6,7,8,9,10,11],[11,12])])
def spec_UsefulParts.B8:List Nat:=[0,0,2,0,14,31,0,64,0,256,960,2047,4095,8191]
theorem spec_UsefulParts.tab8:rtab .any (opsOf Try.f15 8) = spec_UsefulParts.T8:=by kernel_rfl
theorem spec_UsefulParts.bits8:waitsOk spec_UsefulParts.T8.2 spec_UsefulParts.B8 = true:=by kernel_rfl
theorem spec_UsefulParts.calls (k:Nat) (a0_0:Int) (a0_1:Int) (A0_2:Option Addr) (c0_2:Nat) (l0_2:List (S42)) (A0_3:Option Addr) (c0_3:Nat) (l0_3:List Int) (A0_4:Option Addr) (c0_4:Nat) (l0_4:List Int) (r1:List Int) (r2:Bool) (w:World) (hr0_2:Kd.C k42 w A0_2 l0_2.length l0_2) (hc0_2:l0_2.length ≤ c0_2) (hr0_3:Kd.C (Kd.int .i64) w A0_3 l0_3.length l0_3) (hc0_3:l0_3.length ≤ c0_3) (hr0_4:Kd.C (Kd.int .i64) w A0_4 l0_4.length l0_4) (hc0_4:l0_4.length ≤ c0_4) (h:spec_UsefulParts.f k a0_0 a0_1 l0_2 l0_3 l0_4 = some (r1,r2)) :
  Calls Try.prog 15 #[.agg #[.int .i64 a0_0,.int .i64 a0_1,.slice A0_2 l0_2.length c0_2,.slice A0_3 l0_3.length c0_3,.slice A0_4 l0_4.length c0_4]] w fun e w'=>∃ v0_:Value,e = .returned (.tuple #[v0_,.bool r2])∧Kd.R (Kd.int .i64) 3 w' w.heap.size (fun _=>True) v0_ r1∧Below w.heap.size w w':=by
 have HR0_2:=Aside0.mk hr0_2;have HC0_2:=Aside0.mk hc0_2;clear hr0_2 hc0_2;have HR0_3:=Aside0.mk hr0_3;have HC0_3:=Aside0.mk hc0_3;clear hr0_3 hc0_3;have HR0_4:=Aside0.mk hr0_4;have HC0_4:=Aside0.mk hc0_4;clear hr0_4 hc0_4;have HB:=Aside0.mk (Below.refl w.heap.size w);have H:((spec_syGood.f k a0_0 a0_1 l0_2 l0_3 l0_4).bind fun t698=>(if t698 = true then ((spec_syCan.f k a0_0 a0_1 l0_2 l0_3 l0_4).bind fun t699=>(spec_UsefulParts.j0 k (!t699) a0_0 a0_1 l0_2 l0_3 l0_4)) else (spec_UsefulParts.j0 k true a0_0 a0_1 l0_2 l0_3 l0_4))) = some (r1,r2):=h;clear h;have HC2:=Aside0.mk H;clear H;go_enter Try.func15,Try.ntmps15;go_upto_region 1 with (first | ((with_reducible refine gate_dst (N:=1) rfl ?_);refine box_event ?hg (N:=1) ?hd (cs:=#[.int .i64 a0_0,.int .i64 a0_1,.slice A0_2 l0_2.length c0_2,.slice A0_3 l0_3.length c0_3,.slice A0_4 l0_4.length c0_4]) (t:=27) ?hr ?_;(case hd=>rfl);(case hg=>rfl);(case hr=>first | (go_simp;done) | (go_simp;rfl));intro gb697 hg w3 hbox hb;refine ev4 (bs HB hb) (hbox) (gle hg HB) (gle hg HB) ?_;clear HB;intro HB BK697 GW697 GE697;clear hb hbox hg))
 (try simp only [Act.put,za_,zb_,zc_])
 go_cut [14] (fun v14 wc=>∃ (kq:Nat) (x14_1:Bool),v14 = .bool x14_1∧Aside0 (spec_UsefulParts.j0 kq x14_1 a0_0 a0_1 l0_2 l0_3 l0_4 = some (r1,r2))∧Aside0 (kq ≤ k)∧Aside0 (wc.heap[gb697]? = some (.cells #[.int .i64 a0_0,.int .i64 a0_1,(.slice A0_2 l0_2.length c0_2),(.slice A0_3 l0_3.length c0_3),(.slice A0_4 l0_4.length c0_4)] 27 (0,0)))∧Aside0 (Below w.heap.size w wc))
 case first =>
  have H:=HC2.out;clear HC2;replace H:=Option.bind_eq_some_iff.mp H;obtain ⟨t698,A40,H⟩:=H;(try dsimp only at H)
  have A4:=Aside0.mk A40;clear A40;by_cases c5:t698 = true
  ·subst c5;have H1:((spec_syCan.f k a0_0 a0_1 l0_2 l0_3 l0_4).bind fun t699=>(spec_UsefulParts.j0 k (!t699) a0_0 a0_1 l0_2 l0_3 l0_4)) = some (r1,r2):=by rw [if_pos rfl] at H;exact H
   clear H;have H:=H1;clear H1;replace H:=Option.bind_eq_some_iff.mp H;obtain ⟨t699,A60,H⟩:=H;(try dsimp only at H)
   have A6:=Aside0.mk A60;clear A60;have H':=Aside0.mk H;clear H;obtain ⟨hcz7_0,hcz7_1,hcz7_2,hcz7_3,hcz7_4,hfz7_0,hfz7_1,hfz7_2,hfz7_3,hfz7_4⟩:=bt5 BK697;go_wp2_with (first | ((with_reducible refine gate_callee (f:=93) rfl ?_);refine gL_ (some 8) Try.func93 #[.agg #[.int .i64 a0_0,.int .i64 a0_1,.slice A0_2 l0_2.length c0_2,.slice A0_3 l0_3.length c0_3,.slice A0_4 l0_4.length c0_4]] (h:=?_);(with_reducible refine (spec_syGood.calls k a0_0 a0_1 _ _ l0_2 _ _ l0_3 _ _ l0_4 true _ (Kd.C_mv (Kd.C_below HR0_2.out HB.out)) HC0_2.out (Kd.C_mv (Kd.C_below HR0_3.out HB.out)) HC0_3.out (Kd.C_mv (Kd.C_below HR0_4.out HB.out)) HC0_4.out A4.out).mono ?_);rintro e w8 ⟨rfl,hb⟩;refine ⟨_,rfl,?_⟩;refine ev2 (kb BK697 hb) (bs HB hb) ?_;clear BK697 HB;intro BK697 HB;(try clear hb);obtain ⟨hcz9_0,hcz9_1,hcz9_2,hcz9_3,hcz9_4,hfz9_0,hfz9_1,hfz9_2,hfz9_3,hfz9_4⟩:=bt5 BK697) | (go_at_call 97;(with_reducible refine (spec_syCan.calls k a0_0 a0_1 _ _ l0_2 _ _ l0_3 _ _ l0_4 t699 _ (Kd.C_mv (Kd.C_below HR0_2.out HB.out)) HC0_2.out (Kd.C_mv (Kd.C_below HR0_3.out HB.out)) HC0_3.out (Kd.C_mv (Kd.C_below HR0_4.out HB.out)) HC0_4.out A6.out).mono ?_);rintro e w10 ⟨rfl,hb⟩;refine ev2 (kb BK697 hb) (bs HB hb) ?_;clear BK697 HB;intro BK697 HB;(try clear hb)))
   go_meet
   case rel=>exact ⟨_,(!t699),(by first | rfl | (simp;done) | (simp [*];done)),H',⟨by first | omega | exact Nat.le_refl _⟩,⟨km_ BK697⟩,⟨bm HB⟩⟩
  ·replace c5:=Bool.eq_false_iff.mpr c5;subst c5;have H1:(spec_UsefulParts.j0 k true a0_0 a0_1 l0_2 l0_3 l0_4) = some (r1,r2):=by rw [if_neg (show ¬ (false = true) by decide)] at H;exact H
   clear H;have H:=H1;clear H1;have H':=Aside0.mk H;clear H;obtain ⟨hcz11_0,hcz11_1,hcz11_2,hcz11_3,hcz11_4,hfz11_0,hfz11_1,hfz11_2,hfz11_3,hfz11_4⟩:=bt5 BK697;go_wp2_with (first | ((with_reducible refine gate_callee (f:=93) rfl ?_);refine gL_ (some 8) Try.func93 #[.agg #[.int .i64 a0_0,.int .i64 a0_1,.slice A0_2 l0_2.length c0_2,.slice A0_3 l0_3.length c0_3,.slice A0_4 l0_4.length c0_4]] (h:=?_);(with_reducible refine (spec_syGood.calls k a0_0 a0_1 _ _ l0_2 _ _ l0_3 _ _ l0_4 false _ (Kd.C_mv (Kd.C_below HR0_2.out HB.out)) HC0_2.out (Kd.C_mv (Kd.C_below HR0_3.out HB.out)) HC0_3.out (Kd.C_mv (Kd.C_below HR0_4.out HB.out)) HC0_4.out A4.out).mono ?_);rintro e w12 ⟨rfl,hb⟩;refine ⟨_,rfl,?_⟩;refine ev2 (kb BK697 hb) (bs HB hb) ?_;clear BK697 HB;intro BK697 HB;(try clear hb)))
   go_meet
   case rel=>exact ⟨_,(true),(by first | rfl | (simp;done) | (simp [*];done)),H',⟨by first | omega | exact Nat.le_refl _⟩,⟨km_ BK697⟩,⟨bm HB⟩⟩
 case rest =>
  clear HC2;(try clear c1);obtain ⟨kq,x14_1,rfl,HA,HJ1,BK697,HB⟩:=hcut;cases kq with
  | zero=>exact absurd HA.out (by simp [spec_UsefulParts.j0])
  | succ kj1 =>
   have H:=HA.out;clear HA;simp only [spec_UsefulParts.j0] at H;by_cases c13:x14_1 = true
   ·subst c13;have H1:(some (([]:List Int),false)) = some (r1,r2):=by rw [if_pos rfl] at H;exact H
    clear H;have H:=H1;clear H1;simp only [Option.some.injEq,Prod.mk.injEq] at H;obtain ⟨rfl,rfl⟩:=H;go_wp2;go_ret2
    exact ⟨_,by first | rfl | (simp [e0_,e1_] <;> rfl) | (simp [*,e0_,e1_] <;> rfl),by first | exact Kd.R_nil _ _ _ _ _ | exact Kd.N_nil _ _ _ _ _ | exact Kd.V_nil _ _ _ _ _ | exact Kd.Q_nil _ _ _ _ _ | exact Kd.S_nil _ _ _ _ _,bm HB⟩
   ·replace c13:=Bool.eq_false_iff.mpr c13;subst c13;have H1:(spec_UsefulParts.l0 kj1 ([]:List Int) (l0_2.length:Int) 0 a0_0 a0_1 l0_2 l0_3 l0_4) = some (r1,r2):=by rw [if_neg (show ¬ (false = true) by decide)] at H;exact H
    clear H;have H:=H1;clear H1;have H':=Aside0.mk H;clear H;obtain ⟨hcz14_0,hcz14_1,hcz14_2,hcz14_3,hcz14_4,hfz14_0,hfz14_1,hfz14_2,hfz14_3,hfz14_4⟩:=bt5 BK697;go_wp2;go_loopg [4,18] kj1 (fun kq v4 v18 w'=>∃ (x4_2:List Int) (x18_2:Int),v18 = .int .i64 x18_2∧Aside0 (spec_UsefulParts.l0 kq x4_2 (l0_2.length:Int) x18_2 a0_0 a0_1 l0_2 l0_3 l0_4 = some (r1,r2))∧Aside0 (kq ≤ kj1)∧Aside0 (Kd.R (Kd.int .i64) 3 w' w.heap.size (fun _=>True) v4 x4_2)∧Aside0 (w'.heap[gb697]? = some (.cells #[.int .i64 a0_0,.int .i64 a0_1,(.slice A0_2 l0_2.length c0_2),(.slice A0_3 l0_3.length c0_3),(.slice A0_4 l0_4.length c0_4)] 27 (0,0)))∧Aside0 (Below w.heap.size w w'))
    case atStart=>exact ⟨(([]:List Int)),(0),(by first | rfl | (simp;done) | (simp [*];done)),H',⟨Nat.le_refl _⟩,⟨by first | exact Kd.R_nil _ _ _ _ _ | exact Kd.N_nil _ _ _ _ _ | exact Kd.V_nil _ _ _ _ _ | exact Kd.Q_nil _ _ _ _ _ | exact Kd.S_nil _ _ _ _ _⟩,⟨km_ BK697⟩,⟨bm HB⟩⟩
    case round =>
     clear H';(try clear c1);(try clear p2);(try clear c13);(try clear hcz14_0 hcz14_1 hcz14_2 hcz14_3 hcz14_4 hfz14_0 hfz14_1 hfz14_2 hfz14_3 hfz14_4);obtain ⟨x4_2,x18_2,rfl,HA,HK2,HO_4,BK697,HB⟩:=hrel;cases gk with
     | zero=>exact absurd HA.out (by simp [spec_UsefulParts.l0])
     | succ k2 =>
      have H:=HA.out;clear HA;simp only [spec_UsefulParts.l0] at H;by_cases c15:x18_2 < (l0_2.length:Int)
      ·rw [if_pos c15] at H;have c15b0:decide (x18_2 < (l0_2.length:Int)) = true:=decide_eq_true c15;clear c15;obtain ⟨y701,hy701⟩:∃ y_:List (S42),y_ = (([]:List (S42))):=⟨_,rfl⟩
       replace H:(if 0 ≤ x18_2 then (if x18_2 ≤ (l0_2.length:Int) then ((some (l0_2.take (x18_2:Int).toNat:List (S42))).bind fun y704=>(if y701.length + y704.length < 8796093022208 then ((some (y701 ++ y704:List (S42))).bind fun y708=>(if 0 ≤ (wrap64 (x18_2 + 1)) then (if (wrap64 (x18_2 + 1)) ≤ (l0_2.length:Int) then ((some (l0_2.drop ((wrap64 (x18_2 + 1)):Int).toNat:List (S42))).bind fun y711=>(if y708.length + y711.length < 8796093022208 then ((spec_syCan.f k2 a0_0 a0_1 (y708 ++ y711) l0_3 l0_4).bind fun t718=>(if t718 = true then (spec_UsefulParts.l0 k2 x4_2 (l0_2.length:Int) (wrap64 (x18_2 + 1)) a0_0 a0_1 l0_2 l0_3 l0_4) else (if x4_2.length < 17592186044416 then (spec_UsefulParts.l0 k2 (x4_2 ++ [x18_2]) (l0_2.length:Int) (wrap64 (x18_2 + 1)) a0_0 a0_1 l0_2 l0_3 l0_4) else (none)))) else (none))) else (none)) else (none))) else (none))) else (none)) else (none)) = some (r1,r2):=by first | (rw [hy701];with_reducible exact H) | (have H2_:=(Option.bind_some _ _).symm.trans H;rw [hy701];with_reducible exact H2_) | (have H2_:=(Option.bind_some _ _).symm.trans H;with_reducible exact H2_) | with_reducible exact H | (rw [hy701];exact H) | exact H
       have Ny701:=Aside0.mk hy701;clear hy701;replace H:=np_ H;obtain ⟨c16,H⟩:=H;have c16b0:=eq_true c16;have c16b1:decide (0 ≤ x18_2) = true:=decide_eq_true c16;clear c16;replace H:=np_ H;obtain ⟨c17,H⟩:=H;have c17b0:=eq_true c17;have c17b1:decide (x18_2 ≤ (l0_2.length:Int)) = true:=decide_eq_true c17;clear c17;obtain ⟨y704,hy704⟩:∃ y_:List (S42),y_ = (l0_2.take (x18_2:Int).toNat):=⟨_,rfl⟩
       replace H:(if y701.length + y704.length < 8796093022208 then ((some (y701 ++ y704:List (S42))).bind fun y708=>(if 0 ≤ (wrap64 (x18_2 + 1)) then (if (wrap64 (x18_2 + 1)) ≤ (l0_2.length:Int) then ((some (l0_2.drop ((wrap64 (x18_2 + 1)):Int).toNat:List (S42))).bind fun y711=>(if y708.length + y711.length < 8796093022208 then ((spec_syCan.f k2 a0_0 a0_1 (y708 ++ y711) l0_3 l0_4).bind fun t718=>(if t718 = true then (spec_UsefulParts.l0 k2 x4_2 (l0_2.length:Int) (wrap64 (x18_2 + 1)) a0_0 a0_1 l0_2 l0_3 l0_4) else (if x4_2.length < 17592186044416 then (spec_UsefulParts.l0 k2 (x4_2 ++ [x18_2]) (l0_2.length:Int) (wrap64 (x18_2 + 1)) a0_0 a0_1 l0_2 l0_3 l0_4) else (none)))) else (none))) else (none)) else (none))) else (none)) = some (r1,r2):=by first | (rw [hy704];with_reducible exact H) | (have H2_:=(Option.bind_some _ _).symm.trans H;rw [hy704];with_reducible exact H2_) | (have H2_:=(Option.bind_some _ _).symm.trans H;with_reducible exact H2_) | with_reducible exact H | (rw [hy704];exact H) | exact H
       have Ny704:=Aside0.mk hy704;clear hy704;replace H:=np_ H;obtain ⟨c18,H⟩:=H;have LMc18:=Aside0.mk c18;clear c18;obtain ⟨y708,hy708⟩:∃ y_:List (S42),y_ = (y701 ++ y704):=⟨_,rfl⟩
       replace H:(if 0 ≤ (wrap64 (x18_2 + 1)) then (if (wrap64 (x18_2 + 1)) ≤ (l0_2.length:Int) then ((some (l0_2.drop ((wrap64 (x18_2 + 1)):Int).toNat:List (S42))).bind fun y711=>(if y708.length + y711.length < 8796093022208 then ((spec_syCan.f k2 a0_0 a0_1 (y708 ++ y711) l0_3 l0_4).bind fun t718=>(if t718 = true then (spec_UsefulParts.l0 k2 x4_2 (l0_2.length:Int) (wrap64 (x18_2 + 1)) a0_0 a0_1 l0_2 l0_3 l0_4) else (if x4_2.length < 17592186044416 then (spec_UsefulParts.l0 k2 (x4_2 ++ [x18_2]) (l0_2.length:Int) (wrap64 (x18_2 + 1)) a0_0 a0_1 l0_2 l0_3 l0_4) else (none)))) else (none))) else (none)) else (none)) = some (r1,r2):=by first | (rw [hy708];with_reducible exact H) | (have H2_:=(Option.bind_some _ _).symm.trans H;rw [hy708];with_reducible exact H2_) | (have H2_:=(Option.bind_some _ _).symm.trans H;with_reducible exact H2_) | with_reducible exact H | (rw [hy708];exact H) | exact H
       have Ny708:=Aside0.mk hy708;clear hy708;obtain ⟨ji19,hji19⟩:∃ j_:Int,(wrap64 (x18_2 + 1)) = j_:=⟨_,rfl⟩
       replace H:(if 0 ≤ (ji19) then (if (ji19) ≤ (l0_2.length:Int) then ((some (l0_2.drop ((ji19):Int).toNat:List (S42))).bind fun y711=>(if y708.length + y711.length < 8796093022208 then ((spec_syCan.f k2 a0_0 a0_1 (y708 ++ y711) l0_3 l0_4).bind fun t718=>(if t718 = true then (spec_UsefulParts.l0 k2 x4_2 (l0_2.length:Int) ji19 a0_0 a0_1 l0_2 l0_3 l0_4) else (if x4_2.length < 17592186044416 then (spec_UsefulParts.l0 k2 (x4_2 ++ [x18_2]) (l0_2.length:Int) ji19 a0_0 a0_1 l0_2 l0_3 l0_4) else (none)))) else (none))) else (none)) else (none)) = some (r1,r2):=by first | (rw [hji19] at H;exact H) | (simp only [hji19] at H ⊢;exact H)
       have hji19w:(IntKind.i64.wrap (x18_2 + 1)) = ji19:=(i64_w _).trans hji19;replace H:=np_ H;obtain ⟨c20,H⟩:=H;have c20b0:=eq_true c20;have c20b1:decide (0 ≤ (ji19)) = true:=decide_eq_true c20;clear c20;replace H:=np_ H;obtain ⟨c21,H⟩:=H;have c21b0:=eq_true c21;have c21b1:decide ((ji19) ≤ (l0_2.length:Int)) = true:=decide_eq_true c21;clear c21;obtain ⟨y711,hy711⟩:∃ y_:List (S42),y_ = (l0_2.drop ((ji19):Int).toNat):=⟨_,rfl⟩
       replace H:(if y708.length + y711.length < 8796093022208 then ((spec_syCan.f k2 a0_0 a0_1 (y708 ++ y711) l0_3 l0_4).bind fun t718=>(if t718 = true then (spec_UsefulParts.l0 k2 x4_2 (l0_2.length:Int) ji19 a0_0 a0_1 l0_2 l0_3 l0_4) else (if x4_2.length < 17592186044416 then (spec_UsefulParts.l0 k2 (x4_2 ++ [x18_2]) (l0_2.length:Int) ji19 a0_0 a0_1 l0_2 l0_3 l0_4) else (none)))) else (none)) = some (r1,r2):=by first | (rw [hy711];with_reducible exact H) | (have H2_:=(Option.bind_some _ _).symm.trans H;rw [hy711];with_reducible exact H2_) | (have H2_:=(Option.bind_some _ _).symm.trans H;with_reducible exact H2_) | with_reducible exact H | (rw [hy711];exact H) | exact H
       have Ny711:=Aside0.mk hy711;clear hy711;replace H:=np_ H;obtain ⟨c22,H⟩:=H;have LMc22:=Aside0.mk c22;clear c22;obtain ⟨y715,hy715⟩:∃ y_:List (S42),y_ = (y708 ++ y711):=⟨_,rfl⟩
       replace H:((spec_syCan.f k2 a0_0 a0_1 y715 l0_3 l0_4).bind fun t718=>(if t718 = true then (spec_UsefulParts.l0 k2 x4_2 (l0_2.length:Int) ji19 a0_0 a0_1 l0_2 l0_3 l0_4) else (if x4_2.length < 17592186044416 then (spec_UsefulParts.l0 k2 (x4_2 ++ [x18_2]) (l0_2.length:Int) ji19 a0_0 a0_1 l0_2 l0_3 l0_4) else (none)))) = some (r1,r2):=by first | (rw [hy715];with_reducible exact H) | (have H2_:=(Option.bind_some _ _).symm.trans H;rw [hy715];with_reducible exact H2_) | (have H2_:=(Option.bind_some _ _).symm.trans H;with_reducible exact H2_) | with_reducible exact H | (rw [hy715];exact H) | exact H
       have Ny715:=Aside0.mk hy715;clear hy715;replace H:=Option.bind_eq_some_iff.mp H;obtain ⟨t718,A230,H⟩:=H;(try dsimp only at H)
       have A23:=Aside0.mk A230;clear A230;by_cases c24:t718 = true
       ·subst c24;have H1:(spec_UsefulParts.l0 k2 x4_2 (l0_2.length:Int) ji19 a0_0 a0_1 l0_2 l0_3 l0_4) = some (r1,r2):=by rw [if_pos rfl] at H;exact H
        clear H;have H:=H1;clear H1;have H':=Aside0.mk H;clear H;obtain ⟨hcz25_0,hcz25_1,hcz25_2,hcz25_3,hcz25_4,hfz25_0,hfz25_1,hfz25_2,hfz25_3,hfz25_4⟩:=bt5 BK697;try go_wp2_with (first | ((with_reducible refine gate_dst (N:=6) rfl ?_);refine box_event ?hg (N:=6) ?hd (cs:=#[.int .i64 0,.int .i64 0,.slice none 0 0,.slice none 0 0,.slice none 0 0]) (t:=27) ?hr ?_;(case hd=>rfl);(case hg=>rfl);(case hr=>first | (go_simp;done) | (go_simp;rfl));intro gb700 hg w26 hbox hb;refine ev8 (Kd.R_below (Kd.R_mv HO_4.out) hb) (kb BK697 hb) (bs HB hb) (hbox) (gle hg HB) (gle hg HB) (gnf hg BK697) (gne hg BK697) ?_;clear HO_4 BK697 HB;intro HO_4 BK697 HB BK700 GW700 GE700 NB697_700 NB700_697;clear hb hbox hg;have hnb27:=NB700_697.out;have hnc27:=NB697_700.out;obtain ⟨hcz28_0,hcz28_1,hcz28_2,hcz28_3,hcz28_4,hfz28_0,hfz28_1,hfz28_2,hfz28_3,hfz28_4⟩:=bt5 BK700))
        have n0_:Aside0 (Kd.R (Kd.int .i64) 3 (((((w26.setCell ⟨gb700,0,none⟩ (.int .i64 a0_0)).setCell ⟨gb700,1,none⟩ (.int .i64 a0_1)).setCell ⟨gb700,2,none⟩ (.slice A0_2 l0_2.length c0_2)).setCell ⟨gb700,3,none⟩ (.slice A0_3 l0_3.length c0_3)).setCell ⟨gb700,4,none⟩ (.slice A0_4 l0_4.length c0_4)) w.heap.size (fun _=>True) u4 x4_2):=⟨Kd.R_mv (Kd.R_mono (ok':=fun k_=>True) (Kd.R_far (p:=⟨gb700,4,none⟩) (Kd.R_far (p:=⟨gb700,3,none⟩) (Kd.R_far (p:=⟨gb700,2,none⟩) (Kd.R_far (p:=⟨gb700,1,none⟩) (Kd.R_far (p:=⟨gb700,0,none⟩) (Kd.R_types HO_4.out BK700.out (by decide)) (fun _ hk=>hk.2) (.int .i64 a0_0)) (fun _ hk=>hk.2) (.int .i64 a0_1)) (fun _ hk=>hk.2) (.slice A0_2 l0_2.length c0_2)) (fun _ hk=>hk.2) (.slice A0_3 l0_3.length c0_3)) (fun _ hk=>hk.2) (.slice A0_4 l0_4.length c0_4)) (fun _ hk=>trivial))⟩
        have n1_:Aside0 ((((((w26.setCell ⟨gb700,0,none⟩ (.int .i64 a0_0)).setCell ⟨gb700,1,none⟩ (.int .i64 a0_1)).setCell ⟨gb700,2,none⟩ (.slice A0_2 l0_2.length c0_2)).setCell ⟨gb700,3,none⟩ (.slice A0_3 l0_3.length c0_3)).setCell ⟨gb700,4,none⟩ (.slice A0_4 l0_4.length c0_4)).heap[gb697]? = some (.cells #[.int .i64 a0_0,.int .i64 a0_1,.slice A0_2 l0_2.length c0_2,.slice A0_3 l0_3.length c0_3,.slice A0_4 l0_4.length c0_4] 27 (0,0))):=⟨fp BK697 rfl⟩
        have n2_:Aside0 ((((((w26.setCell ⟨gb700,0,none⟩ (.int .i64 a0_0)).setCell ⟨gb700,1,none⟩ (.int .i64 a0_1)).setCell ⟨gb700,2,none⟩ (.slice A0_2 l0_2.length c0_2)).setCell ⟨gb700,3,none⟩ (.slice A0_3 l0_3.length c0_3)).setCell ⟨gb700,4,none⟩ (.slice A0_4 l0_4.length c0_4)).heap[gb700]? = some (.cells #[.int .i64 a0_0,.int .i64 a0_1,.slice A0_2 l0_2.length c0_2,.slice A0_3 l0_3.length c0_3,.slice A0_4 l0_4.length c0_4] 27 (0,0))):=⟨fp BK700 rfl⟩
        have n3_:Aside0 (Below w.heap.size w (((((w26.setCell ⟨gb700,0,none⟩ (.int .i64 a0_0)).setCell ⟨gb700,1,none⟩ (.int .i64 a0_1)).setCell ⟨gb700,2,none⟩ (.slice A0_2 l0_2.length c0_2)).setCell ⟨gb700,3,none⟩ (.slice A0_3 l0_3.length c0_3)).setCell ⟨gb700,4,none⟩ (.slice A0_4 l0_4.length c0_4))):=⟨bm HB⟩
        (try clear HO_4);(try clear BK697);(try clear BK700);(try clear HB);generalize (((((w26.setCell ⟨gb700,0,none⟩ (.int .i64 a0_0)).setCell ⟨gb700,1,none⟩ (.int .i64 a0_1)).setCell ⟨gb700,2,none⟩ (.slice A0_2 l0_2.length c0_2)).setCell ⟨gb700,3,none⟩ (.slice A0_3 l0_3.length c0_3)).setCell ⟨gb700,4,none⟩ (.slice A0_4 l0_4.length c0_4)) = w29 at n0_ n1_ n2_ n3_ ⊢
        have HO_4:=n0_;have BK697:=n1_;have BK700:=n2_;have HB:=n3_;clear n0_ n1_ n2_ n3_;refine ev4 (Kd.R_drew HO_4.out) (blk_drew BK697.out) (blk_drew BK700.out) (below_drew1 HB.out) ?_;clear HO_4 BK697 BK700 HB;intro HO_4 BK697 BK700 HB;have q31:(x18_2:Int) ≤ ((l0_2.length:Int):Int):=of_decide_eq_true (by first | (with_reducible assumption) | assumption);obtain ⟨i031,hi031,_,hsz31,_⟩:=info_parts info42;have hroom31:l0_2.length ≤ c0_2:=HC0_2.out;have hC31:Kd.C k42 _ A0_2 l0_2.length l0_2:=HR0_2.out;have hcut31:=cut_to (P:=Try.prog) 24 42 .i64 Try.underlying24 hi031 A0_2 l0_2.length c0_2 x18_2 (of_decide_eq_true (by first | (with_reducible assumption) | assumption)) q31 hroom31;have hr31:=Kd.C_take (m:=(x18_2:Int).toNat) hC31 (by omega);have hy31:y704.length = (x18_2:Int).toNat:=(by rw [Ny704.out,List.length_take];omega)
        rw [← Ny704.out] at hr31;rw [← hy31] at hcut31;have HR707:=Aside0.mk hr31;have HC707:=Aside0.mk (show y704.length ≤ c0_2 from by omega);clear hr31 hC31 hroom31 hi031 hsz31;have KY31:=Aside0.mk hy31;clear hy31;replace q31:=eq_true q31;have q32:((ji19):Int) ≤ ((l0_2.length:Int):Int):=of_decide_eq_true (by first | (with_reducible assumption) | assumption);obtain ⟨i032,hi032,_,hsz32,_⟩:=info_parts info42;have hroom32:l0_2.length ≤ c0_2:=HC0_2.out;have hC32:Kd.C k42 _ A0_2 l0_2.length l0_2:=HR0_2.out;have q032:(0:Int) ≤ ((ji19):Int):=of_decide_eq_true (by first | (with_reducible assumption) | assumption);have hcut32:=cut_from (P:=Try.prog) 24 42 .i64 Try.underlying24 hi032 2 hsz32 A0_2 l0_2.length c0_2 (ji19) q032 q32;have hr32:=Kd.C_drop (m:=((ji19):Int).toNat) (c:=c0_2) hC32 (by omega) hroom32;obtain ⟨A32,hA32⟩:∃ A1,A1 = (if c0_2 = ((ji19):Int).toNat then A0_2 else (A0_2:Option Addr).map (·.add (((ji19):Int).toNat * 2))):=⟨_,rfl⟩
        obtain ⟨c32,hc32⟩:∃ c1,c1 = c0_2 - ((ji19):Int).toNat:=⟨_,rfl⟩
        have hy32:y711.length = l0_2.length - ((ji19):Int).toNat:=(by rw [Ny711.out,List.length_drop] <;> omega)
        rw [show (l0_2).drop ((ji19):Int).toNat = y711 from Ny711.out.symm] at hr32;replace hr32:Kd.C k42 _ A32 y711.length y711:=(by rw [hA32];exact hr32)
        rw [← hy32,← hA32,← hc32] at hcut32;have HR714:=Aside0.mk hr32;have HC714:=Aside0.mk (show y711.length ≤ c32 from by rw [hy32,hc32];exact Nat.sub_le_sub_right hroom32 _);clear hr32 hC32 hroom32 hi032 hsz32 hc32;have KY32:=Aside0.mk hy32;have KA32:=Aside0.mk hA32;clear hy32 hA32;replace q32:=eq_true q32;refine start_ (n:=14) (S:=fun w'=>w'.cell? ⟨gb697,0,none⟩ = some (.int .i64 a0_0)∧w'.cell? ⟨gb697,1,none⟩ = some (.int .i64 a0_1)∧w'.cell? ⟨gb697,2,none⟩ = some (.slice A0_2 l0_2.length c0_2)∧w'.cell? ⟨gb697,3,none⟩ = some (.slice A0_3 l0_3.length c0_3)∧w'.cell? ⟨gb697,4,none⟩ = some (.slice A0_4 l0_4.length c0_4)) (ds:=[]) #[Z,Z,Z,Z,Z,Z,Z,Z,Z,Z,Z,Z,Z,Z] (by kernel_rfl) rfl rfl ⟨(blk_cell BK697.out 0).trans rfl,(blk_cell BK697.out 1).trans rfl,(blk_cell BK697.out 2).trans rfl,(blk_cell BK697.out 3).trans rfl,(blk_cell BK697.out 4).trans rfl⟩ (fun hHeld=>?_);refine with_tabW spec_UsefulParts.tab8 spec_UsefulParts.bits8 (fun HT_ HW_=>?_);generalize w29.drew = w30 at HO_4 BK697 BK700 HB HR707 HR714 hHeld ⊢
        refine pA 1 (some 23) ?_ #[Z,Y,Z,Z,Z,Z,Z,Z,Z,Z,Z,Z,Z,Z] rfl rfl HT_ (by kernel_rfl) (fun _ _ _ h=>h) (by rfl) ?_ ?_ ?_ ?_;rotate_left
        ·intro w';go_simp;with_reducible rfl
        rotate_left
        ·simp only [Act.put,za_,zb_,zc_,i64_w,i32_w];rfl
        refine pA 3 (some 25) ?_ #[Z,Y,Z,Y,Z,Z,Z,Z,Z,Z,Z,Z,Z,Z] rfl rfl HT_ (by kernel_rfl) (fun _ _ _ h=>h) (by rfl) ?_ ?_ ?_ ?_;rotate_left
        ·intro w';go_simp;with_reducible rfl
        rotate_left
        ·simp only [Act.put,za_,zb_,zc_,i64_w,i32_w];rfl
        refine pA 6 (some 28) ?_ #[Z,Y,Z,Y,Z,Z,Y,Z,Z,Z,Z,Z,Z,Z] rfl rfl HT_ (by kernel_rfl) (fun _ _ _ h=>h) (by rfl) ?_ ?_ ?_ ?_;rotate_left
        ·intro w';go_simp;with_reducible rfl
        rotate_left
        ·simp only [Act.put,za_,zb_,zc_,i64_w,i32_w];rfl
        refine pA 8 (some 30) ?_ #[Z,Y,Z,Y,Z,Z,Y,Z,Y,Z,Z,Z,Z,Z] rfl rfl HT_ (by kernel_rfl) (fun _ _ _ h=>h) (by rfl) ?_ ?_ ?_ ?_;rotate_left
        ·intro w';go_simp;with_reducible rfl
        rotate_left
        ·simp only [Act.put,za_,zb_,zc_,i64_w,i32_w];rfl
        refine pA 9 (some 31) ?_ #[Z,Y,Z,Y,Z,Z,Y,Z,Y,Y,Z,Z,Z,Z] rfl rfl HT_ (by kernel_rfl) (fun _ _ _ h=>h) (by rfl) ?_ ?_ ?_ ?_;rotate_left
        ·intro w';go_simp;with_reducible rfl
        rotate_left
        ·simp only [Act.put,za_,zb_,zc_,i64_w,i32_w];rfl
        refine tA 2 (some 24) ?_ #[Z,Y,Y,Y,Z,Z,Y,Z,Y,Y,Z,Z,Z,Z] rfl rfl HT_ HW_ (by kernel_rfl) (fun _ _ _ h=>h) (by rfl) ?_ hHeld ?_ ?_ ?_;rotate_left
        ·rintro w' ⟨s0,s1,s2,s3,s4⟩;go_simp;with_reducible rfl
        rotate_left
        ·simp only [Act.put,za_,zb_,zc_,i64_w,i32_w];rfl
        refine pA 4 (some 26) ?_ #[Z,Y,Y,Y,Y,Z,Y,Z,Y,Y,Z,Z,Z,Z] rfl rfl HT_ (by kernel_rfl) (fun _ _ _ h=>h) (by rfl) ?_ ?_ ?_ ?_;rotate_left
        ·intro w';go_simp;with_reducible rfl
        rotate_left
        ·simp only [Act.put,za_,zb_,zc_,i64_w,i32_w];rfl
        refine tA 7 (some 29) ?_ #[Z,Y,Y,Y,Y,Z,Y,Y,Y,Y,Z,Z,Z,Z] rfl rfl HT_ HW_ (by kernel_rfl) (fun _ _ _ h=>h) (by rfl) ?_ hHeld ?_ ?_ ?_;rotate_left
        ·rintro w' ⟨s0,s1,s2,s3,s4⟩;go_simp;with_reducible rfl
        rotate_left
        ·simp only [Act.put,za_,zb_,zc_,i64_w,i32_w];rfl
        refine pA 10 (some 32) ?_ #[Z,Y,Y,Y,Y,Z,Y,Y,Y,Y,Y,Z,Z,Z] rfl rfl HT_ (by kernel_rfl) (fun _ _ _ h=>h) (by rfl) ?_ ?_ ?_ ?_;rotate_left
        ·intro w';go_simp;with_reducible rfl
        rotate_left
        ·simp only [Act.put,za_,zb_,zc_,i64_w,i32_w];rfl
        refine one_ (i:=0) (N:=some 22) #[Y,Y,Y,Y,Y,Z,Y,Y,Y,Y,Y,Z,Z,Z] rfl rfl (one_of HT_.out (by kernel_rfl)) (by decide) (fun K hK=>?_);refine Kd.R_lit_step k42 _ 42 ?hg (N:=22) ?hd (xs:=([]:List (S42))) (inner:=[]) (ok:=fun _=>True) (okp:=fun _=>True) ?hr ?hp (fun _ hk=>hk) trivial (Below.refl _ _) (Nat.le_refl _) (by simp) ?_;(case hd=>rfl);(case hg=>rfl);(case hr=>first | (go_simp;done) | (go_simp;rfl));(case hp=>exact (Reps.none _ _));intro v702 w33 ho34 hb hg_ hnew_;clear hg_ hnew_;(first | rw [← Ny701.out] at ho34 | (simp only [Int.reduceToNat] at ho34;rw [← Ny701.out] at ho34))
        refine ev5 (Kd.R_below (Kd.R_mv HO_4.out) hb) (Kd.R_lower ho34 (below_size (bm HB))) (kb BK697 hb) (kb BK700 hb) (bs HB hb) ?_;clear HO_4 BK697 BK700 HB;intro HO_4 HO703 BK697 BK700 HB;clear hb ho34;refine hK.out _ _ ⟨(blk_cell BK697.out 0).trans rfl,(blk_cell BK697.out 1).trans rfl,(blk_cell BK697.out 2).trans rfl,(blk_cell BK697.out 3).trans rfl,(blk_cell BK697.out 4).trans rfl⟩ (fun hHeld=>?_);clear hK K;refine norm_ (a':=?_) ?_ ?_;rotate_left
        ·show Act.put _ (some 22) _ = _
         simp only [Act.put,za_,zb_,zc_,i64_w,i32_w];rfl
        refine one_ (i:=5) (N:=some 27) #[Y,Y,Y,Y,Y,Y,Y,Y,Y,Y,Y,Z,Z,Z] rfl rfl (one_of HT_.out (by kernel_rfl)) (by decide) (fun K hK=>?_);refine Kd.R_append_rows_step k42 (w0:=w) w.heap.size (by rfl) (.tmp 22) (.tmp 26) 24 42 (.agg #[(.int .i64 0),(.int .i64 0)]) 16 rfl Try.underlying24 info42 rfl (by decide) (by omega) v702 y701 y704 _ _ _ (fun _=>True) (fun _=>False) rfl rfl ?aO ?aR (fun _ _ h=>h) (fun _ h=>h.elim) ?aF ?aB ?aS ?aL ?_;(case aR=>exact Kd.C_mv (Kd.C_below HR707.out HB.out))
        (case aB=>exact (bm HB))
        (case aF=>exact (fun _ _=>trivial))
        (case aO=>exact (Kd.R_mv HO703.out))
        (case aS=>exact (below_size (bm HB)))
        (case aL=>have:=LMc18.out;omega)
        intro v709 w35 ho hb hg hat;rw [← Ny708.out] at ho;refine ev5 (Kd.R_over' (Kd.R_mv HO_4.out) (Kd.R_typed (Kd.R_mv HO703.out)) (by decide) hg) (blk_grown (km_ BK697) hg (Kd.R_ne HO703.out BK697.out (by decide))) (blk_grown (km_ BK700) hg (Kd.R_ne HO703.out BK700.out (by decide))) (hb) (ho) ?_;clear HO_4 BK697 BK700 HB HO703;intro HO_4 BK697 BK700 HB HO710;clear ho hb hg hat;refine hK.out _ _ ⟨(blk_cell BK697.out 0).trans rfl,(blk_cell BK697.out 1).trans rfl,(blk_cell BK697.out 2).trans rfl,(blk_cell BK697.out 3).trans rfl,(blk_cell BK697.out 4).trans rfl⟩ (fun hHeld=>?_);clear hK K;refine norm_ (a':=?_) ?_ ?_;rotate_left
        ·show Act.put _ (some 27) _ = _
         simp only [Act.put,za_,zb_,zc_,i64_w,i32_w];rfl
        refine one_ (i:=11) (N:=some 33) #[Y,Y,Y,Y,Y,Y,Y,Y,Y,Y,Y,Y,Z,Z] rfl rfl (one_of HT_.out (by kernel_rfl)) (by decide) (fun K hK=>?_);refine Kd.R_append_rows_step k42 (w0:=w) w.heap.size (by rfl) (.tmp 27) (.tmp 32) 24 42 (.agg #[(.int .i64 0),(.int .i64 0)]) 16 rfl Try.underlying24 info42 rfl (by decide) (by omega) v709 y708 y711 _ _ _ (fun _=>True) (fun _=>False) rfl rfl ?aO ?aR (fun _ _ h=>h) (fun _ h=>h.elim) ?aF ?aB ?aS ?aL ?_;(case aR=>exact Kd.C_mv (Kd.C_below HR714.out HB.out))
        (case aB=>exact (bm HB))
        (case aF=>exact (fun _ _=>trivial))
        (case aO=>exact (Kd.R_mv HO710.out))
        (case aS=>exact (below_size (bm HB)))
        (case aL=>have:=LMc22.out;omega)
        intro v716 w36 ho hb hg hat;rw [← Ny715.out] at ho;refine ev5 (Kd.R_over' (Kd.R_mv HO_4.out) (Kd.R_typed (Kd.R_mv HO710.out)) (by decide) hg) (blk_grown (km_ BK697) hg (Kd.R_ne HO710.out BK697.out (by decide))) (blk_grown (km_ BK700) hg (Kd.R_ne HO710.out BK700.out (by decide))) (hb) (ho) ?_;clear HO_4 BK697 BK700 HB HO710;intro HO_4 BK697 BK700 HB HO717;clear ho hb hg hat;obtain ⟨Ao37,co37,eo37⟩:=Kd.R_slice HO717.out;(first | subst eo37 | (injection eo37 with f1_ f2_ f3_;have f4_:=f1_.symm;have f5_:=f3_.symm;clear f1_ f2_ f3_;subst f4_;subst f5_))
        refine hK.out _ _ ⟨(blk_cell BK697.out 0).trans rfl,(blk_cell BK697.out 1).trans rfl,(blk_cell BK697.out 2).trans rfl,(blk_cell BK697.out 3).trans rfl,(blk_cell BK697.out 4).trans rfl⟩ (fun hHeld=>?_);clear hK K;refine norm_ (a':=?_) ?_ ?_;rotate_left
        ·show Act.put _ (some 33) _ = _
         simp only [Act.put,za_,zb_,zc_,i64_w,i32_w];rfl
        refine pA 12 (some 34) ?_ #[Y,Y,Y,Y,Y,Y,Y,Y,Y,Y,Y,Y,Y,Z] rfl rfl HT_ (by kernel_rfl) (fun _ _ _ h=>h) (by rfl) ?_ ?_ ?_ ?_;rotate_left
        ·intro w';go_simp;with_reducible rfl
        rotate_left
        ·simp only [Act.put,za_,zb_,zc_,i64_w,i32_w];rfl
        refine one_ (i:=13) (N:=none) #[Y,Y,Y,Y,Y,Y,Y,Y,Y,Y,Y,Y,Y,Y] rfl rfl (one_of HT_.out (by kernel_rfl)) (by decide) (fun K hK=>?_);have hs38:w36.cell? ⟨gb700,2,none⟩ = some (.slice A0_2 l0_2.length c0_2):=(blk_cell BK700.out 2).trans rfl;have hfs38:=blk_frozen BK700.out 2;have hns38_0:=NB697_700.out;have hms38_0:=NB700_697.out;refine skip_ (w1:=?_) (by rfl) rfl ?_ ?_;rotate_left
        ·go_simp;rfl
        refine hK.out _ _ ⟨((cell_far (p:=⟨gb700,_,none⟩) NB697_700.out _).trans (hHeld.1)),((cell_far (p:=⟨gb700,_,none⟩) NB697_700.out _).trans (hHeld.2.1)),((cell_far (p:=⟨gb700,_,none⟩) NB697_700.out _).trans (hHeld.2.2.1)),((cell_far (p:=⟨gb700,_,none⟩) NB697_700.out _).trans (hHeld.2.2.2.1)),((cell_far (p:=⟨gb700,_,none⟩) NB697_700.out _).trans (hHeld.2.2.2.2))⟩ (fun hHeld=>?_);clear hK K;refine done_ (done_of HT_.out (by kernel_rfl)) ?_;obtain ⟨hcz39_0,hcz39_1,hcz39_2,hcz39_3,hcz39_4,hfz39_0,hfz39_1,hfz39_2,hfz39_3,hfz39_4⟩:=bt5 BK700;try go_wp2_with (first | ((with_reducible refine gate_callee (f:=97) rfl ?_);refine gL_ (some 36) Try.func97 #[.agg #[.int .i64 a0_0,.int .i64 a0_1,.slice Ao37 y715.length co37,.slice A0_3 l0_3.length c0_3,.slice A0_4 l0_4.length c0_4]] (h:=?_);(with_reducible refine (spec_syCan.calls k2 a0_0 a0_1 _ _ y715 _ _ l0_3 _ _ l0_4 true _ ?side1 ((Kd.R_reads' HO717.out).2.1) (Kd.C_below HR0_3.out (bm HB)) HC0_3.out (Kd.C_below HR0_4.out (bm HB)) HC0_4.out A23.out).mono ?_);(case side1=>exact (Kd.R_reads' (Kd.R_ft HO717.out BK700.out (by decide))).2.2);rintro e w40 ⟨rfl,hb⟩;refine ⟨_,rfl,?_⟩;refine ev5 (Kd.R_below (Kd.R_ft HO_4.out BK700.out (by decide)) hb) (Kd.R_below (Kd.R_ft HO717.out BK700.out (by decide)) hb) (blk_below (g:=gb697) (o:=.cells #[.int .i64 a0_0,.int .i64 a0_1,.slice A0_2 l0_2.length c0_2,.slice A0_3 l0_3.length c0_3,.slice A0_4 l0_4.length c0_4] 27 (0,0)) (fp BK697 rfl) hb) (blk_below (g:=gb700) (o:=.cells #[.int .i64 a0_0,.int .i64 a0_1,.slice Ao37 y715.length co37,.slice A0_3 l0_3.length c0_3,.slice A0_4 l0_4.length c0_4] 27 (0,0)) (fp BK700 rfl) hb) (bs HB hb) ?_;clear HO_4 HO717 BK697 BK700 HB;intro HO_4 HO717 BK697 BK700 HB;(try clear hb)))
        go_roundg k2
        case measure=>have:=HJ1.out;have:=HK2.out;omega
        case rel=>exact ⟨(x4_2),(ji19),(by first | rfl | (simp;done) | (simp only [← hji19] <;> (first | rfl | simp)) | (simp [*];done)),H',⟨by have:=HJ1.out;have:=HK2.out;omega⟩,⟨Kd.R_mv HO_4.out⟩,⟨km_ BK697⟩,⟨bm HB⟩⟩
       ·replace c24:=Bool.eq_false_iff.mpr c24;subst c24;have H1:(if x4_2.length < 17592186044416 then (spec_UsefulParts.l0 k2 (x4_2 ++ [x18_2]) (l0_2.length:Int) ji19 a0_0 a0_1 l0_2 l0_3 l0_4) else (none)) = some (r1,r2):=by rw [if_neg (show ¬ (false = true) by decide)] at H;exact H
        clear H;have H:=H1;clear H1;replace H:=np_ H;obtain ⟨c41,H⟩:=H;have LMc41:=Aside0.mk c41;clear c41;obtain ⟨y719,hy719⟩:∃ y_:List Int,y_ = (x4_2 ++ [x18_2]):=⟨_,rfl⟩
        replace H:(spec_UsefulParts.l0 k2 y719 (l0_2.length:Int) ji19 a0_0 a0_1 l0_2 l0_3 l0_4) = some (r1,r2):=by first | (rw [hy719];with_reducible exact H) | (have H2_:=(Option.bind_some _ _).symm.trans H;rw [hy719];with_reducible exact H2_) | (have H2_:=(Option.bind_some _ _).symm.trans H;with_reducible exact H2_) | with_reducible exact H | (rw [hy719];exact H) | exact H
        have Ny719:=Aside0.mk hy719;clear hy719;have H':=Aside0.mk H;clear H;obtain ⟨hcz42_0,hcz42_1,hcz42_2,hcz42_3,hcz42_4,hfz42_0,hfz42_1,hfz42_2,hfz42_3,hfz42_4⟩:=bt5 BK697;try go_wp2_with (first | ((with_reducible refine gate_dst (N:=6) rfl ?_);refine box_event ?hg (N:=6) ?hd (cs:=#[.int .i64 0,.int .i64 0,.slice none 0 0,.slice none 0 0,.slice none 0 0]) (t:=27) ?hr ?_;(case hd=>rfl);(case hg=>rfl);(case hr=>first | (go_simp;done) | (go_simp;rfl));intro gb700 hg w43 hbox hb;refine ev8 (Kd.R_below (Kd.R_mv HO_4.out) hb) (kb BK697 hb) (bs HB hb) (hbox) (gle hg HB) (gle hg HB) (gnf hg BK697) (gne hg BK697) ?_;clear HO_4 BK697 HB;intro HO_4 BK697 HB BK700 GW700 GE700 NB697_700 NB700_697;clear hb hbox hg;have hnb44:=NB700_697.out;have hnc44:=NB697_700.out;obtain ⟨hcz45_0,hcz45_1,hcz45_2,hcz45_3,hcz45_4,hfz45_0,hfz45_1,hfz45_2,hfz45_3,hfz45_4⟩:=bt5 BK700))
        have n0_:Aside0 (Kd.R (Kd.int .i64) 3 (((((w43.setCell ⟨gb700,0,none⟩ (.int .i64 a0_0)).setCell ⟨gb700,1,none⟩ (.int .i64 a0_1)).setCell ⟨gb700,2,none⟩ (.slice A0_2 l0_2.length c0_2)).setCell ⟨gb700,3,none⟩ (.slice A0_3 l0_3.length c0_3)).setCell ⟨gb700,4,none⟩ (.slice A0_4 l0_4.length c0_4)) w.heap.size (fun _=>True) u4 x4_2):=⟨Kd.R_mv (Kd.R_mono (ok':=fun k_=>True) (Kd.R_far (p:=⟨gb700,4,none⟩) (Kd.R_far (p:=⟨gb700,3,none⟩) (Kd.R_far (p:=⟨gb700,2,none⟩) (Kd.R_far (p:=⟨gb700,1,none⟩) (Kd.R_far (p:=⟨gb700,0,none⟩) (Kd.R_types HO_4.out BK700.out (by decide)) (fun _ hk=>hk.2) (.int .i64 a0_0)) (fun _ hk=>hk.2) (.int .i64 a0_1)) (fun _ hk=>hk.2) (.slice A0_2 l0_2.length c0_2)) (fun _ hk=>hk.2) (.slice A0_3 l0_3.length c0_3)) (fun _ hk=>hk.2) (.slice A0_4 l0_4.length c0_4)) (fun _ hk=>trivial))⟩
        have n1_:Aside0 ((((((w43.setCell ⟨gb700,0,none⟩ (.int .i64 a0_0)).setCell ⟨gb700,1,none⟩ (.int .i64 a0_1)).setCell ⟨gb700,2,none⟩ (.slice A0_2 l0_2.length c0_2)).setCell ⟨gb700,3,none⟩ (.slice A0_3 l0_3.length c0_3)).setCell ⟨gb700,4,none⟩ (.slice A0_4 l0_4.length c0_4)).heap[gb697]? = some (.cells #[.int .i64 a0_0,.int .i64 a0_1,.slice A0_2 l0_2.length c0_2,.slice A0_3 l0_3.length c0_3,.slice A0_4 l0_4.length c0_4] 27 (0,0))):=⟨fp BK697 rfl⟩
        have n2_:Aside0 ((((((w43.setCell ⟨gb700,0,none⟩ (.int .i64 a0_0)).setCell ⟨gb700,1,none⟩ (.int .i64 a0_1)).setCell ⟨gb700,2,none⟩ (.slice A0_2 l0_2.length c0_2)).setCell ⟨gb700,3,none⟩ (.slice A0_3 l0_3.length c0_3)).setCell ⟨gb700,4,none⟩ (.slice A0_4 l0_4.length c0_4)).heap[gb700]? = some (.cells #[.int .i64 a0_0,.int .i64 a0_1,.slice A0_2 l0_2.length c0_2,.slice A0_3 l0_3.length c0_3,.slice A0_4 l0_4.length c0_4] 27 (0,0))):=⟨fp BK700 rfl⟩
        have n3_:Aside0 (Below w.heap.size w (((((w43.setCell ⟨gb700,0,none⟩ (.int .i64 a0_0)).setCell ⟨gb700,1,none⟩ (.int .i64 a0_1)).setCell ⟨gb700,2,none⟩ (.slice A0_2 l0_2.length c0_2)).setCell ⟨gb700,3,none⟩ (.slice A0_3 l0_3.length c0_3)).setCell ⟨gb700,4,none⟩ (.slice A0_4 l0_4.length c0_4))):=⟨bm HB⟩
        (try clear HO_4);(try clear BK697);(try clear BK700);(try clear HB);generalize (((((w43.setCell ⟨gb700,0,none⟩ (.int .i64 a0_0)).setCell ⟨gb700,1,none⟩ (.int .i64 a0_1)).setCell ⟨gb700,2,none⟩ (.slice A0_2 l0_2.length c0_2)).setCell ⟨gb700,3,none⟩ (.slice A0_3 l0_3.length c0_3)).setCell ⟨gb700,4,none⟩ (.slice A0_4 l0_4.length c0_4)) = w46 at n0_ n1_ n2_ n3_ ⊢
        have HO_4:=n0_;have BK697:=n1_;have BK700:=n2_;have HB:=n3_;clear n0_ n1_ n2_ n3_;refine ev4 (Kd.R_drew HO_4.out) (blk_drew BK697.out) (blk_drew BK700.out) (below_drew1 HB.out) ?_;clear HO_4 BK697 BK700 HB;intro HO_4 BK697 BK700 HB;have q48:(x18_2:Int) ≤ ((l0_2.length:Int):Int):=of_decide_eq_true (by first | (with_reducible assumption) | assumption);obtain ⟨i048,hi048,_,hsz48,_⟩:=info_parts info42;have hroom48:l0_2.length ≤ c0_2:=HC0_2.out;have hC48:Kd.C k42 _ A0_2 l0_2.length l0_2:=HR0_2.out;have hcut48:=cut_to (P:=Try.prog) 24 42 .i64 Try.underlying24 hi048 A0_2 l0_2.length c0_2 x18_2 (of_decide_eq_true (by first | (with_reducible assumption) | assumption)) q48 hroom48;have hr48:=Kd.C_take (m:=(x18_2:Int).toNat) hC48 (by omega);have hy48:y704.length = (x18_2:Int).toNat:=(by rw [Ny704.out,List.length_take];omega)
        rw [← Ny704.out] at hr48;rw [← hy48] at hcut48;have HR707:=Aside0.mk hr48;have HC707:=Aside0.mk (show y704.length ≤ c0_2 from by omega);clear hr48 hC48 hroom48 hi048 hsz48;have KY48:=Aside0.mk hy48;clear hy48;replace q48:=eq_true q48;have q49:((ji19):Int) ≤ ((l0_2.length:Int):Int):=of_decide_eq_true (by first | (with_reducible assumption) | assumption);obtain ⟨i049,hi049,_,hsz49,_⟩:=info_parts info42;have hroom49:l0_2.length ≤ c0_2:=HC0_2.out;have hC49:Kd.C k42 _ A0_2 l0_2.length l0_2:=HR0_2.out;have q049:(0:Int) ≤ ((ji19):Int):=of_decide_eq_true (by first | (with_reducible assumption) | assumption);have hcut49:=cut_from (P:=Try.prog) 24 42 .i64 Try.underlying24 hi049 2 hsz49 A0_2 l0_2.length c0_2 (ji19) q049 q49;have hr49:=Kd.C_drop (m:=((ji19):Int).toNat) (c:=c0_2) hC49 (by omega) hroom49;obtain ⟨A49,hA49⟩:∃ A1,A1 = (if c0_2 = ((ji19):Int).toNat then A0_2 else (A0_2:Option Addr).map (·.add (((ji19):Int).toNat * 2))):=⟨_,rfl⟩
        obtain ⟨c49,hc49⟩:∃ c1,c1 = c0_2 - ((ji19):Int).toNat:=⟨_,rfl⟩
        have hy49:y711.length = l0_2.length - ((ji19):Int).toNat:=(by rw [Ny711.out,List.length_drop] <;> omega)
        rw [show (l0_2).drop ((ji19):Int).toNat = y711 from Ny711.out.symm] at hr49;replace hr49:Kd.C k42 _ A49 y711.length y711:=(by rw [hA49];exact hr49)
        rw [← hy49,← hA49,← hc49] at hcut49;have HR714:=Aside0.mk hr49;have HC714:=Aside0.mk (show y711.length ≤ c49 from by rw [hy49,hc49];exact Nat.sub_le_sub_right hroom49 _);clear hr49 hC49 hroom49 hi049 hsz49 hc49;have KY49:=Aside0.mk hy49;have KA49:=Aside0.mk hA49;clear hy49 hA49;replace q49:=eq_true q49;refine start_ (n:=14) (S:=fun w'=>w'.cell? ⟨gb697,0,none⟩ = some (.int .i64 a0_0)∧w'.cell? ⟨gb697,1,none⟩ = some (.int .i64 a0_1)∧w'.cell? ⟨gb697,2,none⟩ = some (.slice A0_2 l0_2.length c0_2)∧w'.cell? ⟨gb697,3,none⟩ = some (.slice A0_3 l0_3.length c0_3)∧w'.cell? ⟨gb697,4,none⟩ = some (.slice A0_4 l0_4.length c0_4)) (ds:=[]) #[Z,Z,Z,Z,Z,Z,Z,Z,Z,Z,Z,Z,Z,Z] (by kernel_rfl) rfl rfl ⟨(blk_cell BK697.out 0).trans rfl,(blk_cell BK697.out 1).trans rfl,(blk_cell BK697.out 2).trans rfl,(blk_cell BK697.out 3).trans rfl,(blk_cell BK697.out 4).trans rfl⟩ (fun hHeld=>?_);refine with_tabW spec_UsefulParts.tab8 spec_UsefulParts.bits8 (fun HT_ HW_=>?_);generalize w46.drew = w47 at HO_4 BK697 BK700 HB HR707 HR714 hHeld ⊢
        refine pA 1 (some 23) ?_ #[Z,Y,Z,Z,Z,Z,Z,Z,Z,Z,Z,Z,Z,Z] rfl rfl HT_ (by kernel_rfl) (fun _ _ _ h=>h) (by rfl) ?_ ?_ ?_ ?_;rotate_left
        ·intro w';go_simp;with_reducible rfl
        rotate_left
        ·simp only [Act.put,za_,zb_,zc_,i64_w,i32_w];rfl
        refine pA 3 (some 25) ?_ #[Z,Y,Z,Y,Z,Z,Z,Z,Z,Z,Z,Z,Z,Z] rfl rfl HT_ (by kernel_rfl) (fun _ _ _ h=>h) (by rfl) ?_ ?_ ?_ ?_;rotate_left
        ·intro w';go_simp;with_reducible rfl
        rotate_left
        ·simp only [Act.put,za_,zb_,zc_,i64_w,i32_w];rfl
        refine pA 6 (some 28) ?_ #[Z,Y,Z,Y,Z,Z,Y,Z,Z,Z,Z,Z,Z,Z] rfl rfl HT_ (by kernel_rfl) (fun _ _ _ h=>h) (by rfl) ?_ ?_ ?_ ?_;rotate_left
        ·intro w';go_simp;with_reducible rfl
        rotate_left
        ·simp only [Act.put,za_,zb_,zc_,i64_w,i32_w];rfl
        refine pA 8 (some 30) ?_ #[Z,Y,Z,Y,Z,Z,Y,Z,Y,Z,Z,Z,Z,Z] rfl rfl HT_ (by kernel_rfl) (fun _ _ _ h=>h) (by rfl) ?_ ?_ ?_ ?_;rotate_left
        ·intro w';go_simp;with_reducible rfl
        rotate_left
        ·simp only [Act.put,za_,zb_,zc_,i64_w,i32_w];rfl
        refine pA 9 (some 31) ?_ #[Z,Y,Z,Y,Z,Z,Y,Z,Y,Y,Z,Z,Z,Z] rfl rfl HT_ (by kernel_rfl) (fun _ _ _ h=>h) (by rfl) ?_ ?_ ?_ ?_;rotate_left
        ·intro w';go_simp;with_reducible rfl
        rotate_left
        ·simp only [Act.put,za_,zb_,zc_,i64_w,i32_w];rfl
        refine tA 2 (some 24) ?_ #[Z,Y,Y,Y,Z,Z,Y,Z,Y,Y,Z,Z,Z,Z] rfl rfl HT_ HW_ (by kernel_rfl) (fun _ _ _ h=>h) (by rfl) ?_ hHeld ?_ ?_ ?_;rotate_left
        ·rintro w' ⟨s0,s1,s2,s3,s4⟩;go_simp;with_reducible rfl
        rotate_left
        ·simp only [Act.put,za_,zb_,zc_,i64_w,i32_w];rfl
        refine pA 4 (some 26) ?_ #[Z,Y,Y,Y,Y,Z,Y,Z,Y,Y,Z,Z,Z,Z] rfl rfl HT_ (by kernel_rfl) (fun _ _ _ h=>h) (by rfl) ?_ ?_ ?_ ?_;rotate_left
        ·intro w';go_simp;with_reducible rfl
        rotate_left
        ·simp only [Act.put,za_,zb_,zc_,i64_w,i32_w];rfl
        refine tA 7 (some 29) ?_ #[Z,Y,Y,Y,Y,Z,Y,Y,Y,Y,Z,Z,Z,Z] rfl rfl HT_ HW_ (by kernel_rfl) (fun _ _ _ h=>h) (by rfl) ?_ hHeld ?_ ?_ ?_;rotate_left
        ·rintro w' ⟨s0,s1,s2,s3,s4⟩;go_simp;with_reducible rfl
        rotate_left
        ·simp only [Act.put,za_,zb_,zc_,i64_w,i32_w];rfl
        refine pA 10 (some 32) ?_ #[Z,Y,Y,Y,Y,Z,Y,Y,Y,Y,Y,Z,Z,Z] rfl rfl HT_ (by kernel_rfl) (fun _ _ _ h=>h) (by rfl) ?_ ?_ ?_ ?_;rotate_left
        ·intro w';go_simp;with_reducible rfl
        rotate_left
        ·simp only [Act.put,za_,zb_,zc_,i64_w,i32_w];rfl
        refine one_ (i:=0) (N:=some 22) #[Y,Y,Y,Y,Y,Z,Y,Y,Y,Y,Y,Z,Z,Z] rfl rfl (one_of HT_.out (by kernel_rfl)) (by decide) (fun K hK=>?_);refine Kd.R_lit_step k42 _ 42 ?hg (N:=22) ?hd (xs:=([]:List (S42))) (inner:=[]) (ok:=fun _=>True) (okp:=fun _=>True) ?hr ?hp (fun _ hk=>hk) trivial (Below.refl _ _) (Nat.le_refl _) (by simp) ?_;(case hd=>rfl);(case hg=>rfl);(case hr=>first | (go_simp;done) | (go_simp;rfl));(case hp=>exact (Reps.none _ _));intro v702 w50 ho51 hb hg_ hnew_;clear hg_ hnew_;(first | rw [← Ny701.out] at ho51 | (simp only [Int.reduceToNat] at ho51;rw [← Ny701.out] at ho51))
        refine ev5 (Kd.R_below (Kd.R_mv HO_4.out) hb) (Kd.R_lower ho51 (below_size (bm HB))) (kb BK697 hb) (kb BK700 hb) (bs HB hb) ?_;clear HO_4 BK697 BK700 HB;intro HO_4 HO703 BK697 BK700 HB;clear hb ho51;refine hK.out _ _ ⟨(blk_cell BK697.out 0).trans rfl,(blk_cell BK697.out 1).trans rfl,(blk_cell BK697.out 2).trans rfl,(blk_cell BK697.out 3).trans rfl,(blk_cell BK697.out 4).trans rfl⟩ (fun hHeld=>?_);clear hK K;refine norm_ (a':=?_) ?_ ?_;rotate_left
        ·show Act.put _ (some 22) _ = _
         simp only [Act.put,za_,zb_,zc_,i64_w,i32_w];rfl
        refine one_ (i:=5) (N:=some 27) #[Y,Y,Y,Y,Y,Y,Y,Y,Y,Y,Y,Z,Z,Z] rfl rfl (one_of HT_.out (by kernel_rfl)) (by decide) (fun K hK=>?_);refine Kd.R_append_rows_step k42 (w0:=w) w.heap.size (by rfl) (.tmp 22) (.tmp 26) 24 42 (.agg #[(.int .i64 0),(.int .i64 0)]) 16 rfl Try.underlying24 info42 rfl (by decide) (by omega) v702 y701 y704 _ _ _ (fun _=>True) (fun _=>False) rfl rfl ?aO ?aR (fun _ _ h=>h) (fun _ h=>h.elim) ?aF ?aB ?aS ?aL ?_;(case aR=>exact Kd.C_mv (Kd.C_below HR707.out HB.out))
        (case aB=>exact (bm HB))
        (case aF=>exact (fun _ _=>trivial))
        (case aO=>exact (Kd.R_mv HO703.out))
        (case aS=>exact (below_size (bm HB)))
        (case aL=>have:=LMc18.out;omega)
        intro v709 w52 ho hb hg hat;rw [← Ny708.out] at ho;refine ev5 (Kd.R_over' (Kd.R_mv HO_4.out) (Kd.R_typed (Kd.R_mv HO703.out)) (by decide) hg) (blk_grown (km_ BK697) hg (Kd.R_ne HO703.out BK697.out (by decide))) (blk_grown (km_ BK700) hg (Kd.R_ne HO703.out BK700.out (by decide))) (hb) (ho) ?_;clear HO_4 BK697 BK700 HB HO703;intro HO_4 BK697 BK700 HB HO710;clear ho hb hg hat;refine hK.out _ _ ⟨(blk_cell BK697.out 0).trans rfl,(blk_cell BK697.out 1).trans rfl,(blk_cell BK697.out 2).trans rfl,(blk_cell BK697.out 3).trans rfl,(blk_cell BK697.out 4).trans rfl⟩ (fun hHeld=>?_);clear hK K;refine norm_ (a':=?_) ?_ ?_;rotate_left
        ·show Act.put _ (some 27) _ = _
         simp only [Act.put,za_,zb_,zc_,i64_w,i32_w];rfl
        refine one_ (i:=11) (N:=some 33) #[Y,Y,Y,Y,Y,Y,Y,Y,Y,Y,Y,Y,Z,Z] rfl rfl (one_of HT_.out (by kernel_rfl)) (by decide) (fun K hK=>?_);refine Kd.R_append_rows_step k42 (w0:=w) w.heap.size (by rfl) (.tmp 27) (.tmp 32) 24 42 (.agg #[(.int .i64 0),(.int .i64 0)]) 16 rfl Try.underlying24 info42 rfl (by decide) (by omega) v709 y708 y711 _ _ _ (fun _=>True) (fun _=>False) rfl rfl ?aO ?aR (fun _ _ h=>h) (fun _ h=>h.elim) ?aF ?aB ?aS ?aL ?_;(case aR=>exact Kd.C_mv (Kd.C_below HR714.out HB.out))
        (case aB=>exact (bm HB))
        (case aF=>exact (fun _ _=>trivial))
        (case aO=>exact (Kd.R_mv HO710.out))
        (case aS=>exact (below_size (bm HB)))
        (case aL=>have:=LMc22.out;omega)
        intro v716 w53 ho hb hg hat;rw [← Ny715.out] at ho;refine ev5 (Kd.R_over' (Kd.R_mv HO_4.out) (Kd.R_typed (Kd.R_mv HO710.out)) (by decide) hg) (blk_grown (km_ BK697) hg (Kd.R_ne HO710.out BK697.out (by decide))) (blk_grown (km_ BK700) hg (Kd.R_ne HO710.out BK700.out (by decide))) (hb) (ho) ?_;clear HO_4 BK697 BK700 HB HO710;intro HO_4 BK697 BK700 HB HO717;clear ho hb hg hat;obtain ⟨Ao54,co54,eo54⟩:=Kd.R_slice HO717.out;(first | subst eo54 | (injection eo54 with f1_ f2_ f3_;have f4_:=f1_.symm;have f5_:=f3_.symm;clear f1_ f2_ f3_;subst f4_;subst f5_))
        refine hK.out _ _ ⟨(blk_cell BK697.out 0).trans rfl,(blk_cell BK697.out 1).trans rfl,(blk_cell BK697.out 2).trans rfl,(blk_cell BK697.out 3).trans rfl,(blk_cell BK697.out 4).trans rfl⟩ (fun hHeld=>?_);clear hK K;refine norm_ (a':=?_) ?_ ?_;rotate_left
        ·show Act.put _ (some 33) _ = _
         simp only [Act.put,za_,zb_,zc_,i64_w,i32_w];rfl
        refine pA 12 (some 34) ?_ #[Y,Y,Y,Y,Y,Y,Y,Y,Y,Y,Y,Y,Y,Z] rfl rfl HT_ (by kernel_rfl) (fun _ _ _ h=>h) (by rfl) ?_ ?_ ?_ ?_;rotate_left
        ·intro w';go_simp;with_reducible rfl
        rotate_left
        ·simp only [Act.put,za_,zb_,zc_,i64_w,i32_w];rfl
        refine one_ (i:=13) (N:=none) #[Y,Y,Y,Y,Y,Y,Y,Y,Y,Y,Y,Y,Y,Y] rfl rfl (one_of HT_.out (by kernel_rfl)) (by decide) (fun K hK=>?_);have hs55:w53.cell? ⟨gb700,2,none⟩ = some (.slice A0_2 l0_2.length c0_2):=(blk_cell BK700.out 2).trans rfl;have hfs55:=blk_frozen BK700.out 2;have hns55_0:=NB697_700.out;have hms55_0:=NB700_697.out;refine skip_ (w1:=?_) (by rfl) rfl ?_ ?_;rotate_left
        ·go_simp;rfl
        refine hK.out _ _ ⟨((cell_far (p:=⟨gb700,_,none⟩) NB697_700.out _).trans (hHeld.1)),((cell_far (p:=⟨gb700,_,none⟩) NB697_700.out _).trans (hHeld.2.1)),((cell_far (p:=⟨gb700,_,none⟩) NB697_700.out _).trans (hHeld.2.2.1)),((cell_far (p:=⟨gb700,_,none⟩) NB697_700.out _).trans (hHeld.2.2.2.1)),((cell_far (p:=⟨gb700,_,none⟩) NB697_700.out _).trans (hHeld.2.2.2.2))⟩ (fun hHeld=>?_);clear hK K;refine done_ (done_of HT_.out (by kernel_rfl)) ?_;obtain ⟨hcz56_0,hcz56_1,hcz56_2,hcz56_3,hcz56_4,hfz56_0,hfz56_1,hfz56_2,hfz56_3,hfz56_4⟩:=bt5 BK700;try go_wp2_with (first | ((with_reducible refine gate_callee (f:=97) rfl ?_);refine gL_ (some 36) Try.func97 #[.agg #[.int .i64 a0_0,.int .i64 a0_1,.slice Ao54 y715.length co54,.slice A0_3 l0_3.length c0_3,.slice A0_4 l0_4.length c0_4]] (h:=?_);(with_reducible refine (spec_syCan.calls k2 a0_0 a0_1 _ _ y715 _ _ l0_3 _ _ l0_4 false _ ?side1 ((Kd.R_reads' HO717.out).2.1) (Kd.C_below HR0_3.out (bm HB)) HC0_3.out (Kd.C_below HR0_4.out (bm HB)) HC0_4.out A23.out).mono ?_);(case side1=>exact (Kd.R_reads' (Kd.R_ft HO717.out BK700.out (by decide))).2.2);rintro e w57 ⟨rfl,hb⟩;refine ⟨_,rfl,?_⟩;refine ev5 (Kd.R_below (Kd.R_ft HO_4.out BK700.out (by decide)) hb) (Kd.R_below (Kd.R_ft HO717.out BK700.out (by decide)) hb) (blk_below (g:=gb697) (o:=.cells #[.int .i64 a0_0,.int .i64 a0_1,.slice A0_2 l0_2.length c0_2,.slice A0_3 l0_3.length c0_3,.slice A0_4 l0_4.length c0_4] 27 (0,0)) (fp BK697 rfl) hb) (blk_below (g:=gb700) (o:=.cells #[.int .i64 a0_0,.int .i64 a0_1,.slice Ao54 y715.length co54,.slice A0_3 l0_3.length c0_3,.slice A0_4 l0_4.length c0_4] 27 (0,0)) (fp BK700 rfl) hb) (bs HB hb) ?_;clear HO_4 HO717 BK697 BK700 HB;intro HO_4 HO717 BK697 BK700 HB;(try clear hb)) | ((with_reducible refine gate_builtin (b:=.append) (xs:=#[.tmp 38,.tmp 40]) rfl ?_);at_builtin;refine Kd.R_append (Kd.int .i64) (w0:=w) w.heap.size rfl (.tmp 38) (.tmp 40) 25 3 (.int .i64 0) 8 rfl Try.underlying25 info3 rfl (by decide) (by omega) u4 x4_2 x18_2 [.int .i64 x18_2] (fun _=>True) (fun _=>False) rfl rfl ?aP (fun _ hk=>hk.elim) ?aF ?aO ?aB ?aS ?aL ?_;(case aP=>exact rfl);(case aB=>exact (bm HB));(case aF=>exact (fun _ _=>trivial));(case aO=>exact (Kd.R_mv HO_4.out));(case aS=>exact (below_size (bm HB)));(case aL=>have:=LMc41.out;omega);intro v720 w58 ho hb hg hat;rw [← Ny719.out] at ho;refine ev5 (blk_grown (km_ BK697) hg (Kd.R_ne HO_4.out BK697.out (by decide))) (blk_grown (km_ BK700) hg (Kd.R_ne HO_4.out BK700.out (by decide))) (Kd.R_over' (Kd.R_mv HO717.out) (Kd.R_typed (Kd.R_mv HO_4.out)) (by decide) hg) (hb) (ho) ?_;clear BK697 BK700 HO717 HB HO_4;intro BK697 BK700 HO717 HB HO721;clear ho hb hg hat))
        go_roundg k2
        case measure=>have:=HJ1.out;have:=HK2.out;omega
        case rel=>exact ⟨(y719),(ji19),(by first | rfl | (simp;done) | (simp only [← hji19] <;> (first | rfl | simp)) | (simp [*];done)),H',⟨by have:=HJ1.out;have:=HK2.out;omega⟩,⟨Kd.R_mv HO721.out⟩,⟨km_ BK697⟩,⟨bm HB⟩⟩
      ·rw [if_neg c15] at H;have c15b0:decide (x18_2 < (l0_2.length:Int)) = false:=decide_eq_false c15;clear c15;simp only [Option.some.injEq,Prod.mk.injEq] at H;obtain ⟨rfl,rfl⟩:=H;go_wp2;go_ret2
       exact ⟨_,by first | rfl | (simp [e0_,e1_] <;> rfl) | (simp [*,e0_,e1_] <;> rfl),Kd.R_mv HO_4.out,bm HB⟩

/-! ### laws_pSameBoard: function 16 -/
mutual
def laws_pSameBoard.j0:Nat→Bool→Int→Int→List (S42)→Int→Int→List (S42)→Option (Bool)
  | 0,_,_,_,_,_,_,_=>none
  | k + 1,x26,x723000,x723001,x723002,x724000,x724001,x724002=>if x26 = true then (some false) else (laws_pSameBoard.l0 k (x723002.length:Int) 0 x723000 x723001 x723002 x724000 x724001 x724002)
def laws_pSameBoard.l0:Nat→Int→Int→Int→Int→List (S42)→Int→Int→List (S42)→Option (Bool)
  | 0,_,_,_,_,_,_,_,_=>none
  | k + 1,x29,x30,x723000,x723001,x723002,x724000,x724001,x724002=>if x30 < x29 then (if 0 ≤ x30 then (if x30 < (x723002.length:Int) then (if x30 < (x724002.length:Int) then (if (!(((rd_T42 x723002 x30).f0) == ((rd_T42 x724002 x30).f0)) || (!(((rd_T42 x723002 x30).f1) == ((rd_T42 x724002 x30).f1)))) = true then (some false) else (laws_pSameBoard.l0 k x29 (wrap64 (x30 + 1)) x723000 x723001 x723002 x724000 x724001 x724002)) else (none)) else (none)) else (none)) else (some true)
end
def laws_pSameBoard.f (k:Nat) (a0_0:Int) (a0_1:Int) (l0_2:List (S42)) (a1_0:Int) (a1_1:Int) (l1_2:List (S42)):Option (Bool):=if a0_0 = a1_0 then (if a0_1 = a1_1 then (laws_pSameBoard.j0 k ((l0_2.length:Int) != (l1_2.length:Int)) a0_0 a0_1 l0_2 a1_0 a1_1 l1_2) else (laws_pSameBoard.j0 k true a0_0 a0_1 l0_2 a1_0 a1_1 l1_2)) else (laws_pSameBoard.j0 k true a0_0 a0_1 l0_2 a1_0 a1_1 l1_2)
theorem laws_pSameBoard.calls (k:Nat) (a0_0:Int) (a0_1:Int) (A0_2:Option Addr) (c0_2:Nat) (l0_2:List (S42)) (a1_0:Int) (a1_1:Int) (A1_2:Option Addr) (c1_2:Nat) (l1_2:List (S42)) (r:Bool) (w:World) (hr0_2:Kd.C k42 w A0_2 l0_2.length l0_2) (hc0_2:l0_2.length ≤ c0_2) (hr1_2:Kd.C k42 w A1_2 l1_2.length l1_2) (hc1_2:l1_2.length ≤ c1_2) (h:laws_pSameBoard.f k a0_0 a0_1 l0_2 a1_0 a1_1 l1_2 = some r) :
    Calls Try.prog 16 #[.agg #[.int .i64 a0_0,.int .i64 a0_1,.slice A0_2 l0_2.length c0_2],.agg #[.int .i64 a1_0,.int .i64 a1_1,.slice A1_2 l1_2.length c1_2]] w fun e w'=>e = .returned (.bool r)∧Below w.heap.size w w':=by
 have S:=St.init (w:=w) (dc k42_heap at42 hr0_2 hc0_2 (dc k42_heap at42 hr1_2 hc1_2 dn))
 clear hr0_2 hc0_2 hr1_2 hc1_2
 have F:=S.fc
 have H:=h;clear h;unfold laws_pSameBoard.f at H
 go_enter Try.func16,Try.ntmps16
 go_upto_region 1 with (first | ((with_reducible refine gd 2 rfl (L ?_));refine bo 2 (.agg #[_,_,_]) S ?_;clear S F;intro gb722 W S;have F:=S.fc) | ((with_reducible refine gd 3 rfl (L ?_));refine bo 3 (.agg #[_,_,_]) S ?_;clear S F;intro gb723 W S;have F:=S.fc))
 try go_upto_region 1 with (first | ((with_reducible refine gd 2 rfl (L ?_));refine bo 2 (.agg #[_,_,_]) S ?_;clear S F;intro gb722 W S;have F:=S.fc) | ((with_reducible refine gd 3 rfl (L ?_));refine bo 3 (.agg #[_,_,_]) S ?_;clear S F;intro gb723 W S;have F:=S.fc) | ((with_reducible refine gd 2 rfl (L ?_));refine bo 2 (.agg #[_,_,_]) S ?_;clear S F;intro gb722 W S;have F:=S.fc) | ((with_reducible refine gd 3 rfl (L ?_));refine bo 3 (.agg #[_,_,_]) S ?_;clear S F;intro gb723 W S;have F:=S.fc) | ((refine rq (id:=6) S [(0,0),(0,2),(0,5),(0,7),(1,1),(0,3),(1,4),(1,6),(0,8),(1,9),(0,10)] [] (h:=?_);clear S F;intro W S;have S0:=S;have F:=S.fc)) | (refine q0 (h:=?_)) | (refine q1 S0 (h:=?_)) | (refine q0n (h:=?_)) | (refine q1n S0 (h:=?_)) | refine oz ?_)
 (try simp only [Act.put,List.setIfInBounds_toArray,List.set_cons_zero,List.set_cons_succ])
 go_cut [26] (fun v26 wc=>∃ (kq:Nat) (x26_2:Bool),v26 = .bool x26_2∧laws_pSameBoard.j0 kq x26_2 a0_0 a0_1 l0_2 a1_0 a1_1 l1_2 = some r∧kq ≤ k∧St w w (fun _=>False) [bor at42 A0_2 c0_2 l0_2,bor at42 A1_2 c1_2 l1_2] wc  [box gb723 30 [.int .i64 a1_0,.int .i64 a1_1,.slice A1_2 l1_2.length c1_2],box gb722 30 [.int .i64 a0_0,.int .i64 a0_1,.slice A0_2 l0_2.length c0_2]])
 case first =>
  replace H:=sp_ H;rcases H with ⟨c6,H⟩ | ⟨c6,H⟩
  · skip
    replace c6:=ceq c6
    replace H:=sp_ H;rcases H with ⟨c7,H⟩ | ⟨c7,H⟩
    · skip
      replace c7:=ceq c7
      go_wp2
      go_wp2_with (first | ((refine rq (id:=6) S [(0,0),(0,2),(0,5),(0,7),(1,1),(0,3),(1,4),(1,6),(0,8),(1,9),(0,10)] [] (h:=?_);clear S F;intro W S;have S0:=S;have F:=S.fc)) | (refine q0 (h:=?_)) | (refine q1 S0 (h:=?_)) | (refine q0n (h:=?_)) | (refine q1n S0 (h:=?_)) | refine oz ?_)
      go_meet
      case rel=>exact ⟨_,((l0_2.length:Int) != (l1_2.length:Int)),(by first | rfl | (simp;done) | (simp [*];done) | (rw [w6_ (by omega) (by omega)])),H,(by first | omega | exact Nat.le_refl _),S⟩
    · skip
      replace c7:=cne c7
      go_wp2
      go_wp2_with (first | ((refine rq (id:=6) S [(0,0),(0,2),(0,5),(0,7),(1,1),(0,3),(1,4),(1,6),(0,8),(1,9),(0,10)] [] (h:=?_);clear S F;intro W S;have S0:=S;have F:=S.fc)) | (refine q0 (h:=?_)) | (refine q1 S0 (h:=?_)) | (refine q0n (h:=?_)) | (refine q1n S0 (h:=?_)) | refine oz ?_)
      go_meet
      case rel=>exact ⟨_,true,(by first | rfl | (simp;done) | (simp [*];done) | (rw [w6_ (by omega) (by omega)])),H,(by first | omega | exact Nat.le_refl _),S⟩
  · skip
    replace c6:=cne c6
    go_wp2
    go_wp2_with (first | ((refine rq (id:=6) S [(0,0),(0,2),(0,5),(0,7),(1,1),(0,3),(1,4),(1,6),(0,8),(1,9),(0,10)] [] (h:=?_);clear S F;intro W S;have S0:=S;have F:=S.fc)) | (refine q0 (h:=?_)) | (refine q1 S0 (h:=?_)) | (refine q0n (h:=?_)) | (refine q1n S0 (h:=?_)) | refine oz ?_)
    go_meet
    case rel=>exact ⟨_,true,(by first | rfl | (simp;done) | (simp [*];done) | (rw [w6_ (by omega) (by omega)])),H,(by first | omega | exact Nat.le_refl _),S⟩
 case rest =>
  clear H S F
  obtain ⟨kq,x26_2,rfl,HA,HJ2,S⟩:=hcut
  have F:=S.fc
  cases kq with
  | zero=>exact absurd HA (by simp [laws_pSameBoard.j0])
  | succ kj2 =>
   have H:=HA;clear HA;simp only [laws_pSameBoard.j0,F] at H
   replace H:=sp_ H;rcases H with ⟨c17,H⟩ | ⟨c17,H⟩
   · skip
     subst c17
     obtain rfl:=Option.some.inj H
     go_wp2
     go_wp2_with (first | ((refine rq (id:=6) S [(0,0),(0,2),(0,5),(0,7),(1,1),(0,3),(1,4),(1,6),(0,8),(1,9),(0,10)] [] (h:=?_);clear S F;intro W S;have S0:=S;have F:=S.fc)) | (refine q0 (h:=?_)) | (refine q1 S0 (h:=?_)) | (refine q0n (h:=?_)) | (refine q1n S0 (h:=?_)) | refine oz ?_)
     go_ret
     exact ⟨(by first | rfl | (simp [e0_,e1_] <;> rfl) | (simp [*,e0_,e1_] <;> rfl)),S.below⟩
   · skip
     replace c17:=cbf c17;subst c17
     go_wp2
     go_wp2_with (first | ((refine rq (id:=6) S [(0,0),(0,2),(0,5),(0,7),(1,1),(0,3),(1,4),(1,6),(0,8),(1,9),(0,10)] [] (h:=?_);clear S F;intro W S;have S0:=S;have F:=S.fc)) | (refine q0 (h:=?_)) | (refine q1 S0 (h:=?_)) | (refine q0n (h:=?_)) | (refine q1n S0 (h:=?_)) | refine oz ?_)
     go_loopg [30] kj2 (fun kq v30 w'=>∃ (x30_2:Int),v30 = .int .i64 x30_2∧laws_pSameBoard.l0 kq (l0_2.length:Int) x30_2 a0_0 a0_1 l0_2 a1_0 a1_1 l1_2 = some r∧kq ≤ kj2∧St w w (fun _=>False) [bor at42 A0_2 c0_2 l0_2,bor at42 A1_2 c1_2 l1_2] w'  [box gb723 30 [.int .i64 a1_0,.int .i64 a1_1,.slice A1_2 l1_2.length c1_2],box gb722 30 [.int .i64 a0_0,.int .i64 a0_1,.slice A0_2 l0_2.length c0_2]])
     case atStart=>exact ⟨0,(by first | rfl | (simp;done) | (simp [*];done) | (rw [w6_ (by omega) (by omega)])),H,Nat.le_refl _,S⟩
     case round =>
      clear H S F
      obtain ⟨x30_2,rfl,HA,HK2,S⟩:=hrel
      have F:=S.fc
      cases gk with
      | zero=>exact absurd HA (by simp [laws_pSameBoard.l0])
      | succ k2 =>
       have H:=HA;clear HA;simp only [laws_pSameBoard.l0,F] at H
       replace H:=sp_ H;rcases H with ⟨c20,H⟩ | ⟨c20,H⟩
       · skip
         replace H:=np_ H;obtain ⟨c21,H⟩:=H
         replace H:=np_ H;obtain ⟨c22,H⟩:=H
         replace H:=np_ H;obtain ⟨c23,H⟩:=H
         replace H:=sp_ H;rcases H with ⟨c24,H⟩ | ⟨c24,H⟩
         · skip
           have c24n:=c24;(try simp at c24n)
           obtain rfl:=Option.some.inj H
           go_wp2
           go_wp2_with (first | ((refine rq (id:=6) S [(0,0),(0,2),(0,5),(0,7),(1,1),(0,3),(1,4),(1,6),(0,8),(1,9),(0,10)] [] (h:=?_);clear S F;intro W S;have S0:=S;have F:=S.fc)) | (refine q0 (h:=?_)) | (refine q1 S0 (h:=?_)) | (refine q0n (h:=?_)) | (refine q1n S0 (h:=?_)) | (refine oz ?_;(try rw [c24])))
           go_ret
           exact ⟨(by first | rfl | (simp [e0_,e1_] <;> rfl) | (simp [*,e0_,e1_] <;> rfl)),S.below⟩
         · skip
           try replace c24:=cbf c24
           have c24n:=c24;(try simp at c24n)
           go_wp2
           go_wp2_with (first | ((refine rq (id:=6) S [(0,0),(0,2),(0,5),(0,7),(1,1),(0,3),(1,4),(1,6),(0,8),(1,9),(0,10)] [] (h:=?_);clear S F;intro W S;have S0:=S;have F:=S.fc)) | (refine q0 (h:=?_)) | (refine q1 S0 (h:=?_)) | (refine q0n (h:=?_)) | (refine q1n S0 (h:=?_)) | (refine oz ?_;(try rw [c24])))
           go_roundg k2
           case measure=>omega
           case rel=>exact ⟨(wrap64 (x30_2 + 1)),(by first | rfl | (simp;done) | (simp [*];done) | (rw [w6_ (by omega) (by omega)])),H,(by first | omega | exact Nat.le_refl _),S⟩
       · skip
         obtain rfl:=Option.some.inj H
         go_wp2
         go_wp2_with (first | ((refine rq (id:=6) S [(0,0),(0,2),(0,5),(0,7),(1,1),(0,3),(1,4),(1,6),(0,8),(1,9),(0,10)] [] (h:=?_);clear S F;intro W S;have S0:=S;have F:=S.fc)) | (refine q0 (h:=?_)) | (refine q1 S0 (h:=?_)) | (refine q0n (h:=?_)) | (refine q1n S0 (h:=?_)) | (refine oz ?_;(try rw [c24])))
         go_ret
         exact ⟨(by first | rfl | (simp [e0_,e1_] <;> rfl) | (simp [*,e0_,e1_] <;> rfl)),S.below⟩

/-! ### laws_sameInts: function 17 -/
def laws_sameInts.l0:Nat→List Int→List Int→Int→Int→Option (Bool)
 | 0,_,_,_,_=>none
 | k + 1,x0,x1,x12,x13=>if x13 < x12 then (if 0 ≤ x13 then (if x13 < (x0.length:Int) then (if x13 < (x1.length:Int) then (if (rd x0 x13) = (rd x1 x13) then (laws_sameInts.l0 k x0 x1 x12 (wrap64 (x13 + 1))) else (some false)) else (none)) else (none)) else (none)) else (some true)
def laws_sameInts.f (k:Nat) (l0:List Int) (l1:List Int):Option (Bool):=if (l0.length:Int) = (l1.length:Int) then (laws_sameInts.l0 k l0 l1 (l0.length:Int) 0) else (some false)
theorem laws_sameInts.calls (k:Nat) (A0:Option Addr) (c0:Nat) (l0:List Int) (A1:Option Addr) (c1:Nat) (l1:List Int) (r:Bool) (w:World) (hr0:Kd.C (Kd.int .i64) w A0 l0.length l0) (hc0:l0.length ≤ c0) (hr1:Kd.C (Kd.int .i64) w A1 l1.length l1) (hc1:l1.length ≤ c1) (h:laws_sameInts.f k l0 l1 = some r) :
  Calls Try.prog 17 #[.slice A0 l0.length c0,.slice A1 l1.length c1] w fun e w'=>e = .returned (.bool r)∧Drawn0 w w':=by
 have HR0:=Aside0.mk hr0;have HC0:=Aside0.mk hc0;clear hr0 hc0;have HR1:=Aside0.mk hr1;have HC1:=Aside0.mk hc1;clear hr1 hc1;have H:(if (l0.length:Int) = (l1.length:Int) then (laws_sameInts.l0 k l0 l1 (l0.length:Int) 0) else (some false)) = some r:=h;clear h;by_cases c3:(l0.length:Int) = (l1.length:Int)
 ·rw [if_pos c3] at H;have c3b0:((l0.length:Int) == (l1.length:Int)) = true:=beq_iff_eq.mpr c3;have c3b1:((l0.length:Int) != (l1.length:Int)) = false:=bne_eq_false_iff_eq.mpr c3;have c3b2:(l0.length == l1.length) = true:=by first | simpa using c3 | (simp at c3 ⊢;omega)
  clear c3;have H':=Aside0.mk H;clear H;go_enter Try.func17,Try.ntmps17;go_wp2;repeat (go_quiet (fail);try go_wp2)
  go_loopg [13] k (fun kq v13 w'=>∃ (x13_1:Int),v13 = .int .i64 x13_1∧Aside0 (laws_sameInts.l0 kq l0 l1 (l0.length:Int) x13_1 = some r)∧Aside0 (kq ≤ k)∧Drawn0 w w')
  case atStart=>exact ⟨(0),(by first | rfl | (simp;done) | (simp [*];done)),H',⟨Nat.le_refl _⟩,by repeat (first | exact Drawn0.refl _ | apply Drawn0.step)⟩
  case round =>
   clear H';(try clear c1);(try clear p2);(try clear c3);(try clear c3b0);(try clear c3b1);(try clear c3b2);obtain ⟨x13_1,rfl,HA,HK1,⟨m1,rfl⟩⟩:=hrel;cases gk with
   | zero=>exact absurd HA.out (by simp [laws_sameInts.l0])
   | succ k1 =>
    have H:=HA.out;clear HA;simp only [laws_sameInts.l0] at H;by_cases c4:x13_1 < (l0.length:Int)
    ·rw [if_pos c4] at H;have c4b0:decide (x13_1 < (l0.length:Int)) = true:=decide_eq_true c4;clear c4;replace H:=np_ H;obtain ⟨c5,H⟩:=H;have c5b0:decide (0 ≤ x13_1) = true:=decide_eq_true c5;clear c5;replace H:=np_ H;obtain ⟨c6,H⟩:=H;have c6b0:decide (x13_1 < (l0.length:Int)) = true:=decide_eq_true c6;clear c6;replace H:=np_ H;obtain ⟨c7,H⟩:=H;have c7b0:decide (x13_1 < (l1.length:Int)) = true:=decide_eq_true c7;clear c7;by_cases c8:(rd l0 x13_1) = (rd l1 x13_1)
     ·rw [if_pos c8] at H;have c8b0:((rd l0 x13_1) == (rd l1 x13_1)) = true:=beq_iff_eq.mpr c8;have c8b1:((rd l0 x13_1) != (rd l1 x13_1)) = false:=bne_eq_false_iff_eq.mpr c8;clear c8;have H':=Aside0.mk H;clear H;have p726:0 ≤ (x13_1:Int):=of_decide_eq_true (by first | (with_reducible assumption) | assumption);have q726:x13_1 < (l0.length:Int):=of_decide_eq_true (by first | (with_reducible assumption) | assumption);obtain ⟨ad726,e726,hx726_0⟩:=Kd.at_int HR0.out x13_1 p726 q726;cases e726;replace p726:=eq_true p726;replace q726:=eq_true q726;have p727:0 ≤ (x13_1:Int):=of_decide_eq_true (by first | (with_reducible assumption) | assumption);have q727:x13_1 < (l1.length:Int):=of_decide_eq_true (by first | (with_reducible assumption) | assumption);obtain ⟨ad727,e727,hx727_0⟩:=Kd.at_int HR1.out x13_1 p727 q727;cases e727;replace p727:=eq_true p727;replace q727:=eq_true q727;go_wp2;repeat (go_quiet (fail);try go_wp2)
      go_roundg k1
      case measure=>have:=HK1.out;omega
      case rel=>exact ⟨(wrap64 (x13_1 + 1)),(by first | rfl | (simp;done) | (simp [*];done)),H',⟨by have:=HK1.out;omega⟩,by repeat (first | exact Drawn0.refl _ | apply Drawn0.step)⟩
     ·rw [if_neg c8] at H;have c8b0:((rd l0 x13_1) == (rd l1 x13_1)) = false:=beq_eq_false_iff_ne.mpr c8;have c8b1:((rd l0 x13_1) != (rd l1 x13_1)) = true:=bne_iff_ne.mpr c8;obtain rfl:=Option.some.inj H;have p726:0 ≤ (x13_1:Int):=of_decide_eq_true (by first | (with_reducible assumption) | assumption);have q726:x13_1 < (l0.length:Int):=of_decide_eq_true (by first | (with_reducible assumption) | assumption);obtain ⟨ad726,e726,hx726_0⟩:=Kd.at_int HR0.out x13_1 p726 q726;cases e726;replace p726:=eq_true p726;replace q726:=eq_true q726;have p727:0 ≤ (x13_1:Int):=of_decide_eq_true (by first | (with_reducible assumption) | assumption);have q727:x13_1 < (l1.length:Int):=of_decide_eq_true (by first | (with_reducible assumption) | assumption);obtain ⟨ad727,e727,hx727_0⟩:=Kd.at_int HR1.out x13_1 p727 q727;cases e727;replace p727:=eq_true p727;replace q727:=eq_true q727;go_wp2;repeat (go_quiet (fail);try go_wp2)
      go_ret;exact ⟨by first | rfl | (simp;done) | (simp [*];done),by repeat (first | exact Drawn0.refl _ | apply Drawn0.step)⟩
    ·rw [if_neg c4] at H;have c4b0:decide (x13_1 < (l0.length:Int)) = false:=decide_eq_false c4;clear c4;obtain rfl:=Option.some.inj H;go_wp2;repeat (go_quiet (fail);try go_wp2)
     go_ret;exact ⟨by first | rfl | (simp;done) | (simp [*];done),by repeat (first | exact Drawn0.refl _ | apply Drawn0.step)⟩
 ·rw [if_neg c3] at H;have c3b0:((l0.length:Int) == (l1.length:Int)) = false:=beq_eq_false_iff_ne.mpr c3;have c3b1:((l0.length:Int) != (l1.length:Int)) = true:=bne_iff_ne.mpr c3;have c3b2:(l0.length == l1.length) = false:=by first | simpa using c3 | (simp at c3 ⊢;omega)
  obtain rfl:=Option.some.inj H;go_enter Try.func17,Try.ntmps17;go_wp2;repeat (go_quiet (fail);try go_wp2)
  go_ret;exact ⟨by first | rfl | (simp;done) | (simp [*];done),by repeat (first | exact Drawn0.refl _ | apply Drawn0.step)⟩

/-! ### impl_validCells: function 183 -/
def impl_validCells.l0:Nat→List (S42)→Int→Int→Option (Bool)
  | 0,_,_,_=>none
  | k + 1,x8,x9,x10=>if x10 < x9 then (if 0 ≤ x10 then (if x10 < (x8.length:Int) then ((impl_IsCell.f ((rd_T42 x8 x10).f0) ((rd_T42 x8 x10).f1)).bind fun t730=>(if t730 = true then (impl_validCells.l0 k x8 x9 (wrap64 (x10 + 1))) else (some false))) else (none)) else (none)) else (some true)
def impl_validCells.f (k:Nat) (l0:List (S42)):Option (Bool):=if (l0.length:Int) > 90 then (some false) else (impl_validCells.l0 k l0 (l0.length:Int) 0)
theorem impl_validCells.calls (k:Nat) (A0:Option Addr) (c0:Nat) (l0:List (S42)) (r:Bool) (w:World) (hr0:Kd.C k42 w A0 l0.length l0) (hc0:l0.length ≤ c0) (h:impl_validCells.f k l0 = some r) :
    Calls Try.prog 183 #[.slice A0 l0.length c0] w fun e w'=>e = .returned (.bool r)∧Below w.heap.size w w':=by
 have S:=St.init (w:=w) (dc k42_heap at42 hr0 hc0 dn)
 clear hr0 hc0
 have F:=S.fc
 have H:=h;clear h;unfold impl_validCells.f at H
 replace H:=sp_ H;rcases H with ⟨c2,H⟩ | ⟨c2,H⟩
 · skip
   obtain rfl:=Option.some.inj H
   go_enter Try.func183,Try.ntmps183
   go_wp2_with (first | ((with_reducible refine gs (t:=42) rfl (L ?_));(first | refine sb (.agg #[_,_]) S sz42 ?_ | refine ro (.agg #[_,_]) S sz42 ?_ (ho:=rfl) (hx:=rfl) (hy:=rfl));(clear S F;intro W S;have F:=S.fc)))
   go_ret
   exact ⟨(by first | rfl | (simp [e0_,e1_] <;> rfl) | (simp [*,e0_,e1_] <;> rfl)),S.below⟩
 · skip
   go_enter Try.func183,Try.ntmps183
   go_wp2_with (first | ((with_reducible refine gs (t:=42) rfl (L ?_));(first | refine sb (.agg #[_,_]) S sz42 ?_ | refine ro (.agg #[_,_]) S sz42 ?_ (ho:=rfl) (hx:=rfl) (hy:=rfl));(clear S F;intro W S;have F:=S.fc)))
   go_loopg [10] k (fun kq v10 w'=>∃ (x10_1:Int),v10 = .int .i64 x10_1∧impl_validCells.l0 kq l0 (l0.length:Int) x10_1 = some r∧kq ≤ k∧St w w (fun _=>False) [bor at42 A0 c0 l0] w'  [])
   case atStart=>exact ⟨0,(by first | rfl | (simp;done) | (simp [*];done) | (rw [w6_ (by omega) (by omega)])),H,Nat.le_refl _,S⟩
   case round =>
    clear H S F
    obtain ⟨x10_1,rfl,HA,HK1,S⟩:=hrel
    have F:=S.fc
    cases gk with
    | zero=>exact absurd HA (by simp [impl_validCells.l0])
    | succ k1 =>
     have H:=HA;clear HA;simp only [impl_validCells.l0,F] at H
     replace H:=sp_ H;rcases H with ⟨c3,H⟩ | ⟨c3,H⟩
     · skip
       replace H:=np_ H;obtain ⟨c4,H⟩:=H
       replace H:=np_ H;obtain ⟨c5,H⟩:=H
       replace H:=Option.bind_eq_some_iff.mp H;obtain ⟨t730,A6,H⟩:=H;(try dsimp only at H)
       replace H:=sp_ H;rcases H with ⟨c7,H⟩ | ⟨c7,H⟩
       · skip
         subst c7
         go_wp2_with (first | ((with_reducible refine gd 4 rfl (L ?_));refine al 4 S zi42 ?_;clear S F;intro gb729 W S;have F:=S.fc) | ((with_reducible refine gate_callee (f:=126) rfl (L ?_));refine cl (some 15) Try.func126 (impl_IsCell.calls _ _ _ _ A6) (hargs:=by (simp only [ma_,mb_,mc_,F] <;> rfl)) (h:=?_);rintro e W ⟨rfl,hb⟩;refine ⟨_,rfl,?_⟩;replace S:=S.go hb;clear F hb;have F:=S.fc) | ((with_reducible refine gs (t:=42) rfl (L ?_));(first | refine sb (.agg #[_,_]) S sz42 ?_ | refine ro (.agg #[_,_]) S sz42 ?_ (ho:=rfl) (hx:=rfl) (hy:=rfl));(clear S F;intro W S;have F:=S.fc)))
         go_roundg k1
         case measure=>omega
         case rel=>exact ⟨(wrap64 (x10_1 + 1)),(by first | rfl | (simp;done) | (simp [*];done) | (rw [w6_ (by omega) (by omega)])),H,(by first | omega | exact Nat.le_refl _),S.tl⟩
       · skip
         replace c7:=cbf c7;subst c7
         obtain rfl:=Option.some.inj H
         go_wp2_with (first | ((with_reducible refine gd 4 rfl (L ?_));refine al 4 S zi42 ?_;clear S F;intro gb729 W S;have F:=S.fc) | ((with_reducible refine gate_callee (f:=126) rfl (L ?_));refine cl (some 15) Try.func126 (impl_IsCell.calls _ _ _ _ A6) (hargs:=by (simp only [ma_,mb_,mc_,F] <;> rfl)) (h:=?_);rintro e W ⟨rfl,hb⟩;refine ⟨_,rfl,?_⟩;replace S:=S.go hb;clear F hb;have F:=S.fc) | ((with_reducible refine gs (t:=42) rfl (L ?_));(first | refine sb (.agg #[_,_]) S sz42 ?_ | refine ro (.agg #[_,_]) S sz42 ?_ (ho:=rfl) (hx:=rfl) (hy:=rfl));(clear S F;intro W S;have F:=S.fc)))
         go_ret
         exact ⟨(by first | rfl | (simp [e0_,e1_] <;> rfl) | (simp [*,e0_,e1_] <;> rfl)),S.below⟩
     · skip
       obtain rfl:=Option.some.inj H
       go_wp2_with (first | ((with_reducible refine gs (t:=42) rfl (L ?_));(first | refine sb (.agg #[_,_]) S sz42 ?_ | refine ro (.agg #[_,_]) S sz42 ?_ (ho:=rfl) (hx:=rfl) (hy:=rfl));(clear S F;intro W S;have F:=S.fc)))
       go_ret
       exact ⟨(by first | rfl | (simp [e0_,e1_] <;> rfl) | (simp [*,e0_,e1_] <;> rfl)),S.below⟩

/-! ### impl_IsBoard: function 98 -/
def impl_IsBoard.f (k:Nat) (a0_0:Int) (a0_1:Int) (l0_2:List (S42)):Option (Bool):=if a0_0 ≥ 1 then (if a0_0 ≤ 10 then (if a0_1 ≥ 1 then (if a0_1 ≤ 9 then (if (l0_2.length:Int) = (wrap64 (a0_0 * a0_1)) then ((impl_validCells.f k l0_2).bind fun t732=>(some t732)) else (some false)) else (some false)) else (some false)) else (some false)) else (some false)
theorem impl_IsBoard.calls (k:Nat) (a0_0:Int) (a0_1:Int) (A0_2:Option Addr) (c0_2:Nat) (l0_2:List (S42)) (r:Bool) (w:World) (hr0_2:Kd.C k42 w A0_2 l0_2.length l0_2) (hc0_2:l0_2.length ≤ c0_2) (h:impl_IsBoard.f k a0_0 a0_1 l0_2 = some r) :
    Calls Try.prog 98 #[.agg #[.int .i64 a0_0,.int .i64 a0_1,.slice A0_2 l0_2.length c0_2]] w fun e w'=>e = .returned (.bool r)∧Below w.heap.size w w':=by
 have S:=St.init (w:=w) (dc k42_heap at42 hr0_2 hc0_2 dn)
 clear hr0_2 hc0_2
 have F:=S.fc
 have H:=h;clear h;unfold impl_IsBoard.f at H
 replace H:=sp_ H;rcases H with ⟨c2,H⟩ | ⟨c2,H⟩
 · skip
   replace H:=sp_ H;rcases H with ⟨c3,H⟩ | ⟨c3,H⟩
   · skip
     replace H:=sp_ H;rcases H with ⟨c4,H⟩ | ⟨c4,H⟩
     · skip
       replace H:=sp_ H;rcases H with ⟨c5,H⟩ | ⟨c5,H⟩
       · skip
         replace H:=sp_ H;rcases H with ⟨c6,H⟩ | ⟨c6,H⟩
         · skip
           replace c6:=ceq c6
           replace H:=Option.bind_eq_some_iff.mp H;obtain ⟨t732,A7,H⟩:=H;(try dsimp only at H)
           obtain rfl:=Option.some.inj H
           go_enter Try.func98,Try.ntmps98
           go_wp2_with (first | ((with_reducible refine gd 1 rfl (L ?_));refine bo 1 (.agg #[_,_,_]) S ?_;clear S F;intro gb731 W S;have F:=S.fc) | (go_at_call 183;(try simp only [F]);refine (impl_validCells.calls _ _ _ _ _ _ S.c S.n A7).mono ?_;rintro e W ⟨rfl,hb⟩;replace S:=S.go hb;clear F hb;have F:=S.fc))
           go_ret
           exact ⟨(by first | rfl | (simp [e0_,e1_] <;> rfl) | (simp [*,e0_,e1_] <;> rfl)),S.below⟩
         · skip
           replace c6:=cne c6
           obtain rfl:=Option.some.inj H
           go_enter Try.func98,Try.ntmps98
           go_wp2_with (first | ((with_reducible refine gd 1 rfl (L ?_));refine bo 1 (.agg #[_,_,_]) S ?_;clear S F;intro gb731 W S;have F:=S.fc))
           go_ret
           exact ⟨(by first | rfl | (simp [e0_,e1_] <;> rfl) | (simp [*,e0_,e1_] <;> rfl)),S.below⟩
       · skip
         obtain rfl:=Option.some.inj H
         go_enter Try.func98,Try.ntmps98
         go_wp2_with (first | ((with_reducible refine gd 1 rfl (L ?_));refine bo 1 (.agg #[_,_,_]) S ?_;clear S F;intro gb731 W S;have F:=S.fc))
         go_ret
         exact ⟨(by first | rfl | (simp [e0_,e1_] <;> rfl) | (simp [*,e0_,e1_] <;> rfl)),S.below⟩
     · skip
       obtain rfl:=Option.some.inj H
       go_enter Try.func98,Try.ntmps98
       go_wp2_with (first | ((with_reducible refine gd 1 rfl (L ?_));refine bo 1 (.agg #[_,_,_]) S ?_;clear S F;intro gb731 W S;have F:=S.fc))
       go_ret
       exact ⟨(by first | rfl | (simp [e0_,e1_] <;> rfl) | (simp [*,e0_,e1_] <;> rfl)),S.below⟩
   · skip
     obtain rfl:=Option.some.inj H
     go_enter Try.func98,Try.ntmps98
     go_wp2_with (first | ((with_reducible refine gd 1 rfl (L ?_));refine bo 1 (.agg #[_,_,_]) S ?_;clear S F;intro gb731 W S;have F:=S.fc))
     go_ret
     exact ⟨(by first | rfl | (simp [e0_,e1_] <;> rfl) | (simp [*,e0_,e1_] <;> rfl)),S.below⟩
 · skip
   obtain rfl:=Option.some.inj H
   go_enter Try.func98,Try.ntmps98
   go_wp2_with (first | ((with_reducible refine gd 1 rfl (L ?_));refine bo 1 (.agg #[_,_,_]) S ?_;clear S F;intro gb731 W S;have F:=S.fc))
   go_ret
   exact ⟨(by first | rfl | (simp [e0_,e1_] <;> rfl) | (simp [*,e0_,e1_] <;> rfl)),S.below⟩

/-! ### impl_MeetsChallenge: function 18 -/
mutual
def impl_MeetsChallenge.j0:Nat→Bool→Int→Int→List (S42)→List Int→List Int→Int→Int→List (S42)→Option (Bool × Bool)
  | 0,_,_,_,_,_,_,_,_,_=>none
  | k + 1,x15,x734000,x734001,x734002,x734003,x734004,x735000,x735001,x735002=>if x15 = true then (some (false,false)) else (if x735000 = x734000 then (impl_MeetsChallenge.j1 k (x735001 != x734001) x734000 x734001 x734002 x734003 x734004 x735000 x735001 x735002) else (impl_MeetsChallenge.j1 k true x734000 x734001 x734002 x734003 x734004 x735000 x735001 x735002))
def impl_MeetsChallenge.j1:Nat→Bool→Int→Int→List (S42)→List Int→List Int→Int→Int→List (S42)→Option (Bool × Bool)
  | 0,_,_,_,_,_,_,_,_,_=>none
  | k + 1,x27,x734000,x734001,x734002,x734003,x734004,x735000,x735001,x735002=>if x27 = true then (some (false,true)) else (impl_MeetsChallenge.l0 k x735002 (x735002.length:Int) 0 x734000 x734001 x734002 x734003 x734004 x735000 x735001 x735002)
def impl_MeetsChallenge.l0:Nat→List (S42)→Int→Int→Int→Int→List (S42)→List Int→List Int→Int→Int→List (S42)→Option (Bool × Bool)
  | 0,_,_,_,_,_,_,_,_,_,_,_=>none
  | k + 1,x29,x30,x31,x734000,x734001,x734002,x734003,x734004,x735000,x735001,x735002=>if x31 < x30 then (if 0 ≤ x31 then (if x31 < (x29.length:Int) then (if ((rd_T42 x29 x31).f0) = 0 then (impl_MeetsChallenge.l0 k x29 x30 (wrap64 (x31 + 1)) x734000 x734001 x734002 x734003 x734004 x735000 x735001 x735002) else ((impl_Cell_99.f k x734002 ((rd_T42 x29 x31).f0) ((rd_T42 x29 x31).f1)).bind fun t739=>(if t739 = true then (impl_MeetsChallenge.l0 k x29 x30 (wrap64 (x31 + 1)) x734000 x734001 x734002 x734003 x734004 x735000 x735001 x735002) else (some (false,true))))) else (none)) else (none)) else ((impl_hasEnds.f k x734000 x734001 x734002 x734003 x734004 x735000 x735001 x735002).bind fun t740=>(some (t740,true)))
end
def impl_MeetsChallenge.f (k:Nat) (a0_0:Int) (a0_1:Int) (l0_2:List (S42)) (l0_3:List Int) (l0_4:List Int) (a1_0:Int) (a1_1:Int) (l1_2:List (S42)):Option (Bool × Bool):=(impl_IsChallenge.f k a0_0 a0_1 l0_2 l0_3 l0_4).bind fun t735=>(if t735 = true then ((impl_IsBoard.f k a1_0 a1_1 l1_2).bind fun t736=>(impl_MeetsChallenge.j0 k (!t736) a0_0 a0_1 l0_2 l0_3 l0_4 a1_0 a1_1 l1_2)) else (impl_MeetsChallenge.j0 k true a0_0 a0_1 l0_2 l0_3 l0_4 a1_0 a1_1 l1_2))
theorem impl_MeetsChallenge.calls (k:Nat) (a0_0:Int) (a0_1:Int) (A0_2:Option Addr) (c0_2:Nat) (l0_2:List (S42)) (A0_3:Option Addr) (c0_3:Nat) (l0_3:List Int) (A0_4:Option Addr) (c0_4:Nat) (l0_4:List Int) (a1_0:Int) (a1_1:Int) (A1_2:Option Addr) (c1_2:Nat) (l1_2:List (S42)) (r1:Bool) (r2:Bool) (w:World) (hr0_2:Kd.C k42 w A0_2 l0_2.length l0_2) (hc0_2:l0_2.length ≤ c0_2) (hr0_3:Kd.C (Kd.int .i64) w A0_3 l0_3.length l0_3) (hc0_3:l0_3.length ≤ c0_3) (hr0_4:Kd.C (Kd.int .i64) w A0_4 l0_4.length l0_4) (hc0_4:l0_4.length ≤ c0_4) (hr1_2:Kd.C k42 w A1_2 l1_2.length l1_2) (hc1_2:l1_2.length ≤ c1_2) (h:impl_MeetsChallenge.f k a0_0 a0_1 l0_2 l0_3 l0_4 a1_0 a1_1 l1_2 = some (r1,r2)) :
    Calls Try.prog 18 #[.agg #[.int .i64 a0_0,.int .i64 a0_1,.slice A0_2 l0_2.length c0_2,.slice A0_3 l0_3.length c0_3,.slice A0_4 l0_4.length c0_4],.agg #[.int .i64 a1_0,.int .i64 a1_1,.slice A1_2 l1_2.length c1_2]] w fun e w'=>e = .returned (.tuple #[.bool r1,.bool r2])∧Below w.heap.size w w':=by
 have S:=St.init (w:=w) (dc k42_heap at42 hr0_2 hc0_2 (dc (Kd.heap_int .i64) (atI .i64) hr0_3 hc0_3 (dc (Kd.heap_int .i64) (atI .i64) hr0_4 hc0_4 (dc k42_heap at42 hr1_2 hc1_2 dn))))
 clear hr0_2 hc0_2 hr0_3 hc0_3 hr0_4 hc0_4 hr1_2 hc1_2
 have F:=S.fc
 have H:=h;clear h;unfold impl_MeetsChallenge.f at H
 go_enter Try.func18,Try.ntmps18
 go_upto_region 1 with (first | ((with_reducible refine gd 2 rfl (L ?_));refine bo 2 (.agg #[_,_,_,_,_]) S ?_;clear S F;intro gb733 W S;have F:=S.fc) | ((with_reducible refine gd 3 rfl (L ?_));refine bo 3 (.agg #[_,_,_]) S ?_;clear S F;intro gb734 W S;have F:=S.fc) | ((with_reducible refine gs (t:=42) rfl (L ?_));(first | refine sb (.agg #[_,_]) S sz42 ?_ | refine ro (.agg #[_,_]) S sz42 ?_ (ho:=rfl) (hx:=rfl) (hy:=rfl));(clear S F;intro W S;have F:=S.fc)))
 (try simp only [Act.put,List.setIfInBounds_toArray,List.set_cons_zero,List.set_cons_succ])
 go_cut [15] (fun v15 wc=>∃ (kq:Nat) (x15_2:Bool),v15 = .bool x15_2∧impl_MeetsChallenge.j0 kq x15_2 a0_0 a0_1 l0_2 l0_3 l0_4 a1_0 a1_1 l1_2 = some (r1,r2)∧kq ≤ k∧St w w (fun _=>False) [bor at42 A0_2 c0_2 l0_2,bor (atI .i64) A0_3 c0_3 l0_3,bor (atI .i64) A0_4 c0_4 l0_4,bor at42 A1_2 c1_2 l1_2] wc  [box gb734 30 [.int .i64 a1_0,.int .i64 a1_1,.slice A1_2 l1_2.length c1_2],box gb733 27 [.int .i64 a0_0,.int .i64 a0_1,.slice A0_2 l0_2.length c0_2,.slice A0_3 l0_3.length c0_3,.slice A0_4 l0_4.length c0_4]])
 case first =>
  replace H:=Option.bind_eq_some_iff.mp H;obtain ⟨t735,A6,H⟩:=H;(try dsimp only at H)
  replace H:=sp_ H;rcases H with ⟨c7,H⟩ | ⟨c7,H⟩
  · skip
    subst c7
    replace H:=Option.bind_eq_some_iff.mp H;obtain ⟨t736,A8,H⟩:=H;(try dsimp only at H)
    go_wp2_with (first | ((with_reducible refine gate_callee (f:=37) rfl (L ?_));refine cl (some 9) Try.func37 (impl_IsChallenge.calls _ _ _ _ _ _ _ _ _ _ _ _ _ _ S.c S.n S.c S.n S.c S.n A6) (hargs:=by (simp only [ma_,mb_,mc_,F] <;> rfl)) (h:=?_);rintro e W ⟨rfl,hb⟩;refine ⟨_,rfl,?_⟩;replace S:=S.go hb;clear F hb;have F:=S.fc) | (go_at_call 98;(try simp only [F]);refine (impl_IsBoard.calls _ _ _ _ _ _ _ _ S.c S.n A8).mono ?_;rintro e W ⟨rfl,hb⟩;replace S:=S.go hb;clear F hb;have F:=S.fc) | ((with_reducible refine gs (t:=42) rfl (L ?_));(first | refine sb (.agg #[_,_]) S sz42 ?_ | refine ro (.agg #[_,_]) S sz42 ?_ (ho:=rfl) (hx:=rfl) (hy:=rfl));(clear S F;intro W S;have F:=S.fc)))
    go_meet
    case rel=>exact ⟨_,(!t736),(by first | rfl | (simp;done) | (simp [*];done) | (rw [w6_ (by omega) (by omega)])),H,(by first | omega | exact Nat.le_refl _),S⟩
  · skip
    replace c7:=cbf c7;subst c7
    go_wp2_with (first | ((with_reducible refine gate_callee (f:=37) rfl (L ?_));refine cl (some 9) Try.func37 (impl_IsChallenge.calls _ _ _ _ _ _ _ _ _ _ _ _ _ _ S.c S.n S.c S.n S.c S.n A6) (hargs:=by (simp only [ma_,mb_,mc_,F] <;> rfl)) (h:=?_);rintro e W ⟨rfl,hb⟩;refine ⟨_,rfl,?_⟩;replace S:=S.go hb;clear F hb;have F:=S.fc) | ((with_reducible refine gs (t:=42) rfl (L ?_));(first | refine sb (.agg #[_,_]) S sz42 ?_ | refine ro (.agg #[_,_]) S sz42 ?_ (ho:=rfl) (hx:=rfl) (hy:=rfl));(clear S F;intro W S;have F:=S.fc)))
    go_meet
    case rel=>exact ⟨_,true,(by first | rfl | (simp;done) | (simp [*];done) | (rw [w6_ (by omega) (by omega)])),H,(by first | omega | exact Nat.le_refl _),S⟩
 case rest =>
  clear H S F
  obtain ⟨kq,x15_2,rfl,HA,HJ2,S⟩:=hcut
  have F:=S.fc
  cases kq with
  | zero=>exact absurd HA (by simp [impl_MeetsChallenge.j0])
  | succ kj2 =>
   have H:=HA;clear HA;simp only [impl_MeetsChallenge.j0,F] at H
   replace H:=sp_ H;rcases H with ⟨c17,H⟩ | ⟨c17,H⟩
   · skip
     subst c17
     simp only [Option.some.injEq,Prod.mk.injEq] at H
     obtain ⟨rfl,rfl⟩:=H
     go_wp2_with (first | ((with_reducible refine gs (t:=42) rfl (L ?_));(first | refine sb (.agg #[_,_]) S sz42 ?_ | refine ro (.agg #[_,_]) S sz42 ?_ (ho:=rfl) (hx:=rfl) (hy:=rfl));(clear S F;intro W S;have F:=S.fc)))
     go_ret2
     exact ⟨(by first | rfl | (simp [e0_,e1_] <;> rfl) | (simp [*,e0_,e1_] <;> rfl)),S.below⟩
   · skip
     replace c17:=cbf c17;subst c17
     go_upto_region 3 with (first | ((with_reducible refine gs (t:=42) rfl (L ?_));(first | refine sb (.agg #[_,_]) S sz42 ?_ | refine ro (.agg #[_,_]) S sz42 ?_ (ho:=rfl) (hx:=rfl) (hy:=rfl));(clear S F;intro W S;have F:=S.fc)))
     go_cut [27] (fun v27 wc=>∃ (kq:Nat) (x27_17:Bool),v27 = .bool x27_17∧impl_MeetsChallenge.j1 kq x27_17 a0_0 a0_1 l0_2 l0_3 l0_4 a1_0 a1_1 l1_2 = some (r1,r2)∧kq ≤ kj2∧St w w (fun _=>False) [bor at42 A0_2 c0_2 l0_2,bor (atI .i64) A0_3 c0_3 l0_3,bor (atI .i64) A0_4 c0_4 l0_4,bor at42 A1_2 c1_2 l1_2] wc  [box gb734 30 [.int .i64 a1_0,.int .i64 a1_1,.slice A1_2 l1_2.length c1_2],box gb733 27 [.int .i64 a0_0,.int .i64 a0_1,.slice A0_2 l0_2.length c0_2,.slice A0_3 l0_3.length c0_3,.slice A0_4 l0_4.length c0_4]])
     case first =>
      replace H:=sp_ H;rcases H with ⟨c19,H⟩ | ⟨c19,H⟩
      · skip
        replace c19:=ceq c19
        go_wp2_with (first | ((with_reducible refine gs (t:=42) rfl (L ?_));(first | refine sb (.agg #[_,_]) S sz42 ?_ | refine ro (.agg #[_,_]) S sz42 ?_ (ho:=rfl) (hx:=rfl) (hy:=rfl));(clear S F;intro W S;have F:=S.fc)))
        go_meet
        case rel=>exact ⟨_,(a1_1 != a0_1),(by first | rfl | (simp;done) | (simp [*];done) | (rw [w6_ (by omega) (by omega)])),H,(by first | omega | exact Nat.le_refl _),S⟩
      · skip
        replace c19:=cne c19
        go_wp2_with (first | ((with_reducible refine gs (t:=42) rfl (L ?_));(first | refine sb (.agg #[_,_]) S sz42 ?_ | refine ro (.agg #[_,_]) S sz42 ?_ (ho:=rfl) (hx:=rfl) (hy:=rfl));(clear S F;intro W S;have F:=S.fc)))
        go_meet
        case rel=>exact ⟨_,true,(by first | rfl | (simp;done) | (simp [*];done) | (rw [w6_ (by omega) (by omega)])),H,(by first | omega | exact Nat.le_refl _),S⟩
     case rest =>
      clear H S F
      obtain ⟨kq,x27_17,rfl,HA,HJ17,S⟩:=hcut
      have F:=S.fc
      cases kq with
      | zero=>exact absurd HA (by simp [impl_MeetsChallenge.j1])
      | succ kj17 =>
       have H:=HA;clear HA;simp only [impl_MeetsChallenge.j1,F] at H
       replace H:=sp_ H;rcases H with ⟨c26,H⟩ | ⟨c26,H⟩
       · skip
         subst c26
         simp only [Option.some.injEq,Prod.mk.injEq] at H
         obtain ⟨rfl,rfl⟩:=H
         go_wp2_with (first | ((with_reducible refine gs (t:=42) rfl (L ?_));(first | refine sb (.agg #[_,_]) S sz42 ?_ | refine ro (.agg #[_,_]) S sz42 ?_ (ho:=rfl) (hx:=rfl) (hy:=rfl));(clear S F;intro W S;have F:=S.fc)))
         go_ret2
         exact ⟨(by first | rfl | (simp [e0_,e1_] <;> rfl) | (simp [*,e0_,e1_] <;> rfl)),S.below⟩
       · skip
         replace c26:=cbf c26;subst c26
         go_wp2_with (first | ((with_reducible refine gs (t:=42) rfl (L ?_));(first | refine sb (.agg #[_,_]) S sz42 ?_ | refine ro (.agg #[_,_]) S sz42 ?_ (ho:=rfl) (hx:=rfl) (hy:=rfl));(clear S F;intro W S;have F:=S.fc)))
         go_loopg [31] kj17 (fun kq v31 w'=>∃ (x31_3:Int),v31 = .int .i64 x31_3∧impl_MeetsChallenge.l0 kq l1_2 (l1_2.length:Int) x31_3 a0_0 a0_1 l0_2 l0_3 l0_4 a1_0 a1_1 l1_2 = some (r1,r2)∧kq ≤ kj17∧St w w (fun _=>False) [bor at42 A0_2 c0_2 l0_2,bor (atI .i64) A0_3 c0_3 l0_3,bor (atI .i64) A0_4 c0_4 l0_4,bor at42 A1_2 c1_2 l1_2] w'  [box gb734 30 [.int .i64 a1_0,.int .i64 a1_1,.slice A1_2 l1_2.length c1_2],box gb733 27 [.int .i64 a0_0,.int .i64 a0_1,.slice A0_2 l0_2.length c0_2,.slice A0_3 l0_3.length c0_3,.slice A0_4 l0_4.length c0_4]])
         case atStart=>exact ⟨0,(by first | rfl | (simp;done) | (simp [*];done) | (rw [w6_ (by omega) (by omega)])),H,Nat.le_refl _,S⟩
         case round =>
          clear H S F
          obtain ⟨x31_3,rfl,HA,HK3,S⟩:=hrel
          have F:=S.fc
          cases gk with
          | zero=>exact absurd HA (by simp [impl_MeetsChallenge.l0])
          | succ k3 =>
           have H:=HA;clear HA;simp only [impl_MeetsChallenge.l0,F] at H
           replace H:=sp_ H;rcases H with ⟨c29,H⟩ | ⟨c29,H⟩
           · skip
             replace H:=np_ H;obtain ⟨c30,H⟩:=H
             replace H:=np_ H;obtain ⟨c31,H⟩:=H
             replace H:=sp_ H;rcases H with ⟨c32,H⟩ | ⟨c32,H⟩
             · skip
               replace c32:=ceq c32
               go_wp2_with (first | ((with_reducible refine gd 7 rfl (L ?_));refine al 7 S zi42 ?_;clear S F;intro gb738 W S;have F:=S.fc) | ((with_reducible refine gs (t:=42) rfl (L ?_));(first | refine sb (.agg #[_,_]) S sz42 ?_ | refine ro (.agg #[_,_]) S sz42 ?_ (ho:=rfl) (hx:=rfl) (hy:=rfl));(clear S F;intro W S;have F:=S.fc)))
               go_roundg k3
               case measure=>omega
               case rel=>exact ⟨(wrap64 (x31_3 + 1)),(by first | rfl | (simp;done) | (simp [*];done) | (rw [w6_ (by omega) (by omega)])),H,(by first | omega | exact Nat.le_refl _),S.tl⟩
             · skip
               replace c32:=cne c32
               replace H:=Option.bind_eq_some_iff.mp H;obtain ⟨t739,A37,H⟩:=H;(try dsimp only at H)
               replace H:=sp_ H;rcases H with ⟨c38,H⟩ | ⟨c38,H⟩
               · skip
                 subst c38
                 go_wp2_with (first | ((with_reducible refine gd 7 rfl (L ?_));refine al 7 S zi42 ?_;clear S F;intro gb738 W S;have F:=S.fc) | (go_at_call 99;(try simp only [F]);refine (impl_Cell_99.calls _ _ _ _ _ _ _ _ S.c S.n A37).mono ?_;rintro e W ⟨rfl,hb⟩;replace S:=S.go hb;clear F hb;have F:=S.fc) | ((with_reducible refine gs (t:=42) rfl (L ?_));(first | refine sb (.agg #[_,_]) S sz42 ?_ | refine ro (.agg #[_,_]) S sz42 ?_ (ho:=rfl) (hx:=rfl) (hy:=rfl));(clear S F;intro W S;have F:=S.fc)))
                 go_roundg k3
                 case measure=>omega
                 case rel=>exact ⟨(wrap64 (x31_3 + 1)),(by first | rfl | (simp;done) | (simp [*];done) | (rw [w6_ (by omega) (by omega)])),H,(by first | omega | exact Nat.le_refl _),S.tl⟩
               · skip
                 replace c38:=cbf c38;subst c38
                 simp only [Option.some.injEq,Prod.mk.injEq] at H
                 obtain ⟨rfl,rfl⟩:=H
                 go_wp2_with (first | ((with_reducible refine gd 7 rfl (L ?_));refine al 7 S zi42 ?_;clear S F;intro gb738 W S;have F:=S.fc) | (go_at_call 99;(try simp only [F]);refine (impl_Cell_99.calls _ _ _ _ _ _ _ _ S.c S.n A37).mono ?_;rintro e W ⟨rfl,hb⟩;replace S:=S.go hb;clear F hb;have F:=S.fc) | ((with_reducible refine gs (t:=42) rfl (L ?_));(first | refine sb (.agg #[_,_]) S sz42 ?_ | refine ro (.agg #[_,_]) S sz42 ?_ (ho:=rfl) (hx:=rfl) (hy:=rfl));(clear S F;intro W S;have F:=S.fc)))
                 go_ret2
                 exact ⟨(by first | rfl | (simp [e0_,e1_] <;> rfl) | (simp [*,e0_,e1_] <;> rfl)),S.below⟩
           · skip
             replace H:=Option.bind_eq_some_iff.mp H;obtain ⟨t740,A53,H⟩:=H;(try dsimp only at H)
             simp only [Option.some.injEq,Prod.mk.injEq] at H
             obtain ⟨rfl,rfl⟩:=H
             go_wp2_with (first | ((with_reducible refine gate_callee (f:=100) rfl (L ?_));refine cl (some 48) Try.func100 (impl_hasEnds.calls _ _ _ _ _ _ _ _ _ _ _ _ _ _ _ _ _ _ _ S.c S.n S.c S.n S.c S.n S.c S.n A53) (hargs:=by (simp only [ma_,mb_,mc_,F] <;> rfl)) (h:=?_);rintro e W ⟨rfl,hb⟩;refine ⟨_,rfl,?_⟩;replace S:=S.go hb;clear F hb;have F:=S.fc) | ((with_reducible refine gs (t:=42) rfl (L ?_));(first | refine sb (.agg #[_,_]) S sz42 ?_ | refine ro (.agg #[_,_]) S sz42 ?_ (ho:=rfl) (hx:=rfl) (hy:=rfl));(clear S F;intro W S;have F:=S.fc)))
             go_ret2
             exact ⟨(by first | rfl | (simp [e0_,e1_] <;> rfl) | (simp [*,e0_,e1_] <;> rfl)),S.below⟩

/-! ### spec_DrawCountSolutions: function 19 -/
def spec_DrawCountSolutions.f (k:Nat) (l0:List Int):Option (Int × Int × (List (S42)) × List Int × List Int):=(spec_DrawIsChallenge.f k l0).bind fun bt742=>(some (bt742.1,bt742.2.1,bt742.2.2.1,bt742.2.2.2.1,bt742.2.2.2.2))
theorem spec_DrawCountSolutions.calls (k:Nat) (A0:Option Addr) (c0:Nat) (l0:List Int) (r1:Int) (r2:Int) (r3:List (S42)) (r4:List Int) (r5:List Int) (w:World) (hr0:Kd.C (Kd.int .u8) w A0 l0.length l0) (hc0:l0.length ≤ c0) (h:spec_DrawCountSolutions.f k l0 = some (r1,r2,r3,r4,r5)) :
    Calls Try.prog 19 #[.slice A0 l0.length c0] w fun e w'=>∃ v2_ v3_ v4_:Value,e = .returned (.agg #[.int .i64 r1,.int .i64 r2,v2_,v3_,v4_])∧Kd.R k42 42 w' w.heap.size (fun _=>True) v2_ r3∧Kd.R (Kd.int .i64) 3 w' w.heap.size (fun k_=>some k_ ≠ (v4_:Value).ownBlock) v3_ r4∧Kd.R (Kd.int .i64) 3 w' w.heap.size (fun k_=>some k_ ≠ (v3_:Value).ownBlock) v4_ r5∧Below w.heap.size w w':=by
 have S:=St.init (w:=w) (dc (Kd.heap_int .u8) (atI .u8) hr0 hc0 dn)
 clear hc0
 have F:=S.fc
 have H:=h;clear h;unfold spec_DrawCountSolutions.f at H
 replace H:=Option.bind_eq_some_iff.mp H;obtain ⟨⟨t742,t743,t744,t747,t750⟩,A2,H⟩:=H;(try dsimp only at H)
 simp only [Option.some.injEq,Prod.mk.injEq] at H
 obtain ⟨rfl,rfl,rfl,rfl,rfl⟩:=H
 go_enter Try.func19,Try.ntmps19
 go_wp2_with (first | ((with_reducible refine gd 2 rfl (L ?_));refine al 2 S zi27 ?_;clear S F;intro gb741 W S;have F:=S.fc) | ((with_reducible refine gate_callee (f:=91) rfl (L ?_));refine cl (some 4) Try.func91 (spec_DrawIsChallenge.calls _ _ _ _ _ _ _ _ _ _ S.c S.n A2) (hargs:=by (simp only [ma_,mb_,mc_,F] <;> rfl)) (h:=?_);rintro e W ⟨v745,v748,v751,rfl,ho0,ho1,ho2,hb⟩;refine ⟨_,rfl,?_⟩;replace S:=S.got3i at42 (atI .i64) (atI .i64) hb ho0 ho1 ho2 (by decide);obtain ⟨At744,ct744,At747,ct747,At750,ct750,rfl,rfl,rfl,S⟩:=S;clear F hb ho0 ho1 ho2;have F:=S.fc) | ((with_reducible refine gs (t:=27) rfl (L ?_));(first | refine sb (.agg #[_,_,_,_,_]) S sz27 ?_ | refine ro (.agg #[_,_,_,_,_]) S sz27 ?_ (ho:=rfl) (hx:=rfl) (hy:=rfl));(clear S F;intro W S;have F:=S.fc)))
 refine bodyPost_ret (results_cell_row rfl _ _ gb741 27 #[.int .i64 t742,.int .i64 t743,.slice At744 t744.length ct744,.slice At747 t747.length ct747,.slice At750 t750.length ct750] (0,0) _ rfl S.hb Try.underlying27 rfl (by kernel_rfl)) rfl ?_
 exact ⟨_,_,_,(by first | rfl | (simp [e0_,e1_] <;> rfl) | (simp [*,e0_,e1_] <;> rfl)),(by first | exact S.r | exact Kd.R_nil _ _ _ _ _),(by first | exact S.rn | exact Kd.R_nil _ _ _ _ _),(by first | exact S.rn | exact Kd.R_nil _ _ _ _ _),S.below⟩

/-! ### impl_CountSolutions: function 20 -/
def impl_CountSolutions.f (k:Nat) (a0_0:Int) (a0_1:Int) (l0_2:List (S42)) (l0_3:List Int) (l0_4:List Int):Option (Int × Bool):=(impl_IsChallenge.f k a0_0 a0_1 l0_2 l0_3 l0_4).bind fun t754=>(if t754 = true then ((impl_countSolutions.f k a0_0 a0_1 l0_2 l0_3 l0_4).bind fun t755=>(some (t755,true))) else (some (0,false)))
theorem impl_CountSolutions.calls (k:Nat) (a0_0:Int) (a0_1:Int) (A0_2:Option Addr) (c0_2:Nat) (l0_2:List (S42)) (A0_3:Option Addr) (c0_3:Nat) (l0_3:List Int) (A0_4:Option Addr) (c0_4:Nat) (l0_4:List Int) (r1:Int) (r2:Bool) (w:World) (hr0_2:Kd.C k42 w A0_2 l0_2.length l0_2) (hc0_2:l0_2.length ≤ c0_2) (hr0_3:Kd.C (Kd.int .i64) w A0_3 l0_3.length l0_3) (hc0_3:l0_3.length ≤ c0_3) (hr0_4:Kd.C (Kd.int .i64) w A0_4 l0_4.length l0_4) (hc0_4:l0_4.length ≤ c0_4) (h:impl_CountSolutions.f k a0_0 a0_1 l0_2 l0_3 l0_4 = some (r1,r2)) :
    Calls Try.prog 20 #[.agg #[.int .i64 a0_0,.int .i64 a0_1,.slice A0_2 l0_2.length c0_2,.slice A0_3 l0_3.length c0_3,.slice A0_4 l0_4.length c0_4]] w fun e w'=>e = .returned (.tuple #[.int .i64 r1,.bool r2])∧Below w.heap.size w w':=by
 have S:=St.init (w:=w) (dc k42_heap at42 hr0_2 hc0_2 (dc (Kd.heap_int .i64) (atI .i64) hr0_3 hc0_3 (dc (Kd.heap_int .i64) (atI .i64) hr0_4 hc0_4 dn)))
 clear hr0_2 hc0_2 hr0_3 hc0_3 hr0_4 hc0_4
 have F:=S.fc
 have H:=h;clear h;unfold impl_CountSolutions.f at H
 replace H:=Option.bind_eq_some_iff.mp H;obtain ⟨t754,A2,H⟩:=H;(try dsimp only at H)
 replace H:=sp_ H;rcases H with ⟨c3,H⟩ | ⟨c3,H⟩
 · skip
   subst c3
   replace H:=Option.bind_eq_some_iff.mp H;obtain ⟨t755,A4,H⟩:=H;(try dsimp only at H)
   simp only [Option.some.injEq,Prod.mk.injEq] at H
   obtain ⟨rfl,rfl⟩:=H
   go_enter Try.func20,Try.ntmps20
   go_wp2_with (first | ((with_reducible refine gd 1 rfl (L ?_));refine bo 1 (.agg #[_,_,_,_,_]) S ?_;clear S F;intro gb753 W S;have F:=S.fc) | ((with_reducible refine gate_callee (f:=37) rfl (L ?_));refine cl (some 5) Try.func37 (impl_IsChallenge.calls _ _ _ _ _ _ _ _ _ _ _ _ _ _ S.c S.n S.c S.n S.c S.n A2) (hargs:=by (simp only [ma_,mb_,mc_,F] <;> rfl)) (h:=?_);rintro e W ⟨rfl,hb⟩;refine ⟨_,rfl,?_⟩;replace S:=S.go hb;clear F hb;have F:=S.fc) | ((with_reducible refine gate_callee (f:=96) rfl (L ?_));refine cl (some 8) Try.func96 (impl_countSolutions.calls _ _ _ _ _ _ _ _ _ _ _ _ _ _ S.c S.n S.c S.n S.c S.n A4) (hargs:=by (simp only [ma_,mb_,mc_,F] <;> rfl)) (h:=?_);rintro e W ⟨rfl,hb⟩;refine ⟨_,rfl,?_⟩;replace S:=S.go hb;clear F hb;have F:=S.fc))
   go_ret2
   exact ⟨(by first | rfl | (simp [e0_,e1_] <;> rfl) | (simp [*,e0_,e1_] <;> rfl)),S.below⟩
 · skip
   replace c3:=cbf c3;subst c3
   simp only [Option.some.injEq,Prod.mk.injEq] at H
   obtain ⟨rfl,rfl⟩:=H
   go_enter Try.func20,Try.ntmps20
   go_wp2_with (first | ((with_reducible refine gd 1 rfl (L ?_));refine bo 1 (.agg #[_,_,_,_,_]) S ?_;clear S F;intro gb753 W S;have F:=S.fc) | ((with_reducible refine gate_callee (f:=37) rfl (L ?_));refine cl (some 5) Try.func37 (impl_IsChallenge.calls _ _ _ _ _ _ _ _ _ _ _ _ _ _ S.c S.n S.c S.n S.c S.n A2) (hargs:=by (simp only [ma_,mb_,mc_,F] <;> rfl)) (h:=?_);rintro e W ⟨rfl,hb⟩;refine ⟨_,rfl,?_⟩;replace S:=S.go hb;clear F hb;have F:=S.fc))
   go_ret2
   exact ⟨(by first | rfl | (simp [e0_,e1_] <;> rfl) | (simp [*,e0_,e1_] <;> rfl)),S.below⟩

/-! ### spec_CountSolutions: function 21 -/
def spec_CountSolutions.l0:Nat→List Int→Int→Int→Int→Option (Int × Bool)
  | 0,_,_,_,_=>none
  | k + 1,x4,x7,x20,x21=>if x21 < x20 then (if 0 ≤ x21 then (if x21 < (x4.length:Int) then (spec_CountSolutions.l0 k x4 (wrap64 (x7 + (rd x4 x21))) x20 (wrap64 (x21 + 1))) else (none)) else (none)) else (some (x7,true))
def spec_CountSolutions.f (k:Nat) (a0_0:Int) (a0_1:Int) (l0_2:List (S42)) (l0_3:List Int) (l0_4:List Int):Option (Int × Bool):=(spec_syGood.f k a0_0 a0_1 l0_2 l0_3 l0_4).bind fun t757=>(if t757 = true then ((spec_syCount.f k a0_0 a0_1 l0_2 l0_3 l0_4).bind fun bt758=>(spec_CountSolutions.l0 k bt758.1 0 (bt758.1.length:Int) 0)) else (some (0,false)))
theorem spec_CountSolutions.calls (k:Nat) (a0_0:Int) (a0_1:Int) (A0_2:Option Addr) (c0_2:Nat) (l0_2:List (S42)) (A0_3:Option Addr) (c0_3:Nat) (l0_3:List Int) (A0_4:Option Addr) (c0_4:Nat) (l0_4:List Int) (r1:Int) (r2:Bool) (w:World) (hr0_2:Kd.C k42 w A0_2 l0_2.length l0_2) (hc0_2:l0_2.length ≤ c0_2) (hr0_3:Kd.C (Kd.int .i64) w A0_3 l0_3.length l0_3) (hc0_3:l0_3.length ≤ c0_3) (hr0_4:Kd.C (Kd.int .i64) w A0_4 l0_4.length l0_4) (hc0_4:l0_4.length ≤ c0_4) (h:spec_CountSolutions.f k a0_0 a0_1 l0_2 l0_3 l0_4 = some (r1,r2)) :
    Calls Try.prog 21 #[.agg #[.int .i64 a0_0,.int .i64 a0_1,.slice A0_2 l0_2.length c0_2,.slice A0_3 l0_3.length c0_3,.slice A0_4 l0_4.length c0_4]] w fun e w'=>e = .returned (.tuple #[.int .i64 r1,.bool r2])∧Below w.heap.size w w':=by
 have S:=St.init (w:=w) (dc k42_heap at42 hr0_2 hc0_2 (dc (Kd.heap_int .i64) (atI .i64) hr0_3 hc0_3 (dc (Kd.heap_int .i64) (atI .i64) hr0_4 hc0_4 dn)))
 clear hr0_2 hc0_2 hr0_3 hc0_3 hr0_4 hc0_4
 have F:=S.fc
 have H:=h;clear h;unfold spec_CountSolutions.f at H
 replace H:=Option.bind_eq_some_iff.mp H;obtain ⟨t757,A2,H⟩:=H;(try dsimp only at H)
 replace H:=sp_ H;rcases H with ⟨c3,H⟩ | ⟨c3,H⟩
 · skip
   subst c3
   replace H:=Option.bind_eq_some_iff.mp H;obtain ⟨⟨t758,t761,t762⟩,A4,H⟩:=H;(try dsimp only at H)
   go_enter Try.func21,Try.ntmps21
   go_wp2_with (first | ((with_reducible refine gd 1 rfl (L ?_));refine bo 1 (.agg #[_,_,_,_,_]) S ?_;clear S F;intro gb756 W S;have F:=S.fc) | ((with_reducible refine gate_callee (f:=93) rfl (L ?_));refine cl (some 11) Try.func93 (spec_syGood.calls _ _ _ _ _ _ _ _ _ _ _ _ _ _ S.c S.n S.c S.n S.c S.n A2) (hargs:=by (simp only [ma_,mb_,mc_,F] <;> rfl)) (h:=?_);rintro e W ⟨rfl,hb⟩;refine ⟨_,rfl,?_⟩;replace S:=S.go hb;clear F hb;have F:=S.fc) | ((with_reducible refine gate_callee (f:=94) rfl (L ?_));refine cl (some 15) Try.func94 (spec_syCount.calls _ _ _ _ _ _ _ _ _ _ _ _ _ _ _ _ S.c S.n S.c S.n S.c S.n A4) (hargs:=by (simp only [ma_,mb_,mc_,F] <;> rfl)) (h:=?_);rintro e W ⟨v759,rfl,ho0,hb⟩;refine ⟨_,rfl,?_⟩;replace S:=S.got (atI .i64) hb ho0;obtain ⟨At758,ct758,rfl,S⟩:=S;clear F hb ho0;have F:=S.fc))
   go_loopg [7,21] k (fun kq v7 v21 w'=>∃ (x7_1:Int) (x21_1:Int),v7 = .int .i64 x7_1∧v21 = .int .i64 x21_1∧spec_CountSolutions.l0 kq t758 x7_1 (t758.length:Int) x21_1 = some (r1,r2)∧kq ≤ k∧St w w (fun _=>False) [bor at42 A0_2 c0_2 l0_2,bor (atI .i64) A0_3 c0_3 l0_3,bor (atI .i64) A0_4 c0_4 l0_4] w'  [row (atI .i64) 3 At758 t758.length ct758 t758,box gb756 27 [.int .i64 a0_0,.int .i64 a0_1,.slice A0_2 l0_2.length c0_2,.slice A0_3 l0_3.length c0_3,.slice A0_4 l0_4.length c0_4]])
   case atStart=>exact ⟨0,0,(by first | rfl | (simp;done) | (simp [*];done) | (rw [w6_ (by omega) (by omega)])),(by first | rfl | (simp;done) | (simp [*];done) | (rw [w6_ (by omega) (by omega)])),H,Nat.le_refl _,S⟩
   case round =>
    clear H S F
    obtain ⟨x7_1,x21_1,rfl,rfl,HA,HK1,S⟩:=hrel
    have F:=S.fc
    cases gk with
    | zero=>exact absurd HA (by simp [spec_CountSolutions.l0])
    | succ k1 =>
     have H:=HA;clear HA;simp only [spec_CountSolutions.l0,F] at H
     replace H:=sp_ H;rcases H with ⟨c11,H⟩ | ⟨c11,H⟩
     · skip
       replace H:=np_ H;obtain ⟨c12,H⟩:=H
       replace H:=np_ H;obtain ⟨c13,H⟩:=H
       go_wp2
       go_roundg k1
       case measure=>omega
       case rel=>exact ⟨(wrap64 (x7_1 + (rd t758 x21_1))),(wrap64 (x21_1 + 1)),(by first | rfl | (simp;done) | (simp [*];done) | (rw [w6_ (by omega) (by omega)])),(by first | rfl | (simp;done) | (simp [*];done) | (rw [w6_ (by omega) (by omega)])),H,(by first | omega | exact Nat.le_refl _),S⟩
     · skip
       simp only [Option.some.injEq,Prod.mk.injEq] at H
       obtain ⟨rfl,rfl⟩:=H
       go_wp2
       go_ret2
       exact ⟨(by first | rfl | (simp [e0_,e1_] <;> rfl) | (simp [*,e0_,e1_] <;> rfl)),S.below⟩
 · skip
   replace c3:=cbf c3;subst c3
   simp only [Option.some.injEq,Prod.mk.injEq] at H
   obtain ⟨rfl,rfl⟩:=H
   go_enter Try.func21,Try.ntmps21
   go_wp2_with (first | ((with_reducible refine gd 1 rfl (L ?_));refine bo 1 (.agg #[_,_,_,_,_]) S ?_;clear S F;intro gb756 W S;have F:=S.fc) | ((with_reducible refine gate_callee (f:=93) rfl (L ?_));refine cl (some 11) Try.func93 (spec_syGood.calls _ _ _ _ _ _ _ _ _ _ _ _ _ _ S.c S.n S.c S.n S.c S.n A2) (hargs:=by (simp only [ma_,mb_,mc_,F] <;> rfl)) (h:=?_);rintro e W ⟨rfl,hb⟩;refine ⟨_,rfl,?_⟩;replace S:=S.go hb;clear F hb;have F:=S.fc))
   go_ret2
   exact ⟨(by first | rfl | (simp [e0_,e1_] <;> rfl) | (simp [*,e0_,e1_] <;> rfl)),S.below⟩
end Go.Proofs.Ytnmffpfiichjgaa.F
