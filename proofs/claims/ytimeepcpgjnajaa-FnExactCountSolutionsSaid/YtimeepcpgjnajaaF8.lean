-- Printed by a program; checked here.
import Derived.Test.YtimeepcpgjnajaaF0
import Derived.Test.YtimeepcpgjnajaaF6
import Derived.Test.YtimeepcpgjnajaaF7
namespace Go.Proofs.Ytimeepcpgjnajaa.F
open Go.RowKit Go.Proofs.YtimeepcpgjnajaaV.PrintWords Go.Proofs.YtimeepcpgjnajaaV.PrintLast Go.Proofs.YtimeepcpgjnajaaV.PrintMore Go.Proofs.YtimeepcpgjnajaaV.Sl Go.Proofs.YtimeepcpgjnajaaV.Rf
attribute [local go_sem] max2_int min2_int max_two min_two max_three min_three max_four min_four ia_opt it_opt
attribute [local go_sem] Try.underlying23 Try.underlying25 Try.underlying27 Try.underlying35 Try.underlying62 Try.underlying66 Try.underlying80 Try.underlying114 Try.underlying121 Try.underlying137
set_option maxHeartbeats 8000000
set_option maxRecDepth 100000
set_option linter.unusedVariables false
set_option linter.unusedSimpArgs false

/-! ### impl_IsChallenge: function 129 -/
mutual
def impl_IsChallenge.j0 : Nat → Bool → Int → Int → List (S27) → List Int → List Int → Option (Bool)
 | 0, _, _, _, _, _, _ => none
 | k + 1, x59, x441000, x441001, x441002, x441003, x441004 => if x59 = true then (some false) else (impl_IsChallenge.l0 k x441002 (x441002.length : Int) 0 x441000 x441001 x441002 x441003 x441004)
def impl_IsChallenge.l0 : Nat → List (S27) → Int → Int → Int → Int → List (S27) → List Int → List Int → Option (Bool)
 | 0, _, _, _, _, _, _, _, _ => none
 | k + 1, x61, x62, x63, x441000, x441001, x441002, x441003, x441004 => if x63 < x62 then (if 0 ≤ x63 then (if x63 < (x61.length : Int) then ((impl_IsCell.f ((rd_T27 x61 x63).f0) ((rd_T27 x61 x63).f1)).bind fun t443 => (if t443 = true then (if ((rd_T27 x61 x63).f0) = 0 then (some false) else (if x63 ≤ (x441002.length : Int) then ((impl_Cell_134.f k (x441002.take (x63 : Int).toNat) ((rd_T27 x61 x63).f0) ((rd_T27 x61 x63).f1)).bind fun t448 => (if t448 = true then (some false) else (impl_IsChallenge.l0 k x61 x62 (wrap64 (x63 + 1)) x441000 x441001 x441002 x441003 x441004))) else (none))) else (some false))) else (none)) else (none)) else (impl_IsChallenge.l1 k x441003 (x441003.length : Int) 0 x441000 x441001 x441002 x441003 x441004)
def impl_IsChallenge.l1 : Nat → List Int → Int → Int → Int → Int → List (S27) → List Int → List Int → Option (Bool)
 | 0, _, _, _, _, _, _, _, _ => none
 | k + 1, x86, x87, x88, x441000, x441001, x441002, x441003, x441004 => if x88 < x87 then (if 0 ≤ x88 then (if x88 < (x86.length : Int) then (if (rd x86 x88) < 0 then (some false) else (if (rd x86 x88) ≥ x441001 then (some false) else (if x88 < (x441004.length : Int) then (if (rd x441004 x88) < 0 then (some false) else (if (rd x441004 x88) > (wrap64 (x441001 + 1)) then (some false) else (impl_IsChallenge.l1 k x86 x87 (wrap64 (x88 + 1)) x441000 x441001 x441002 x441003 x441004))) else (none)))) else (none)) else (none)) else (impl_IsChallenge.l2 k 1 0 x441000 x441001 x441002 x441003 x441004)
def impl_IsChallenge.l2 : Nat → Int → Int → Int → Int → List (S27) → List Int → List Int → Option (Bool)
 | 0, _, _, _, _, _, _, _ => none
 | k + 1, x7, x8, x441000, x441001, x441002, x441003, x441004 => if x8 < (wrap64 (x441000 * x441001)) then (if (wrap64 (x7 * (wrap64 ((x441002.length : Int) + 1)))) > 7000 then (some false) else (impl_IsChallenge.l2 k (wrap64 (x7 * (wrap64 ((x441002.length : Int) + 1)))) (wrap64 (x8 + 1)) x441000 x441001 x441002 x441003 x441004)) else (some true)
end
def impl_IsChallenge.f (k : Nat) (a0_0 : Int) (a0_1 : Int) (l0_2 : List (S27)) (l0_3 : List Int) (l0_4 : List Int) : Option (Bool) := if a0_0 < 1 then (impl_IsChallenge.j0 k true a0_0 a0_1 l0_2 l0_3 l0_4) else (if a0_0 > 4 then (impl_IsChallenge.j0 k true a0_0 a0_1 l0_2 l0_3 l0_4) else (if a0_1 < 1 then (impl_IsChallenge.j0 k true a0_0 a0_1 l0_2 l0_3 l0_4) else (if a0_1 > 4 then (impl_IsChallenge.j0 k true a0_0 a0_1 l0_2 l0_3 l0_4) else (if (l0_2.length : Int) < 1 then (impl_IsChallenge.j0 k true a0_0 a0_1 l0_2 l0_3 l0_4) else (if (l0_2.length : Int) > 6 then (impl_IsChallenge.j0 k true a0_0 a0_1 l0_2 l0_3 l0_4) else (if (l0_3.length : Int) < 1 then (impl_IsChallenge.j0 k true a0_0 a0_1 l0_2 l0_3 l0_4) else (if (l0_3.length : Int) > 8 then (impl_IsChallenge.j0 k true a0_0 a0_1 l0_2 l0_3 l0_4) else (impl_IsChallenge.j0 k ((l0_4.length : Int) != (l0_3.length : Int)) a0_0 a0_1 l0_2 l0_3 l0_4))))))))
def impl_IsChallenge.T6 : Bool × List (List Nat × List Nat) := (true, [([], []), ([0], [0]), ([1], [1]), ([2, 1], [2]), ([3], [3]), ([4, 3], [3, 4]), ([5, 3], [3, 5]), ([3, 6], [3, 6]), ([7, 3], [7]), ([8], [8]), ([9, 8], [8, 9]), ([8], [8]), ([10, 11, 8], [8, 10, 11]), ([8], [8]), ([12, 13, 8, 8], [8, 12, 13]), ([8, 14], [8, 14])])
def impl_IsChallenge.B6 : List Nat := [0, 1, 3, 7, 15, 31, 63, 127, 255, 511, 1023, 511, 4095, 511, 16383, 32767]
theorem impl_IsChallenge.tab6 : rtab .any (opsOf Try.f129 6) = impl_IsChallenge.T6 := by kernel_rfl
theorem impl_IsChallenge.bits6 : waitsOk impl_IsChallenge.T6.2 impl_IsChallenge.B6 = true := by kernel_rfl
def impl_IsChallenge.T12 : Bool × List (List Nat × List Nat) := (true, [([], []), ([0], [0]), ([1], [1]), ([2], [2]), ([2], [2]), ([4, 2], [2, 4]), ([3, 5, 2], [2, 3, 5]), ([2, 6], [2, 6]), ([7, 2], [7]), ([8], [8]), ([9, 8], [8, 9]), ([8], [8]), ([10, 11, 8], [8, 10, 11]), ([12, 8], [8, 12]), ([13, 8], [8, 13]), ([8, 14], [8, 14]), ([15, 8], [15]), ([16], [16]), ([17, 16], [16, 17]), ([16], [16]), ([18, 19, 16], [16, 18, 19]), ([20, 16], [16, 20]), ([16], [16]), ([22, 16], [16, 22]), ([23, 16], [16, 23]), ([21, 24, 16], [16, 21, 24]), ([16, 25], [16, 25])])
def impl_IsChallenge.B12 : List Nat := [0, 1, 3, 7, 7, 23, 63, 127, 255, 511, 1023, 511, 4095, 8191, 16383, 32767, 65535, 131071, 262143, 131071, 1048575, 2097151, 131071, 4325375, 12713983, 33554431, 67108863]
theorem impl_IsChallenge.tab12 : rtab .any (opsOf Try.f129 12) = impl_IsChallenge.T12 := by kernel_rfl
theorem impl_IsChallenge.bits12 : waitsOk impl_IsChallenge.T12.2 impl_IsChallenge.B12 = true := by kernel_rfl
theorem impl_IsChallenge.calls (k : Nat) (a0_0 : Int) (a0_1 : Int) (A0_2 : Option Addr) (c0_2 : Nat) (l0_2 : List (S27)) (A0_3 : Option Addr) (c0_3 : Nat) (l0_3 : List Int) (A0_4 : Option Addr) (c0_4 : Nat) (l0_4 : List Int) (r : Bool) (w : World) (hr0_2 : Kd.C k27 w A0_2 l0_2.length l0_2) (hc0_2 : l0_2.length ≤ c0_2) (hr0_3 : Kd.C (Kd.int .i64) w A0_3 l0_3.length l0_3) (hc0_3 : l0_3.length ≤ c0_3) (hr0_4 : Kd.C (Kd.int .i64) w A0_4 l0_4.length l0_4) (hc0_4 : l0_4.length ≤ c0_4) (h : impl_IsChallenge.f k a0_0 a0_1 l0_2 l0_3 l0_4 = some r) :
  Calls Try.prog 129 #[.agg #[.int .i64 a0_0, .int .i64 a0_1, .slice A0_2 l0_2.length c0_2, .slice A0_3 l0_3.length c0_3, .slice A0_4 l0_4.length c0_4]] w fun e w' => e = .returned (.bool r) ∧ Below w.heap.size w w' := by
 have HR0_2 := Aside0.mk hr0_2;have HC0_2 := Aside0.mk hc0_2;clear hr0_2 hc0_2;have HR0_3 := Aside0.mk hr0_3;have HC0_3 := Aside0.mk hc0_3;clear hr0_3 hc0_3;have HR0_4 := Aside0.mk hr0_4;have HC0_4 := Aside0.mk hc0_4;clear hr0_4 hc0_4;have HB := Aside0.mk (Below.refl w.heap.size w);have H : (if a0_0 < 1 then (impl_IsChallenge.j0 k true a0_0 a0_1 l0_2 l0_3 l0_4) else (if a0_0 > 4 then (impl_IsChallenge.j0 k true a0_0 a0_1 l0_2 l0_3 l0_4) else (if a0_1 < 1 then (impl_IsChallenge.j0 k true a0_0 a0_1 l0_2 l0_3 l0_4) else (if a0_1 > 4 then (impl_IsChallenge.j0 k true a0_0 a0_1 l0_2 l0_3 l0_4) else (if (l0_2.length : Int) < 1 then (impl_IsChallenge.j0 k true a0_0 a0_1 l0_2 l0_3 l0_4) else (if (l0_2.length : Int) > 6 then (impl_IsChallenge.j0 k true a0_0 a0_1 l0_2 l0_3 l0_4) else (if (l0_3.length : Int) < 1 then (impl_IsChallenge.j0 k true a0_0 a0_1 l0_2 l0_3 l0_4) else (if (l0_3.length : Int) > 8 then (impl_IsChallenge.j0 k true a0_0 a0_1 l0_2 l0_3 l0_4) else (impl_IsChallenge.j0 k ((l0_4.length : Int) != (l0_3.length : Int)) a0_0 a0_1 l0_2 l0_3 l0_4))))))))) = some r := h;clear h;have HC2 := Aside0.mk H;clear H;go_enter Try.func129, Try.ntmps129;go_upto_region 1 with (first | ((with_reducible refine gate_dst (N := 1) rfl ?_); refine box_event ?hg (N := 1) ?hd (cs := #[.int .i64 a0_0, .int .i64 a0_1, .slice A0_2 l0_2.length c0_2, .slice A0_3 l0_3.length c0_3, .slice A0_4 l0_4.length c0_4]) (t := 66) ?hr ?_; (case hd => rfl); (case hg => rfl); (case hr => first | (go_simp; done) | (go_simp; rfl)); intro gb440 hg w3 hbox hb; refine ev4 (bs HB hb) (hbox) (gle hg HB) (gle hg HB) ?_; clear HB; intro HB BK440 GW440 GE440; clear hb hbox hg))
 (try simp only [Act.put, za_, zb_, zc_])
 go_cut [59] (fun v59 wc => ∃ (kq : Nat) (x59_1 : Bool), v59 = .bool x59_1 ∧ Aside0 (impl_IsChallenge.j0 kq x59_1 a0_0 a0_1 l0_2 l0_3 l0_4 = some r) ∧ Aside0 (kq ≤ k) ∧ Aside0 (wc.heap[gb440]? = some (.cells #[.int .i64 a0_0, .int .i64 a0_1, (.slice A0_2 l0_2.length c0_2), (.slice A0_3 l0_3.length c0_3), (.slice A0_4 l0_4.length c0_4)] 66 (0, 0))) ∧ Aside0 (Below w.heap.size w wc))
 case first =>
  have H := HC2.out;clear HC2;by_cases c4 : a0_0 < 1
  ·rw [if_pos c4] at H;have c4b0 : decide (a0_0 < 1) = true := decide_eq_true c4;clear c4;(first | rw [c4b0] | (simp only [i64_w, i32_w]; rw [c4b0]) | skip)
   have H' := Aside0.mk H;clear H;obtain ⟨hcz5_0, hcz5_1, hcz5_2, hcz5_3, hcz5_4, hfz5_0, hfz5_1, hfz5_2, hfz5_3, hfz5_4⟩ := bt5 BK440;go_wp2;go_meet
   case rel => exact ⟨_, (true), (by first | rfl | (simp; done) | (simp [*]; done)), H', ⟨by first | omega | exact Nat.le_refl _⟩, ⟨km_ BK440⟩, ⟨bm HB⟩⟩
  ·rw [if_neg c4] at H;have c4b0 : decide (a0_0 < 1) = false := decide_eq_false c4;clear c4;(first | rw [c4b0] | (simp only [i64_w, i32_w]; rw [c4b0]) | skip)
   by_cases c6 : a0_0 > 4
   ·rw [if_pos c6] at H;have c6b0 : decide (4 < a0_0) = true := decide_eq_true c6;clear c6;have H' := Aside0.mk H;clear H;obtain ⟨hcz7_0, hcz7_1, hcz7_2, hcz7_3, hcz7_4, hfz7_0, hfz7_1, hfz7_2, hfz7_3, hfz7_4⟩ := bt5 BK440;go_wp2;go_meet
    case rel => exact ⟨_, (true), (by first | rfl | (simp; done) | (simp [*]; done)), H', ⟨by first | omega | exact Nat.le_refl _⟩, ⟨km_ BK440⟩, ⟨bm HB⟩⟩
   ·rw [if_neg c6] at H;have c6b0 : decide (4 < a0_0) = false := decide_eq_false c6;clear c6;by_cases c8 : a0_1 < 1
    ·rw [if_pos c8] at H;have c8b0 : decide (a0_1 < 1) = true := decide_eq_true c8;clear c8;have H' := Aside0.mk H;clear H;obtain ⟨hcz9_0, hcz9_1, hcz9_2, hcz9_3, hcz9_4, hfz9_0, hfz9_1, hfz9_2, hfz9_3, hfz9_4⟩ := bt5 BK440;go_wp2;go_meet
     case rel => exact ⟨_, (true), (by first | rfl | (simp; done) | (simp [*]; done)), H', ⟨by first | omega | exact Nat.le_refl _⟩, ⟨km_ BK440⟩, ⟨bm HB⟩⟩
    ·rw [if_neg c8] at H;have c8b0 : decide (a0_1 < 1) = false := decide_eq_false c8;clear c8;by_cases c10 : a0_1 > 4
     ·rw [if_pos c10] at H;have c10b0 : decide (4 < a0_1) = true := decide_eq_true c10;clear c10;have H' := Aside0.mk H;clear H;obtain ⟨hcz11_0, hcz11_1, hcz11_2, hcz11_3, hcz11_4, hfz11_0, hfz11_1, hfz11_2, hfz11_3, hfz11_4⟩ := bt5 BK440;go_wp2;go_meet
      case rel => exact ⟨_, (true), (by first | rfl | (simp; done) | (simp [*]; done)), H', ⟨by first | omega | exact Nat.le_refl _⟩, ⟨km_ BK440⟩, ⟨bm HB⟩⟩
     ·rw [if_neg c10] at H;have c10b0 : decide (4 < a0_1) = false := decide_eq_false c10;clear c10;by_cases c12 : (l0_2.length : Int) < 1
      ·rw [if_pos c12] at H;have c12b0 : decide ((l0_2.length : Int) < 1) = true := decide_eq_true c12;have c12b1 : decide (l0_2.length < 1) = true := decide_eq_true (by omega);clear c12;have H' := Aside0.mk H;clear H;obtain ⟨hcz13_0, hcz13_1, hcz13_2, hcz13_3, hcz13_4, hfz13_0, hfz13_1, hfz13_2, hfz13_3, hfz13_4⟩ := bt5 BK440;go_wp2;go_meet
       case rel => exact ⟨_, (true), (by first | rfl | (simp; done) | (simp [*]; done)), H', ⟨by first | omega | exact Nat.le_refl _⟩, ⟨km_ BK440⟩, ⟨bm HB⟩⟩
      ·rw [if_neg c12] at H;have c12b0 : decide ((l0_2.length : Int) < 1) = false := decide_eq_false c12;have c12b1 : decide (l0_2.length < 1) = false := decide_eq_false (by omega);clear c12;by_cases c14 : (l0_2.length : Int) > 6
       ·rw [if_pos c14] at H;have c14b0 : decide (6 < (l0_2.length : Int)) = true := decide_eq_true c14;have c14b1 : decide (6 < l0_2.length) = true := decide_eq_true (by omega);clear c14;have H' := Aside0.mk H;clear H;obtain ⟨hcz15_0, hcz15_1, hcz15_2, hcz15_3, hcz15_4, hfz15_0, hfz15_1, hfz15_2, hfz15_3, hfz15_4⟩ := bt5 BK440;go_wp2;go_meet
        case rel => exact ⟨_, (true), (by first | rfl | (simp; done) | (simp [*]; done)), H', ⟨by first | omega | exact Nat.le_refl _⟩, ⟨km_ BK440⟩, ⟨bm HB⟩⟩
       ·rw [if_neg c14] at H;have c14b0 : decide (6 < (l0_2.length : Int)) = false := decide_eq_false c14;have c14b1 : decide (6 < l0_2.length) = false := decide_eq_false (by omega);clear c14;by_cases c16 : (l0_3.length : Int) < 1
        ·rw [if_pos c16] at H;have c16b0 : decide ((l0_3.length : Int) < 1) = true := decide_eq_true c16;have c16b1 : decide (l0_3.length < 1) = true := decide_eq_true (by omega);clear c16;have H' := Aside0.mk H;clear H;obtain ⟨hcz17_0, hcz17_1, hcz17_2, hcz17_3, hcz17_4, hfz17_0, hfz17_1, hfz17_2, hfz17_3, hfz17_4⟩ := bt5 BK440;go_wp2;go_meet
         case rel => exact ⟨_, (true), (by first | rfl | (simp; done) | (simp [*]; done)), H', ⟨by first | omega | exact Nat.le_refl _⟩, ⟨km_ BK440⟩, ⟨bm HB⟩⟩
        ·rw [if_neg c16] at H;have c16b0 : decide ((l0_3.length : Int) < 1) = false := decide_eq_false c16;have c16b1 : decide (l0_3.length < 1) = false := decide_eq_false (by omega);clear c16;by_cases c18 : (l0_3.length : Int) > 8
         ·rw [if_pos c18] at H;have c18b0 : decide (8 < (l0_3.length : Int)) = true := decide_eq_true c18;have c18b1 : decide (8 < l0_3.length) = true := decide_eq_true (by omega);clear c18;have H' := Aside0.mk H;clear H;obtain ⟨hcz19_0, hcz19_1, hcz19_2, hcz19_3, hcz19_4, hfz19_0, hfz19_1, hfz19_2, hfz19_3, hfz19_4⟩ := bt5 BK440;go_wp2;go_meet
          case rel => exact ⟨_, (true), (by first | rfl | (simp; done) | (simp [*]; done)), H', ⟨by first | omega | exact Nat.le_refl _⟩, ⟨km_ BK440⟩, ⟨bm HB⟩⟩
         ·rw [if_neg c18] at H;have c18b0 : decide (8 < (l0_3.length : Int)) = false := decide_eq_false c18;have c18b1 : decide (8 < l0_3.length) = false := decide_eq_false (by omega);clear c18;have H' := Aside0.mk H;clear H;obtain ⟨hcz20_0, hcz20_1, hcz20_2, hcz20_3, hcz20_4, hfz20_0, hfz20_1, hfz20_2, hfz20_3, hfz20_4⟩ := bt5 BK440;go_wp2;go_meet
          case rel => exact ⟨_, (((l0_4.length : Int) != (l0_3.length : Int))), (by first | rfl | (simp; done) | (simp [*]; done)), H', ⟨by first | omega | exact Nat.le_refl _⟩, ⟨km_ BK440⟩, ⟨bm HB⟩⟩
 case rest =>
  clear HC2;(try clear c1);(try clear c12);obtain ⟨kq, x59_1, rfl, HA, HJ1, BK440, HB⟩ := hcut;cases kq with
  | zero => exact absurd HA.out (by simp [impl_IsChallenge.j0])
  | succ kj1 =>
   have H := HA.out;clear HA;simp only [impl_IsChallenge.j0] at H;by_cases c21 : x59_1 = true
   ·subst c21;have H1 : (some false) = some r := by rw [if_pos rfl] at H; exact H
    clear H;have H := H1;clear H1;obtain rfl := Option.some.inj H;go_wp2;go_ret;exact ⟨by first | rfl | (simp [e0_, e1_] <;> rfl) | (simp [*, e0_, e1_] <;> rfl), bm HB⟩
   ·replace c21 := Bool.eq_false_iff.mpr c21;subst c21;have H1 : (impl_IsChallenge.l0 kj1 l0_2 (l0_2.length : Int) 0 a0_0 a0_1 l0_2 l0_3 l0_4) = some r := by rw [if_neg (show ¬ (false = true) by decide)] at H; exact H
    clear H;have H := H1;clear H1;have H' := Aside0.mk H;clear H;obtain ⟨hcz22_0, hcz22_1, hcz22_2, hcz22_3, hcz22_4, hfz22_0, hfz22_1, hfz22_2, hfz22_3, hfz22_4⟩ := bt5 BK440;go_wp2;go_loopg [63] kj1 (fun kq v63 w' => ∃ (x63_2 : Int), v63 = .int .i64 x63_2 ∧ Aside0 (impl_IsChallenge.l0 kq l0_2 (l0_2.length : Int) x63_2 a0_0 a0_1 l0_2 l0_3 l0_4 = some r) ∧ Aside0 (kq ≤ kj1) ∧ Aside0 (w'.heap[gb440]? = some (.cells #[.int .i64 a0_0, .int .i64 a0_1, (.slice A0_2 l0_2.length c0_2), (.slice A0_3 l0_3.length c0_3), (.slice A0_4 l0_4.length c0_4)] 66 (0, 0))) ∧ Aside0 (Below w.heap.size w w'))
    case atStart => exact ⟨(0), (by first | rfl | (simp; done) | (simp [*]; done)), H', ⟨Nat.le_refl _⟩, ⟨km_ BK440⟩, ⟨bm HB⟩⟩
    case round =>
     clear H';(try clear c1);(try clear c2);(try clear p2);(try clear c12);(try clear c21);(try clear hcz22_0);(try clear hcz22_1);(try clear hcz22_2);(try clear hcz22_3);(try clear hcz22_4);(try clear hfz22_0);(try clear hfz22_1);(try clear hfz22_2);(try clear hfz22_3);(try clear hfz22_4);obtain ⟨x63_2, rfl, HA, HK2, BK440, HB⟩ := hrel;cases gk with
     | zero => exact absurd HA.out (by simp [impl_IsChallenge.l0])
     | succ k2 =>
      have H := HA.out;clear HA;simp only [impl_IsChallenge.l0] at H;by_cases c23 : x63_2 < (l0_2.length : Int)
      ·rw [if_pos c23] at H;have c23b0 : decide (x63_2 < (l0_2.length : Int)) = true := decide_eq_true c23;clear c23;replace H := np_ H;obtain ⟨c24, H⟩ := H;have c24b0 : decide (0 ≤ x63_2) = true := decide_eq_true c24;clear c24;replace H := np_ H;obtain ⟨c25, H⟩ := H;have c25b0 : decide (x63_2 < (l0_2.length : Int)) = true := decide_eq_true c25;clear c25;replace H := Option.bind_eq_some_iff.mp H;obtain ⟨t443, A260, H⟩ := H;(try dsimp only at H)
       have A26 := Aside0.mk A260;clear A260;by_cases c27 : t443 = true
       ·subst c27;have H1 : (if ((rd_T27 l0_2 x63_2).f0) = 0 then (some false) else (if x63_2 ≤ (l0_2.length : Int) then ((impl_Cell_134.f k2 (l0_2.take (x63_2 : Int).toNat) ((rd_T27 l0_2 x63_2).f0) ((rd_T27 l0_2 x63_2).f1)).bind fun t448 => (if t448 = true then (some false) else (impl_IsChallenge.l0 k2 l0_2 (l0_2.length : Int) (wrap64 (x63_2 + 1)) a0_0 a0_1 l0_2 l0_3 l0_4))) else (none))) = some r := by rw [if_pos rfl] at H; exact H
        clear H;have H := H1;clear H1;by_cases c28 : ((rd_T27 l0_2 x63_2).f0) = 0
        ·rw [if_pos c28] at H;have c28b0 : (((rd_T27 l0_2 x63_2).f0) == 0) = true := beq_iff_eq.mpr c28;have c28b1 : (((rd_T27 l0_2 x63_2).f0) != 0) = false := bne_eq_false_iff_eq.mpr c28;clear c28;obtain rfl := Option.some.inj H;have p441 : 0 ≤ (x63_2 : Int) := of_decide_eq_true (by first | (with_reducible assumption) | assumption);have q441 : x63_2 < (l0_2.length : Int) := of_decide_eq_true (by first | (with_reducible assumption) | assumption);obtain ⟨ad441, e441, hx441_0, hx441_1⟩ := at_T27 HR0_2.out x63_2 p441 q441;cases e441;replace hx441_0 := (HB.out.cell (World.block_lt_of_cell? w _ hx441_0)).trans hx441_0;replace hx441_1 := (HB.out.cell (World.block_lt_of_cell? w _ hx441_1)).trans hx441_1;replace p441 := eq_true p441;replace q441 := eq_true q441;try go_wp2_with (first | ((with_reducible refine gate_dst (N := 4) rfl ?_); refine box_event ?hg (N := 4) ?hd (cs := #[.int .i64 0, .int .i64 0]) (t := 27) ?hr ?_; (case hd => rfl); (case hg => rfl); (case hr => first | (go_simp; done) | (go_simp; rfl)); intro gb442 hg w29 hbox hb; refine ev7 (kb BK440 hb) (bs HB hb) (hbox) (gle hg HB) (gle hg HB) (gnf hg BK440) (gne hg BK440) ?_; clear BK440 HB; intro BK440 HB BK442 GW442 GE442 NB440_442 NB442_440; clear hb hbox hg; have hnb30 := NB442_440.out; have hnc30 := NB440_442.out; obtain ⟨hcz31_0, hcz31_1, hfz31_0, hfz31_1⟩ := bt2 BK442))
         have n0_ : Aside0 (((w29.setCell ⟨gb442, 0, none⟩ (.int .i64 ((rd_T27 l0_2 x63_2).f0))).setCell ⟨gb442, 1, none⟩ (.int .i64 ((rd_T27 l0_2 x63_2).f1))).heap[gb440]? = some (.cells #[.int .i64 a0_0, .int .i64 a0_1, .slice (some ad441) l0_2.length c0_2, .slice A0_3 l0_3.length c0_3, .slice A0_4 l0_4.length c0_4] 66 (0, 0))) := ⟨fp BK440 rfl⟩
         have n1_ : Aside0 (((w29.setCell ⟨gb442, 0, none⟩ (.int .i64 ((rd_T27 l0_2 x63_2).f0))).setCell ⟨gb442, 1, none⟩ (.int .i64 ((rd_T27 l0_2 x63_2).f1))).heap[gb442]? = some (.cells #[.int .i64 ((rd_T27 l0_2 x63_2).f0), .int .i64 ((rd_T27 l0_2 x63_2).f1)] 27 (0, 0))) := ⟨fp BK442 rfl⟩
         have n2_ : Aside0 (Below w.heap.size w ((w29.setCell ⟨gb442, 0, none⟩ (.int .i64 ((rd_T27 l0_2 x63_2).f0))).setCell ⟨gb442, 1, none⟩ (.int .i64 ((rd_T27 l0_2 x63_2).f1)))) := ⟨bm HB⟩
         (try clear BK440);(try clear BK442);(try clear HB);generalize ((w29.setCell ⟨gb442, 0, none⟩ (.int .i64 ((rd_T27 l0_2 x63_2).f0))).setCell ⟨gb442, 1, none⟩ (.int .i64 ((rd_T27 l0_2 x63_2).f1))) = w32 at n0_ n1_ n2_ ⊢
         have BK440 := n0_;have BK442 := n1_;have HB := n2_;clear n0_ n1_ n2_;refine ev3 (blk_drew BK440.out) (blk_drew BK442.out) (below_drew1 HB.out) ?_;clear BK440 BK442 HB;intro BK440 BK442 HB;refine start_ (n := 16) (S := fun w' => w'.cell? ⟨gb442, 0, none⟩ = some (.int .i64 ((rd_T27 l0_2 x63_2).f0)) ∧ w'.cell? ⟨gb442, 1, none⟩ = some (.int .i64 ((rd_T27 l0_2 x63_2).f1))) (ds := []) #[Z,Z,Z,Z,Z,Z,Z,Z,Z,Z,Z,Z,Z,Z,Z,Z] (by kernel_rfl) rfl rfl ⟨(blk_cell BK442.out 0).trans rfl, (blk_cell BK442.out 1).trans rfl⟩ (fun hHeld => ?_); refine with_tabW impl_IsChallenge.tab6 impl_IsChallenge.bits6 (fun HT_ HW_ => ?_);generalize w32.drew = w33 at BK440 BK442 HB hHeld ⊢
         refine tA 0 (some 68) ?_ #[Y,Z,Z,Z,Z,Z,Z,Z,Z,Z,Z,Z,Z,Z,Z,Z] rfl rfl HT_ HW_ (by kernel_rfl) (fun _ _ _ h => h) (by rfl) ?_ hHeld ?_ ?_ ?_;rotate_left
         ·rintro w' ⟨s0, s1⟩;go_simp;with_reducible rfl
         rotate_left
         ·simp only [Act.put, za_, zb_, zc_, i64_w, i32_w];rfl
         refine one_ (i := 1) (N := some 69) #[Y,Y,Z,Z,Z,Z,Z,Z,Z,Z,Z,Z,Z,Z,Z,Z] rfl rfl (one_of HT_.out (by kernel_rfl)) (by decide) (fun K hK => ?_);refine goes_ Try.func79 (by kernel_rfl) rfl #[.agg #[.int .i64 ((rd_T27 l0_2 x63_2).f0), .int .i64 ((rd_T27 l0_2 x63_2).f1)]] (by rfl) rfl rfl (by (try simp only [ma_, mb_, mc_]); first | done | rfl | (simp only [List.length_drop, List.length_take]; rfl)) ?_;with_reducible refine (impl_IsCell.calls ((rd_T27 l0_2 x63_2).f0) ((rd_T27 l0_2 x63_2).f1) true _ A26.out).mono ?_
         rintro e w34 ⟨rfl, hb⟩;refine ⟨_, rfl, ?_⟩;refine ev3 (kb BK440 hb) (kb BK442 hb) (bs HB hb) ?_;clear BK440 BK442 HB;intro BK440 BK442 HB;(try clear hb);(try clear hb2);(try clear hk);(try clear hi);refine hK.out _ _ ⟨(blk_cell BK442.out 0).trans rfl, (blk_cell BK442.out 1).trans rfl⟩ (fun hHeld => ?_);clear hK K;refine norm_ (a' := ?_) ?_ ?_;rotate_left
         ·show Act.put _ (some 69) _ = _
          simp only [Act.put, za_, zb_, zc_, i64_w, i32_w];rfl
         refine pA 2 (some 70) ?_ #[Y,Y,Y,Z,Z,Z,Z,Z,Z,Z,Z,Z,Z,Z,Z,Z] rfl rfl HT_ (by kernel_rfl) (fun _ _ _ h => h) (by rfl) ?_ ?_ ?_ ?_;rotate_left
         ·intro w';go_simp;with_reducible rfl
         rotate_left
         ·simp only [Act.put, za_, zb_, zc_, i64_w, i32_w];rfl
         refine pA 3 (some 71) ?_ #[Y,Y,Y,Y,Z,Z,Z,Z,Z,Z,Z,Z,Z,Z,Z,Z] rfl rfl HT_ (by kernel_rfl) (fun _ _ _ h => h) (by rfl) ?_ ?_ ?_ ?_;rotate_left
         ·intro w';go_simp;with_reducible rfl
         rotate_left
         ·simp only [Act.put, za_, zb_, zc_, i64_w, i32_w];rfl
         refine pA 4 (some 72) ?_ #[Y,Y,Y,Y,Y,Z,Z,Z,Z,Z,Z,Z,Z,Z,Z,Z] rfl rfl HT_ (by kernel_rfl) (fun _ _ _ h => h) (by rfl) ?_ ?_ ?_ ?_;rotate_left
         ·intro w';go_simp;with_reducible rfl
         rotate_left
         ·simp only [Act.put, za_, zb_, zc_, i64_w, i32_w];rfl
         refine tA 5 (some 73) ?_ #[Y,Y,Y,Y,Y,Y,Z,Z,Z,Z,Z,Z,Z,Z,Z,Z] rfl rfl HT_ HW_ (by kernel_rfl) (fun _ _ _ h => h) (by rfl) ?_ hHeld ?_ ?_ ?_;rotate_left
         ·rintro w' ⟨s0, s1⟩;go_simp;with_reducible rfl
         rotate_left
         ·simp only [Act.put, za_, zb_, zc_, i64_w, i32_w];rfl
         refine pA 6 (some 74) ?_ #[Y,Y,Y,Y,Y,Y,Y,Z,Z,Z,Z,Z,Z,Z,Z,Z] rfl rfl HT_ (by kernel_rfl) (fun _ _ _ h => h) (by rfl) ?_ ?_ ?_ ?_;rotate_left
         ·intro w';go_simp;with_reducible rfl
         rotate_left
         ·simp only [Act.put, za_, zb_, zc_, i64_w, i32_w];rfl
         refine pA 7 (some 75) ?_ #[Y,Y,Y,Y,Y,Y,Y,Y,Z,Z,Z,Z,Z,Z,Z,Z] rfl rfl HT_ (by kernel_rfl) (fun _ _ _ h => h) (by rfl) ?_ ?_ ?_ ?_;rotate_left
         ·intro w';go_simp;with_reducible rfl
         rotate_left
         ·simp only [Act.put, za_, zb_, zc_, i64_w, i32_w];rfl
         refine pA 8 (some 76) ?_ #[Y,Y,Y,Y,Y,Y,Y,Y,Y,Z,Z,Z,Z,Z,Z,Z] rfl rfl HT_ (by kernel_rfl) (fun _ _ _ h => h) (by rfl) ?_ ?_ ?_ ?_;rotate_left
         ·intro w';go_simp;with_reducible rfl
         rotate_left
         ·simp only [Act.put, za_, zb_, zc_, i64_w, i32_w];rfl
         refine pure_ (i := 9) (N := some 77) (v := undef) (a' := ?_) #[Y,Y,Y,Y,Y,Y,Y,Y,Y,Y,Z,Z,Z,Z,Z,Z] rfl rfl (any_of HT_.out (by kernel_rfl)) (fun _ _ _ h => h) (Or.inr ⟨by rfl, rfl⟩) ?_ ?_;rotate_left
         ·simp only [Act.put, za_, zb_, zc_, i64_w, i32_w];rfl
         refine pure_ (i := 10) (N := some 78) (v := undef) (a' := ?_) #[Y,Y,Y,Y,Y,Y,Y,Y,Y,Y,Y,Z,Z,Z,Z,Z] rfl rfl (any_of HT_.out (by kernel_rfl)) (fun _ _ _ h => h) (Or.inr ⟨by rfl, rfl⟩) ?_ ?_;rotate_left
         ·simp only [Act.put, za_, zb_, zc_, i64_w, i32_w];rfl
         refine pure_ (i := 11) (N := some 79) (v := undef) (a' := ?_) #[Y,Y,Y,Y,Y,Y,Y,Y,Y,Y,Y,Y,Z,Z,Z,Z] rfl rfl (any_of HT_.out (by kernel_rfl)) (fun _ _ _ h => h) (Or.inr ⟨by rfl, rfl⟩) ?_ ?_;rotate_left
         ·simp only [Act.put, za_, zb_, zc_, i64_w, i32_w];rfl
         refine pure_ (i := 12) (N := some 80) (v := undef) (a' := ?_) #[Y,Y,Y,Y,Y,Y,Y,Y,Y,Y,Y,Y,Y,Z,Z,Z] rfl rfl (any_of HT_.out (by kernel_rfl)) (fun _ _ _ h => h) (Or.inr ⟨by rfl, rfl⟩) ?_ ?_;rotate_left
         ·simp only [Act.put, za_, zb_, zc_, i64_w, i32_w];rfl
         refine pure_ (i := 13) (N := some 81) (v := undef) (a' := ?_) #[Y,Y,Y,Y,Y,Y,Y,Y,Y,Y,Y,Y,Y,Y,Z,Z] rfl rfl (any_of HT_.out (by kernel_rfl)) (fun _ _ _ h => h) (Or.inr ⟨by rfl, rfl⟩) ?_ ?_;rotate_left
         ·simp only [Act.put, za_, zb_, zc_, i64_w, i32_w];rfl
         refine pure_ (i := 14) (N := some 82) (v := undef) (a' := ?_) #[Y,Y,Y,Y,Y,Y,Y,Y,Y,Y,Y,Y,Y,Y,Y,Z] rfl rfl (any_of HT_.out (by kernel_rfl)) (fun _ _ _ h => h) (Or.inr ⟨by rfl, rfl⟩) ?_ ?_;rotate_left
         ·simp only [Act.put, za_, zb_, zc_, i64_w, i32_w];rfl
         refine pA 15 (some 83) ?_ #[Y,Y,Y,Y,Y,Y,Y,Y,Y,Y,Y,Y,Y,Y,Y,Y] rfl rfl HT_ (by kernel_rfl) (fun _ _ _ h => h) (by rfl) ?_ ?_ ?_ ?_;rotate_left
         ·intro w';go_simp;with_reducible rfl
         rotate_left
         ·simp only [Act.put, za_, zb_, zc_, i64_w, i32_w];rfl
         refine done_ (done_of HT_.out (by kernel_rfl)) ?_;try go_wp2
         go_ret;exact ⟨by first | rfl | (simp [e0_, e1_] <;> rfl) | (simp [*, e0_, e1_] <;> rfl), bm HB⟩
        ·rw [if_neg c28] at H;have c28b0 : (((rd_T27 l0_2 x63_2).f0) == 0) = false := beq_eq_false_iff_ne.mpr c28;have c28b1 : (((rd_T27 l0_2 x63_2).f0) != 0) = true := bne_iff_ne.mpr c28;have c35b0 := eq_true (of_decide_eq_true (by first | (with_reducible assumption) | assumption) : 0 ≤ x63_2);replace H := np_ H;obtain ⟨c36, H⟩ := H;have c36b0 := eq_true c36;have c36b1 : decide (x63_2 ≤ (l0_2.length : Int)) = true := decide_eq_true c36;clear c36;obtain ⟨y444, hy444⟩ : ∃ y_ : List (S27), y_ = (l0_2.take (x63_2 : Int).toNat) := ⟨_, rfl⟩
         replace H : ((impl_Cell_134.f k2 y444 ((rd_T27 l0_2 x63_2).f0) ((rd_T27 l0_2 x63_2).f1)).bind fun t448 => (if t448 = true then (some false) else (impl_IsChallenge.l0 k2 l0_2 (l0_2.length : Int) (wrap64 (x63_2 + 1)) a0_0 a0_1 l0_2 l0_3 l0_4))) = some r := by first | (rw [hy444]; with_reducible exact H) | (have H2_ := (Option.bind_some _ _).symm.trans H; rw [hy444]; with_reducible exact H2_) | (have H2_ := (Option.bind_some _ _).symm.trans H; with_reducible exact H2_) | with_reducible exact H | (rw [hy444]; exact H) | exact H
         have Ny444 := Aside0.mk hy444;clear hy444;replace H := Option.bind_eq_some_iff.mp H;obtain ⟨t448, A370, H⟩ := H;(try dsimp only at H)
         have A37 := Aside0.mk A370;clear A370;by_cases c38 : t448 = true
         ·subst c38;have H1 : (some false) = some r := by rw [if_pos rfl] at H; exact H
          clear H;have H := H1;clear H1;obtain rfl := Option.some.inj H;have p441 : 0 ≤ (x63_2 : Int) := of_decide_eq_true (by first | (with_reducible assumption) | assumption);have q441 : x63_2 < (l0_2.length : Int) := of_decide_eq_true (by first | (with_reducible assumption) | assumption);obtain ⟨ad441, e441, hx441_0, hx441_1⟩ := at_T27 HR0_2.out x63_2 p441 q441;cases e441;replace hx441_0 := (HB.out.cell (World.block_lt_of_cell? w _ hx441_0)).trans hx441_0;replace hx441_1 := (HB.out.cell (World.block_lt_of_cell? w _ hx441_1)).trans hx441_1;replace p441 := eq_true p441;replace q441 := eq_true q441;try go_wp2_with (first | ((with_reducible refine gate_dst (N := 4) rfl ?_); refine box_event ?hg (N := 4) ?hd (cs := #[.int .i64 0, .int .i64 0]) (t := 27) ?hr ?_; (case hd => rfl); (case hg => rfl); (case hr => first | (go_simp; done) | (go_simp; rfl)); intro gb442 hg w39 hbox hb; refine ev7 (kb BK440 hb) (bs HB hb) (hbox) (gle hg HB) (gle hg HB) (gnf hg BK440) (gne hg BK440) ?_; clear BK440 HB; intro BK440 HB BK442 GW442 GE442 NB440_442 NB442_440; clear hb hbox hg; have hnb40 := NB442_440.out; have hnc40 := NB440_442.out; obtain ⟨hcz41_0, hcz41_1, hfz41_0, hfz41_1⟩ := bt2 BK442))
          have n0_ : Aside0 (((w39.setCell ⟨gb442, 0, none⟩ (.int .i64 ((rd_T27 l0_2 x63_2).f0))).setCell ⟨gb442, 1, none⟩ (.int .i64 ((rd_T27 l0_2 x63_2).f1))).heap[gb440]? = some (.cells #[.int .i64 a0_0, .int .i64 a0_1, .slice (some ad441) l0_2.length c0_2, .slice A0_3 l0_3.length c0_3, .slice A0_4 l0_4.length c0_4] 66 (0, 0))) := ⟨fp BK440 rfl⟩
          have n1_ : Aside0 (((w39.setCell ⟨gb442, 0, none⟩ (.int .i64 ((rd_T27 l0_2 x63_2).f0))).setCell ⟨gb442, 1, none⟩ (.int .i64 ((rd_T27 l0_2 x63_2).f1))).heap[gb442]? = some (.cells #[.int .i64 ((rd_T27 l0_2 x63_2).f0), .int .i64 ((rd_T27 l0_2 x63_2).f1)] 27 (0, 0))) := ⟨fp BK442 rfl⟩
          have n2_ : Aside0 (Below w.heap.size w ((w39.setCell ⟨gb442, 0, none⟩ (.int .i64 ((rd_T27 l0_2 x63_2).f0))).setCell ⟨gb442, 1, none⟩ (.int .i64 ((rd_T27 l0_2 x63_2).f1)))) := ⟨bm HB⟩
          (try clear BK440);(try clear BK442);(try clear HB);generalize ((w39.setCell ⟨gb442, 0, none⟩ (.int .i64 ((rd_T27 l0_2 x63_2).f0))).setCell ⟨gb442, 1, none⟩ (.int .i64 ((rd_T27 l0_2 x63_2).f1))) = w42 at n0_ n1_ n2_ ⊢
          have BK440 := n0_;have BK442 := n1_;have HB := n2_;clear n0_ n1_ n2_;refine ev3 (blk_drew BK440.out) (blk_drew BK442.out) (below_drew1 HB.out) ?_;clear BK440 BK442 HB;intro BK440 BK442 HB;refine start_ (n := 16) (S := fun w' => w'.cell? ⟨gb442, 0, none⟩ = some (.int .i64 ((rd_T27 l0_2 x63_2).f0)) ∧ w'.cell? ⟨gb442, 1, none⟩ = some (.int .i64 ((rd_T27 l0_2 x63_2).f1)) ∧ w'.cell? ⟨gb440, 0, none⟩ = some (.int .i64 a0_0) ∧ w'.cell? ⟨gb440, 1, none⟩ = some (.int .i64 a0_1) ∧ w'.cell? ⟨gb440, 2, none⟩ = some (.slice (some ad441) l0_2.length c0_2) ∧ w'.cell? ⟨gb440, 3, none⟩ = some (.slice A0_3 l0_3.length c0_3) ∧ w'.cell? ⟨gb440, 4, none⟩ = some (.slice A0_4 l0_4.length c0_4)) (ds := []) #[Z,Z,Z,Z,Z,Z,Z,Z,Z,Z,Z,Z,Z,Z,Z,Z] (by kernel_rfl) rfl rfl ⟨(blk_cell BK442.out 0).trans rfl, (blk_cell BK442.out 1).trans rfl, (blk_cell BK440.out 0).trans rfl, (blk_cell BK440.out 1).trans rfl, (blk_cell BK440.out 2).trans rfl, (blk_cell BK440.out 3).trans rfl, (blk_cell BK440.out 4).trans rfl⟩ (fun hHeld => ?_); refine with_tabW impl_IsChallenge.tab6 impl_IsChallenge.bits6 (fun HT_ HW_ => ?_);generalize w42.drew = w43 at BK440 BK442 HB hHeld ⊢
          refine tA 0 (some 68) ?_ #[Y,Z,Z,Z,Z,Z,Z,Z,Z,Z,Z,Z,Z,Z,Z,Z] rfl rfl HT_ HW_ (by kernel_rfl) (fun _ _ _ h => h) (by rfl) ?_ hHeld ?_ ?_ ?_;rotate_left
          ·rintro w' ⟨s0, s1, s2, s3, s4, s5, s6⟩;go_simp;with_reducible rfl
          rotate_left
          ·simp only [Act.put, za_, zb_, zc_, i64_w, i32_w];rfl
          refine one_ (i := 1) (N := some 69) #[Y,Y,Z,Z,Z,Z,Z,Z,Z,Z,Z,Z,Z,Z,Z,Z] rfl rfl (one_of HT_.out (by kernel_rfl)) (by decide) (fun K hK => ?_);refine goes_ Try.func79 (by kernel_rfl) rfl #[.agg #[.int .i64 ((rd_T27 l0_2 x63_2).f0), .int .i64 ((rd_T27 l0_2 x63_2).f1)]] (by rfl) rfl rfl (by (try simp only [ma_, mb_, mc_]); first | done | rfl | (simp only [List.length_drop, List.length_take]; rfl)) ?_;with_reducible refine (impl_IsCell.calls ((rd_T27 l0_2 x63_2).f0) ((rd_T27 l0_2 x63_2).f1) true _ A26.out).mono ?_
          rintro e w44 ⟨rfl, hb⟩;refine ⟨_, rfl, ?_⟩;refine ev3 (kb BK440 hb) (kb BK442 hb) (bs HB hb) ?_;clear BK440 BK442 HB;intro BK440 BK442 HB;(try clear hb);(try clear hb2);(try clear hk);(try clear hi);have q45 : (x63_2 : Int) ≤ ((l0_2.length : Int) : Int) := of_decide_eq_true (by first | (with_reducible assumption) | assumption);obtain ⟨i045, hi045, _, hsz45, _⟩ := info_parts info27;have hroom45 : l0_2.length ≤ c0_2 := HC0_2.out;have hC45 : Kd.C k27 _ (some ad441) l0_2.length l0_2 := HR0_2.out;have hcut45 := cut_to (P := Try.prog) 23 27 .i64 Try.underlying23 hi045 (some ad441) l0_2.length c0_2 x63_2 (of_decide_eq_true (by first | (with_reducible assumption) | assumption)) q45 hroom45;have hr45 := Kd.C_take (m := (x63_2 : Int).toNat) hC45 (by omega);have hy45 : y444.length = (x63_2 : Int).toNat := (by rw [Ny444.out, List.length_take]; omega)
          rw [← Ny444.out] at hr45;rw [← hy45] at hcut45;have HR447 := Aside0.mk hr45;have HC447 := Aside0.mk (show y444.length ≤ c0_2 from by omega);clear hr45 hC45 hroom45 hi045 hsz45;have KY45 := Aside0.mk hy45;clear hy45;replace q45 := eq_true q45;refine hK.out _ _ ⟨(blk_cell BK442.out 0).trans rfl, (blk_cell BK442.out 1).trans rfl, (blk_cell BK440.out 0).trans rfl, (blk_cell BK440.out 1).trans rfl, (blk_cell BK440.out 2).trans rfl, (blk_cell BK440.out 3).trans rfl, (blk_cell BK440.out 4).trans rfl⟩ (fun hHeld => ?_);clear hK K;refine norm_ (a' := ?_) ?_ ?_;rotate_left
          ·show Act.put _ (some 69) _ = _
           simp only [Act.put, za_, zb_, zc_, i64_w, i32_w];rfl
          refine pA 2 (some 70) ?_ #[Y,Y,Y,Z,Z,Z,Z,Z,Z,Z,Z,Z,Z,Z,Z,Z] rfl rfl HT_ (by kernel_rfl) (fun _ _ _ h => h) (by rfl) ?_ ?_ ?_ ?_;rotate_left
          ·intro w';go_simp;with_reducible rfl
          rotate_left
          ·simp only [Act.put, za_, zb_, zc_, i64_w, i32_w];rfl
          refine pA 3 (some 71) ?_ #[Y,Y,Y,Y,Z,Z,Z,Z,Z,Z,Z,Z,Z,Z,Z,Z] rfl rfl HT_ (by kernel_rfl) (fun _ _ _ h => h) (by rfl) ?_ ?_ ?_ ?_;rotate_left
          ·intro w';go_simp;with_reducible rfl
          rotate_left
          ·simp only [Act.put, za_, zb_, zc_, i64_w, i32_w];rfl
          refine pA 4 (some 72) ?_ #[Y,Y,Y,Y,Y,Z,Z,Z,Z,Z,Z,Z,Z,Z,Z,Z] rfl rfl HT_ (by kernel_rfl) (fun _ _ _ h => h) (by rfl) ?_ ?_ ?_ ?_;rotate_left
          ·intro w';go_simp;with_reducible rfl
          rotate_left
          ·simp only [Act.put, za_, zb_, zc_, i64_w, i32_w];rfl
          refine tA 5 (some 73) ?_ #[Y,Y,Y,Y,Y,Y,Z,Z,Z,Z,Z,Z,Z,Z,Z,Z] rfl rfl HT_ HW_ (by kernel_rfl) (fun _ _ _ h => h) (by rfl) ?_ hHeld ?_ ?_ ?_;rotate_left
          ·rintro w' ⟨s0, s1, s2, s3, s4, s5, s6⟩;go_simp;with_reducible rfl
          rotate_left
          ·simp only [Act.put, za_, zb_, zc_, i64_w, i32_w];rfl
          refine pA 6 (some 74) ?_ #[Y,Y,Y,Y,Y,Y,Y,Z,Z,Z,Z,Z,Z,Z,Z,Z] rfl rfl HT_ (by kernel_rfl) (fun _ _ _ h => h) (by rfl) ?_ ?_ ?_ ?_;rotate_left
          ·intro w';go_simp;with_reducible rfl
          rotate_left
          ·simp only [Act.put, za_, zb_, zc_, i64_w, i32_w];rfl
          refine pA 7 (some 75) ?_ #[Y,Y,Y,Y,Y,Y,Y,Y,Z,Z,Z,Z,Z,Z,Z,Z] rfl rfl HT_ (by kernel_rfl) (fun _ _ _ h => h) (by rfl) ?_ ?_ ?_ ?_;rotate_left
          ·intro w';go_simp;with_reducible rfl
          rotate_left
          ·simp only [Act.put, za_, zb_, zc_, i64_w, i32_w];rfl
          refine pA 8 (some 76) ?_ #[Y,Y,Y,Y,Y,Y,Y,Y,Y,Z,Z,Z,Z,Z,Z,Z] rfl rfl HT_ (by kernel_rfl) (fun _ _ _ h => h) (by rfl) ?_ ?_ ?_ ?_;rotate_left
          ·intro w';go_simp;with_reducible rfl
          rotate_left
          ·simp only [Act.put, za_, zb_, zc_, i64_w, i32_w];rfl
          refine pA 9 (some 77) ?_ #[Y,Y,Y,Y,Y,Y,Y,Y,Y,Y,Z,Z,Z,Z,Z,Z] rfl rfl HT_ (by kernel_rfl) (fun _ _ _ h => h) (by rfl) ?_ ?_ ?_ ?_;rotate_left
          ·intro w';go_simp;with_reducible rfl
          rotate_left
          ·simp only [Act.put, za_, zb_, zc_, i64_w, i32_w];rfl
          refine pA 11 (some 79) ?_ #[Y,Y,Y,Y,Y,Y,Y,Y,Y,Y,Z,Y,Z,Z,Z,Z] rfl rfl HT_ (by kernel_rfl) (fun _ _ _ h => h) (by rfl) ?_ ?_ ?_ ?_;rotate_left
          ·intro w';go_simp;with_reducible rfl
          rotate_left
          ·simp only [Act.put, za_, zb_, zc_, i64_w, i32_w];rfl
          refine tA 10 (some 78) ?_ #[Y,Y,Y,Y,Y,Y,Y,Y,Y,Y,Y,Y,Z,Z,Z,Z] rfl rfl HT_ HW_ (by kernel_rfl) (fun _ _ _ h => h) (by rfl) ?_ hHeld ?_ ?_ ?_;rotate_left
          ·rintro w' ⟨s0, s1, s2, s3, s4, s5, s6⟩;go_simp;with_reducible rfl
          rotate_left
          ·simp only [Act.put, za_, zb_, zc_, i64_w, i32_w];rfl
          refine pA 12 (some 80) ?_ #[Y,Y,Y,Y,Y,Y,Y,Y,Y,Y,Y,Y,Y,Z,Z,Z] rfl rfl HT_ (by kernel_rfl) (fun _ _ _ h => h) (by rfl) ?_ ?_ ?_ ?_;rotate_left
          ·intro w';go_simp;with_reducible rfl
          rotate_left
          ·simp only [Act.put, za_, zb_, zc_, i64_w, i32_w];rfl
          refine tA 13 (some 81) ?_ #[Y,Y,Y,Y,Y,Y,Y,Y,Y,Y,Y,Y,Y,Y,Z,Z] rfl rfl HT_ HW_ (by kernel_rfl) (fun _ _ _ h => h) (by rfl) ?_ hHeld ?_ ?_ ?_;rotate_left
          ·rintro w' ⟨s0, s1, s2, s3, s4, s5, s6⟩;go_simp;with_reducible rfl
          rotate_left
          ·simp only [Act.put, za_, zb_, zc_, i64_w, i32_w];rfl
          refine one_ (i := 14) (N := some 82) #[Y,Y,Y,Y,Y,Y,Y,Y,Y,Y,Y,Y,Y,Y,Y,Z] rfl rfl (one_of HT_.out (by kernel_rfl)) (by decide) (fun K hK => ?_);refine goes_ Try.func134 (by kernel_rfl) rfl #[.slice (some ad441) y444.length c0_2, .agg #[.int .i64 ((rd_T27 l0_2 x63_2).f0), .int .i64 ((rd_T27 l0_2 x63_2).f1)]] (by rfl) rfl rfl (by (try simp only [ma_, mb_, mc_]); first | done | rfl | (simp only [List.length_drop, List.length_take]; rfl)) ?_;with_reducible refine (impl_Cell_134.calls k2 _ _ y444 ((rd_T27 l0_2 x63_2).f0) ((rd_T27 l0_2 x63_2).f1) true _ ?side1 ?side2 A37.out).mono ?_
          (case side1 => exact Kd.C_mv (Kd.C_below HR447.out HB.out))
          (case side2 => exact HC447.out)
          rintro e w46 ⟨rfl, hb⟩;refine ⟨_, rfl, ?_⟩;refine ev3 (kb BK440 hb) (kb BK442 hb) (bs HB hb) ?_;clear BK440 BK442 HB;intro BK440 BK442 HB;(try clear hb);(try clear hb2);(try clear hk);(try clear hi);refine hK.out _ _ ⟨(blk_cell BK442.out 0).trans rfl, (blk_cell BK442.out 1).trans rfl, (blk_cell BK440.out 0).trans rfl, (blk_cell BK440.out 1).trans rfl, (blk_cell BK440.out 2).trans rfl, (blk_cell BK440.out 3).trans rfl, (blk_cell BK440.out 4).trans rfl⟩ (fun hHeld => ?_);clear hK K;refine norm_ (a' := ?_) ?_ ?_;rotate_left
          ·show Act.put _ (some 82) _ = _
           simp only [Act.put, za_, zb_, zc_, i64_w, i32_w];rfl
          refine pA 15 (some 83) ?_ #[Y,Y,Y,Y,Y,Y,Y,Y,Y,Y,Y,Y,Y,Y,Y,Y] rfl rfl HT_ (by kernel_rfl) (fun _ _ _ h => h) (by rfl) ?_ ?_ ?_ ?_;rotate_left
          ·intro w';go_simp;with_reducible rfl
          rotate_left
          ·simp only [Act.put, za_, zb_, zc_, i64_w, i32_w];rfl
          refine done_ (done_of HT_.out (by kernel_rfl)) ?_;try go_wp2
          go_ret;exact ⟨by first | rfl | (simp [e0_, e1_] <;> rfl) | (simp [*, e0_, e1_] <;> rfl), bm HB⟩
         ·replace c38 := Bool.eq_false_iff.mpr c38;subst c38;have H1 : (impl_IsChallenge.l0 k2 l0_2 (l0_2.length : Int) (wrap64 (x63_2 + 1)) a0_0 a0_1 l0_2 l0_3 l0_4) = some r := by rw [if_neg (show ¬ (false = true) by decide)] at H; exact H
          clear H;have H := H1;clear H1;have H' := Aside0.mk H;clear H;have p441 : 0 ≤ (x63_2 : Int) := of_decide_eq_true (by first | (with_reducible assumption) | assumption);have q441 : x63_2 < (l0_2.length : Int) := of_decide_eq_true (by first | (with_reducible assumption) | assumption);obtain ⟨ad441, e441, hx441_0, hx441_1⟩ := at_T27 HR0_2.out x63_2 p441 q441;cases e441;replace hx441_0 := (HB.out.cell (World.block_lt_of_cell? w _ hx441_0)).trans hx441_0;replace hx441_1 := (HB.out.cell (World.block_lt_of_cell? w _ hx441_1)).trans hx441_1;replace p441 := eq_true p441;replace q441 := eq_true q441;try go_wp2_with (first | ((with_reducible refine gate_dst (N := 4) rfl ?_); refine box_event ?hg (N := 4) ?hd (cs := #[.int .i64 0, .int .i64 0]) (t := 27) ?hr ?_; (case hd => rfl); (case hg => rfl); (case hr => first | (go_simp; done) | (go_simp; rfl)); intro gb442 hg w47 hbox hb; refine ev7 (kb BK440 hb) (bs HB hb) (hbox) (gle hg HB) (gle hg HB) (gnf hg BK440) (gne hg BK440) ?_; clear BK440 HB; intro BK440 HB BK442 GW442 GE442 NB440_442 NB442_440; clear hb hbox hg; have hnb48 := NB442_440.out; have hnc48 := NB440_442.out; obtain ⟨hcz49_0, hcz49_1, hfz49_0, hfz49_1⟩ := bt2 BK442))
          have n0_ : Aside0 (((w47.setCell ⟨gb442, 0, none⟩ (.int .i64 ((rd_T27 l0_2 x63_2).f0))).setCell ⟨gb442, 1, none⟩ (.int .i64 ((rd_T27 l0_2 x63_2).f1))).heap[gb440]? = some (.cells #[.int .i64 a0_0, .int .i64 a0_1, .slice (some ad441) l0_2.length c0_2, .slice A0_3 l0_3.length c0_3, .slice A0_4 l0_4.length c0_4] 66 (0, 0))) := ⟨fp BK440 rfl⟩
          have n1_ : Aside0 (((w47.setCell ⟨gb442, 0, none⟩ (.int .i64 ((rd_T27 l0_2 x63_2).f0))).setCell ⟨gb442, 1, none⟩ (.int .i64 ((rd_T27 l0_2 x63_2).f1))).heap[gb442]? = some (.cells #[.int .i64 ((rd_T27 l0_2 x63_2).f0), .int .i64 ((rd_T27 l0_2 x63_2).f1)] 27 (0, 0))) := ⟨fp BK442 rfl⟩
          have n2_ : Aside0 (Below w.heap.size w ((w47.setCell ⟨gb442, 0, none⟩ (.int .i64 ((rd_T27 l0_2 x63_2).f0))).setCell ⟨gb442, 1, none⟩ (.int .i64 ((rd_T27 l0_2 x63_2).f1)))) := ⟨bm HB⟩
          (try clear BK440);(try clear BK442);(try clear HB);generalize ((w47.setCell ⟨gb442, 0, none⟩ (.int .i64 ((rd_T27 l0_2 x63_2).f0))).setCell ⟨gb442, 1, none⟩ (.int .i64 ((rd_T27 l0_2 x63_2).f1))) = w50 at n0_ n1_ n2_ ⊢
          have BK440 := n0_;have BK442 := n1_;have HB := n2_;clear n0_ n1_ n2_;refine ev3 (blk_drew BK440.out) (blk_drew BK442.out) (below_drew1 HB.out) ?_;clear BK440 BK442 HB;intro BK440 BK442 HB;refine start_ (n := 16) (S := fun w' => w'.cell? ⟨gb442, 0, none⟩ = some (.int .i64 ((rd_T27 l0_2 x63_2).f0)) ∧ w'.cell? ⟨gb442, 1, none⟩ = some (.int .i64 ((rd_T27 l0_2 x63_2).f1)) ∧ w'.cell? ⟨gb440, 0, none⟩ = some (.int .i64 a0_0) ∧ w'.cell? ⟨gb440, 1, none⟩ = some (.int .i64 a0_1) ∧ w'.cell? ⟨gb440, 2, none⟩ = some (.slice (some ad441) l0_2.length c0_2) ∧ w'.cell? ⟨gb440, 3, none⟩ = some (.slice A0_3 l0_3.length c0_3) ∧ w'.cell? ⟨gb440, 4, none⟩ = some (.slice A0_4 l0_4.length c0_4)) (ds := []) #[Z,Z,Z,Z,Z,Z,Z,Z,Z,Z,Z,Z,Z,Z,Z,Z] (by kernel_rfl) rfl rfl ⟨(blk_cell BK442.out 0).trans rfl, (blk_cell BK442.out 1).trans rfl, (blk_cell BK440.out 0).trans rfl, (blk_cell BK440.out 1).trans rfl, (blk_cell BK440.out 2).trans rfl, (blk_cell BK440.out 3).trans rfl, (blk_cell BK440.out 4).trans rfl⟩ (fun hHeld => ?_); refine with_tabW impl_IsChallenge.tab6 impl_IsChallenge.bits6 (fun HT_ HW_ => ?_);generalize w50.drew = w51 at BK440 BK442 HB hHeld ⊢
          refine tA 0 (some 68) ?_ #[Y,Z,Z,Z,Z,Z,Z,Z,Z,Z,Z,Z,Z,Z,Z,Z] rfl rfl HT_ HW_ (by kernel_rfl) (fun _ _ _ h => h) (by rfl) ?_ hHeld ?_ ?_ ?_;rotate_left
          ·rintro w' ⟨s0, s1, s2, s3, s4, s5, s6⟩;go_simp;with_reducible rfl
          rotate_left
          ·simp only [Act.put, za_, zb_, zc_, i64_w, i32_w];rfl
          refine one_ (i := 1) (N := some 69) #[Y,Y,Z,Z,Z,Z,Z,Z,Z,Z,Z,Z,Z,Z,Z,Z] rfl rfl (one_of HT_.out (by kernel_rfl)) (by decide) (fun K hK => ?_);refine goes_ Try.func79 (by kernel_rfl) rfl #[.agg #[.int .i64 ((rd_T27 l0_2 x63_2).f0), .int .i64 ((rd_T27 l0_2 x63_2).f1)]] (by rfl) rfl rfl (by (try simp only [ma_, mb_, mc_]); first | done | rfl | (simp only [List.length_drop, List.length_take]; rfl)) ?_;with_reducible refine (impl_IsCell.calls ((rd_T27 l0_2 x63_2).f0) ((rd_T27 l0_2 x63_2).f1) true _ A26.out).mono ?_
          rintro e w52 ⟨rfl, hb⟩;refine ⟨_, rfl, ?_⟩;refine ev3 (kb BK440 hb) (kb BK442 hb) (bs HB hb) ?_;clear BK440 BK442 HB;intro BK440 BK442 HB;(try clear hb);(try clear hb2);(try clear hk);(try clear hi);have q53 : (x63_2 : Int) ≤ ((l0_2.length : Int) : Int) := of_decide_eq_true (by first | (with_reducible assumption) | assumption);obtain ⟨i053, hi053, _, hsz53, _⟩ := info_parts info27;have hroom53 : l0_2.length ≤ c0_2 := HC0_2.out;have hC53 : Kd.C k27 _ (some ad441) l0_2.length l0_2 := HR0_2.out;have hcut53 := cut_to (P := Try.prog) 23 27 .i64 Try.underlying23 hi053 (some ad441) l0_2.length c0_2 x63_2 (of_decide_eq_true (by first | (with_reducible assumption) | assumption)) q53 hroom53;have hr53 := Kd.C_take (m := (x63_2 : Int).toNat) hC53 (by omega);have hy53 : y444.length = (x63_2 : Int).toNat := (by rw [Ny444.out, List.length_take]; omega)
          rw [← Ny444.out] at hr53;rw [← hy53] at hcut53;have HR447 := Aside0.mk hr53;have HC447 := Aside0.mk (show y444.length ≤ c0_2 from by omega);clear hr53 hC53 hroom53 hi053 hsz53;have KY53 := Aside0.mk hy53;clear hy53;replace q53 := eq_true q53;refine hK.out _ _ ⟨(blk_cell BK442.out 0).trans rfl, (blk_cell BK442.out 1).trans rfl, (blk_cell BK440.out 0).trans rfl, (blk_cell BK440.out 1).trans rfl, (blk_cell BK440.out 2).trans rfl, (blk_cell BK440.out 3).trans rfl, (blk_cell BK440.out 4).trans rfl⟩ (fun hHeld => ?_);clear hK K;refine norm_ (a' := ?_) ?_ ?_;rotate_left
          ·show Act.put _ (some 69) _ = _
           simp only [Act.put, za_, zb_, zc_, i64_w, i32_w];rfl
          refine pA 2 (some 70) ?_ #[Y,Y,Y,Z,Z,Z,Z,Z,Z,Z,Z,Z,Z,Z,Z,Z] rfl rfl HT_ (by kernel_rfl) (fun _ _ _ h => h) (by rfl) ?_ ?_ ?_ ?_;rotate_left
          ·intro w';go_simp;with_reducible rfl
          rotate_left
          ·simp only [Act.put, za_, zb_, zc_, i64_w, i32_w];rfl
          refine pA 3 (some 71) ?_ #[Y,Y,Y,Y,Z,Z,Z,Z,Z,Z,Z,Z,Z,Z,Z,Z] rfl rfl HT_ (by kernel_rfl) (fun _ _ _ h => h) (by rfl) ?_ ?_ ?_ ?_;rotate_left
          ·intro w';go_simp;with_reducible rfl
          rotate_left
          ·simp only [Act.put, za_, zb_, zc_, i64_w, i32_w];rfl
          refine pA 4 (some 72) ?_ #[Y,Y,Y,Y,Y,Z,Z,Z,Z,Z,Z,Z,Z,Z,Z,Z] rfl rfl HT_ (by kernel_rfl) (fun _ _ _ h => h) (by rfl) ?_ ?_ ?_ ?_;rotate_left
          ·intro w';go_simp;with_reducible rfl
          rotate_left
          ·simp only [Act.put, za_, zb_, zc_, i64_w, i32_w];rfl
          refine tA 5 (some 73) ?_ #[Y,Y,Y,Y,Y,Y,Z,Z,Z,Z,Z,Z,Z,Z,Z,Z] rfl rfl HT_ HW_ (by kernel_rfl) (fun _ _ _ h => h) (by rfl) ?_ hHeld ?_ ?_ ?_;rotate_left
          ·rintro w' ⟨s0, s1, s2, s3, s4, s5, s6⟩;go_simp;with_reducible rfl
          rotate_left
          ·simp only [Act.put, za_, zb_, zc_, i64_w, i32_w];rfl
          refine pA 6 (some 74) ?_ #[Y,Y,Y,Y,Y,Y,Y,Z,Z,Z,Z,Z,Z,Z,Z,Z] rfl rfl HT_ (by kernel_rfl) (fun _ _ _ h => h) (by rfl) ?_ ?_ ?_ ?_;rotate_left
          ·intro w';go_simp;with_reducible rfl
          rotate_left
          ·simp only [Act.put, za_, zb_, zc_, i64_w, i32_w];rfl
          refine pA 7 (some 75) ?_ #[Y,Y,Y,Y,Y,Y,Y,Y,Z,Z,Z,Z,Z,Z,Z,Z] rfl rfl HT_ (by kernel_rfl) (fun _ _ _ h => h) (by rfl) ?_ ?_ ?_ ?_;rotate_left
          ·intro w';go_simp;with_reducible rfl
          rotate_left
          ·simp only [Act.put, za_, zb_, zc_, i64_w, i32_w];rfl
          refine pA 8 (some 76) ?_ #[Y,Y,Y,Y,Y,Y,Y,Y,Y,Z,Z,Z,Z,Z,Z,Z] rfl rfl HT_ (by kernel_rfl) (fun _ _ _ h => h) (by rfl) ?_ ?_ ?_ ?_;rotate_left
          ·intro w';go_simp;with_reducible rfl
          rotate_left
          ·simp only [Act.put, za_, zb_, zc_, i64_w, i32_w];rfl
          refine pA 9 (some 77) ?_ #[Y,Y,Y,Y,Y,Y,Y,Y,Y,Y,Z,Z,Z,Z,Z,Z] rfl rfl HT_ (by kernel_rfl) (fun _ _ _ h => h) (by rfl) ?_ ?_ ?_ ?_;rotate_left
          ·intro w';go_simp;with_reducible rfl
          rotate_left
          ·simp only [Act.put, za_, zb_, zc_, i64_w, i32_w];rfl
          refine pA 11 (some 79) ?_ #[Y,Y,Y,Y,Y,Y,Y,Y,Y,Y,Z,Y,Z,Z,Z,Z] rfl rfl HT_ (by kernel_rfl) (fun _ _ _ h => h) (by rfl) ?_ ?_ ?_ ?_;rotate_left
          ·intro w';go_simp;with_reducible rfl
          rotate_left
          ·simp only [Act.put, za_, zb_, zc_, i64_w, i32_w];rfl
          refine tA 10 (some 78) ?_ #[Y,Y,Y,Y,Y,Y,Y,Y,Y,Y,Y,Y,Z,Z,Z,Z] rfl rfl HT_ HW_ (by kernel_rfl) (fun _ _ _ h => h) (by rfl) ?_ hHeld ?_ ?_ ?_;rotate_left
          ·rintro w' ⟨s0, s1, s2, s3, s4, s5, s6⟩;go_simp;with_reducible rfl
          rotate_left
          ·simp only [Act.put, za_, zb_, zc_, i64_w, i32_w];rfl
          refine pA 12 (some 80) ?_ #[Y,Y,Y,Y,Y,Y,Y,Y,Y,Y,Y,Y,Y,Z,Z,Z] rfl rfl HT_ (by kernel_rfl) (fun _ _ _ h => h) (by rfl) ?_ ?_ ?_ ?_;rotate_left
          ·intro w';go_simp;with_reducible rfl
          rotate_left
          ·simp only [Act.put, za_, zb_, zc_, i64_w, i32_w];rfl
          refine tA 13 (some 81) ?_ #[Y,Y,Y,Y,Y,Y,Y,Y,Y,Y,Y,Y,Y,Y,Z,Z] rfl rfl HT_ HW_ (by kernel_rfl) (fun _ _ _ h => h) (by rfl) ?_ hHeld ?_ ?_ ?_;rotate_left
          ·rintro w' ⟨s0, s1, s2, s3, s4, s5, s6⟩;go_simp;with_reducible rfl
          rotate_left
          ·simp only [Act.put, za_, zb_, zc_, i64_w, i32_w];rfl
          refine one_ (i := 14) (N := some 82) #[Y,Y,Y,Y,Y,Y,Y,Y,Y,Y,Y,Y,Y,Y,Y,Z] rfl rfl (one_of HT_.out (by kernel_rfl)) (by decide) (fun K hK => ?_);refine goes_ Try.func134 (by kernel_rfl) rfl #[.slice (some ad441) y444.length c0_2, .agg #[.int .i64 ((rd_T27 l0_2 x63_2).f0), .int .i64 ((rd_T27 l0_2 x63_2).f1)]] (by rfl) rfl rfl (by (try simp only [ma_, mb_, mc_]); first | done | rfl | (simp only [List.length_drop, List.length_take]; rfl)) ?_;with_reducible refine (impl_Cell_134.calls k2 _ _ y444 ((rd_T27 l0_2 x63_2).f0) ((rd_T27 l0_2 x63_2).f1) false _ ?side1 ?side2 A37.out).mono ?_
          (case side1 => exact Kd.C_mv (Kd.C_below HR447.out HB.out))
          (case side2 => exact HC447.out)
          rintro e w54 ⟨rfl, hb⟩;refine ⟨_, rfl, ?_⟩;refine ev3 (kb BK440 hb) (kb BK442 hb) (bs HB hb) ?_;clear BK440 BK442 HB;intro BK440 BK442 HB;(try clear hb);(try clear hb2);(try clear hk);(try clear hi);refine hK.out _ _ ⟨(blk_cell BK442.out 0).trans rfl, (blk_cell BK442.out 1).trans rfl, (blk_cell BK440.out 0).trans rfl, (blk_cell BK440.out 1).trans rfl, (blk_cell BK440.out 2).trans rfl, (blk_cell BK440.out 3).trans rfl, (blk_cell BK440.out 4).trans rfl⟩ (fun hHeld => ?_);clear hK K;refine norm_ (a' := ?_) ?_ ?_;rotate_left
          ·show Act.put _ (some 82) _ = _
           simp only [Act.put, za_, zb_, zc_, i64_w, i32_w];rfl
          refine pA 15 (some 83) ?_ #[Y,Y,Y,Y,Y,Y,Y,Y,Y,Y,Y,Y,Y,Y,Y,Y] rfl rfl HT_ (by kernel_rfl) (fun _ _ _ h => h) (by rfl) ?_ ?_ ?_ ?_;rotate_left
          ·intro w';go_simp;with_reducible rfl
          rotate_left
          ·simp only [Act.put, za_, zb_, zc_, i64_w, i32_w];rfl
          refine done_ (done_of HT_.out (by kernel_rfl)) ?_;try go_wp2
          go_roundg k2
          case measure => have := HJ1.out; have := HK2.out; omega
          case rel => exact ⟨(wrap64 (x63_2 + 1)), (by first | rfl | (simp; done) | (simp [*]; done)), H', ⟨by have := HJ1.out; have := HK2.out; omega⟩, ⟨km_ BK440⟩, ⟨bm HB⟩⟩
       ·replace c27 := Bool.eq_false_iff.mpr c27;subst c27;have H1 : (some false) = some r := by rw [if_neg (show ¬ (false = true) by decide)] at H; exact H
        clear H;have H := H1;clear H1;obtain rfl := Option.some.inj H;have p441 : 0 ≤ (x63_2 : Int) := of_decide_eq_true (by first | (with_reducible assumption) | assumption);have q441 : x63_2 < (l0_2.length : Int) := of_decide_eq_true (by first | (with_reducible assumption) | assumption);obtain ⟨ad441, e441, hx441_0, hx441_1⟩ := at_T27 HR0_2.out x63_2 p441 q441;cases e441;replace hx441_0 := (HB.out.cell (World.block_lt_of_cell? w _ hx441_0)).trans hx441_0;replace hx441_1 := (HB.out.cell (World.block_lt_of_cell? w _ hx441_1)).trans hx441_1;replace p441 := eq_true p441;replace q441 := eq_true q441;try go_wp2_with (first | ((with_reducible refine gate_dst (N := 4) rfl ?_); refine box_event ?hg (N := 4) ?hd (cs := #[.int .i64 0, .int .i64 0]) (t := 27) ?hr ?_; (case hd => rfl); (case hg => rfl); (case hr => first | (go_simp; done) | (go_simp; rfl)); intro gb442 hg w55 hbox hb; refine ev7 (kb BK440 hb) (bs HB hb) (hbox) (gle hg HB) (gle hg HB) (gnf hg BK440) (gne hg BK440) ?_; clear BK440 HB; intro BK440 HB BK442 GW442 GE442 NB440_442 NB442_440; clear hb hbox hg; have hnb56 := NB442_440.out; have hnc56 := NB440_442.out; obtain ⟨hcz57_0, hcz57_1, hfz57_0, hfz57_1⟩ := bt2 BK442))
        have n0_ : Aside0 (((w55.setCell ⟨gb442, 0, none⟩ (.int .i64 ((rd_T27 l0_2 x63_2).f0))).setCell ⟨gb442, 1, none⟩ (.int .i64 ((rd_T27 l0_2 x63_2).f1))).heap[gb440]? = some (.cells #[.int .i64 a0_0, .int .i64 a0_1, .slice (some ad441) l0_2.length c0_2, .slice A0_3 l0_3.length c0_3, .slice A0_4 l0_4.length c0_4] 66 (0, 0))) := ⟨fp BK440 rfl⟩
        have n1_ : Aside0 (((w55.setCell ⟨gb442, 0, none⟩ (.int .i64 ((rd_T27 l0_2 x63_2).f0))).setCell ⟨gb442, 1, none⟩ (.int .i64 ((rd_T27 l0_2 x63_2).f1))).heap[gb442]? = some (.cells #[.int .i64 ((rd_T27 l0_2 x63_2).f0), .int .i64 ((rd_T27 l0_2 x63_2).f1)] 27 (0, 0))) := ⟨fp BK442 rfl⟩
        have n2_ : Aside0 (Below w.heap.size w ((w55.setCell ⟨gb442, 0, none⟩ (.int .i64 ((rd_T27 l0_2 x63_2).f0))).setCell ⟨gb442, 1, none⟩ (.int .i64 ((rd_T27 l0_2 x63_2).f1)))) := ⟨bm HB⟩
        (try clear BK440);(try clear BK442);(try clear HB);generalize ((w55.setCell ⟨gb442, 0, none⟩ (.int .i64 ((rd_T27 l0_2 x63_2).f0))).setCell ⟨gb442, 1, none⟩ (.int .i64 ((rd_T27 l0_2 x63_2).f1))) = w58 at n0_ n1_ n2_ ⊢
        have BK440 := n0_;have BK442 := n1_;have HB := n2_;clear n0_ n1_ n2_;refine ev3 (blk_drew BK440.out) (blk_drew BK442.out) (below_drew1 HB.out) ?_;clear BK440 BK442 HB;intro BK440 BK442 HB;refine start_ (n := 16) (S := fun w' => w'.cell? ⟨gb442, 0, none⟩ = some (.int .i64 ((rd_T27 l0_2 x63_2).f0)) ∧ w'.cell? ⟨gb442, 1, none⟩ = some (.int .i64 ((rd_T27 l0_2 x63_2).f1))) (ds := []) #[Z,Z,Z,Z,Z,Z,Z,Z,Z,Z,Z,Z,Z,Z,Z,Z] (by kernel_rfl) rfl rfl ⟨(blk_cell BK442.out 0).trans rfl, (blk_cell BK442.out 1).trans rfl⟩ (fun hHeld => ?_); refine with_tabW impl_IsChallenge.tab6 impl_IsChallenge.bits6 (fun HT_ HW_ => ?_);generalize w58.drew = w59 at BK440 BK442 HB hHeld ⊢
        refine tA 0 (some 68) ?_ #[Y,Z,Z,Z,Z,Z,Z,Z,Z,Z,Z,Z,Z,Z,Z,Z] rfl rfl HT_ HW_ (by kernel_rfl) (fun _ _ _ h => h) (by rfl) ?_ hHeld ?_ ?_ ?_;rotate_left
        ·rintro w' ⟨s0, s1⟩;go_simp;with_reducible rfl
        rotate_left
        ·simp only [Act.put, za_, zb_, zc_, i64_w, i32_w];rfl
        refine one_ (i := 1) (N := some 69) #[Y,Y,Z,Z,Z,Z,Z,Z,Z,Z,Z,Z,Z,Z,Z,Z] rfl rfl (one_of HT_.out (by kernel_rfl)) (by decide) (fun K hK => ?_);refine goes_ Try.func79 (by kernel_rfl) rfl #[.agg #[.int .i64 ((rd_T27 l0_2 x63_2).f0), .int .i64 ((rd_T27 l0_2 x63_2).f1)]] (by rfl) rfl rfl (by (try simp only [ma_, mb_, mc_]); first | done | rfl | (simp only [List.length_drop, List.length_take]; rfl)) ?_;with_reducible refine (impl_IsCell.calls ((rd_T27 l0_2 x63_2).f0) ((rd_T27 l0_2 x63_2).f1) false _ A26.out).mono ?_
        rintro e w60 ⟨rfl, hb⟩;refine ⟨_, rfl, ?_⟩;refine ev3 (kb BK440 hb) (kb BK442 hb) (bs HB hb) ?_;clear BK440 BK442 HB;intro BK440 BK442 HB;(try clear hb);(try clear hb2);(try clear hk);(try clear hi);refine hK.out _ _ ⟨(blk_cell BK442.out 0).trans rfl, (blk_cell BK442.out 1).trans rfl⟩ (fun hHeld => ?_);clear hK K;refine norm_ (a' := ?_) ?_ ?_;rotate_left
        ·show Act.put _ (some 69) _ = _
         simp only [Act.put, za_, zb_, zc_, i64_w, i32_w];rfl
        refine pA 2 (some 70) ?_ #[Y,Y,Y,Z,Z,Z,Z,Z,Z,Z,Z,Z,Z,Z,Z,Z] rfl rfl HT_ (by kernel_rfl) (fun _ _ _ h => h) (by rfl) ?_ ?_ ?_ ?_;rotate_left
        ·intro w';go_simp;with_reducible rfl
        rotate_left
        ·simp only [Act.put, za_, zb_, zc_, i64_w, i32_w];rfl
        refine pA 3 (some 71) ?_ #[Y,Y,Y,Y,Z,Z,Z,Z,Z,Z,Z,Z,Z,Z,Z,Z] rfl rfl HT_ (by kernel_rfl) (fun _ _ _ h => h) (by rfl) ?_ ?_ ?_ ?_;rotate_left
        ·intro w';go_simp;with_reducible rfl
        rotate_left
        ·simp only [Act.put, za_, zb_, zc_, i64_w, i32_w];rfl
        refine pure_ (i := 4) (N := some 72) (v := undef) (a' := ?_) #[Y,Y,Y,Y,Y,Z,Z,Z,Z,Z,Z,Z,Z,Z,Z,Z] rfl rfl (any_of HT_.out (by kernel_rfl)) (fun _ _ _ h => h) (Or.inr ⟨by rfl, rfl⟩) ?_ ?_;rotate_left
        ·simp only [Act.put, za_, zb_, zc_, i64_w, i32_w];rfl
        refine pure_ (i := 5) (N := some 73) (v := undef) (a' := ?_) #[Y,Y,Y,Y,Y,Y,Z,Z,Z,Z,Z,Z,Z,Z,Z,Z] rfl rfl (any_of HT_.out (by kernel_rfl)) (fun _ _ _ h => h) (Or.inr ⟨by rfl, rfl⟩) ?_ ?_;rotate_left
        ·simp only [Act.put, za_, zb_, zc_, i64_w, i32_w];rfl
        refine pure_ (i := 6) (N := some 74) (v := undef) (a' := ?_) #[Y,Y,Y,Y,Y,Y,Y,Z,Z,Z,Z,Z,Z,Z,Z,Z] rfl rfl (any_of HT_.out (by kernel_rfl)) (fun _ _ _ h => h) (Or.inr ⟨by rfl, rfl⟩) ?_ ?_;rotate_left
        ·simp only [Act.put, za_, zb_, zc_, i64_w, i32_w];rfl
        refine pA 7 (some 75) ?_ #[Y,Y,Y,Y,Y,Y,Y,Y,Z,Z,Z,Z,Z,Z,Z,Z] rfl rfl HT_ (by kernel_rfl) (fun _ _ _ h => h) (by rfl) ?_ ?_ ?_ ?_;rotate_left
        ·intro w';go_simp;with_reducible rfl
        rotate_left
        ·simp only [Act.put, za_, zb_, zc_, i64_w, i32_w];rfl
        refine pA 8 (some 76) ?_ #[Y,Y,Y,Y,Y,Y,Y,Y,Y,Z,Z,Z,Z,Z,Z,Z] rfl rfl HT_ (by kernel_rfl) (fun _ _ _ h => h) (by rfl) ?_ ?_ ?_ ?_;rotate_left
        ·intro w';go_simp;with_reducible rfl
        rotate_left
        ·simp only [Act.put, za_, zb_, zc_, i64_w, i32_w];rfl
        refine pure_ (i := 9) (N := some 77) (v := undef) (a' := ?_) #[Y,Y,Y,Y,Y,Y,Y,Y,Y,Y,Z,Z,Z,Z,Z,Z] rfl rfl (any_of HT_.out (by kernel_rfl)) (fun _ _ _ h => h) (Or.inr ⟨by rfl, rfl⟩) ?_ ?_;rotate_left
        ·simp only [Act.put, za_, zb_, zc_, i64_w, i32_w];rfl
        refine pure_ (i := 10) (N := some 78) (v := undef) (a' := ?_) #[Y,Y,Y,Y,Y,Y,Y,Y,Y,Y,Y,Z,Z,Z,Z,Z] rfl rfl (any_of HT_.out (by kernel_rfl)) (fun _ _ _ h => h) (Or.inr ⟨by rfl, rfl⟩) ?_ ?_;rotate_left
        ·simp only [Act.put, za_, zb_, zc_, i64_w, i32_w];rfl
        refine pure_ (i := 11) (N := some 79) (v := undef) (a' := ?_) #[Y,Y,Y,Y,Y,Y,Y,Y,Y,Y,Y,Y,Z,Z,Z,Z] rfl rfl (any_of HT_.out (by kernel_rfl)) (fun _ _ _ h => h) (Or.inr ⟨by rfl, rfl⟩) ?_ ?_;rotate_left
        ·simp only [Act.put, za_, zb_, zc_, i64_w, i32_w];rfl
        refine pure_ (i := 12) (N := some 80) (v := undef) (a' := ?_) #[Y,Y,Y,Y,Y,Y,Y,Y,Y,Y,Y,Y,Y,Z,Z,Z] rfl rfl (any_of HT_.out (by kernel_rfl)) (fun _ _ _ h => h) (Or.inr ⟨by rfl, rfl⟩) ?_ ?_;rotate_left
        ·simp only [Act.put, za_, zb_, zc_, i64_w, i32_w];rfl
        refine pure_ (i := 13) (N := some 81) (v := undef) (a' := ?_) #[Y,Y,Y,Y,Y,Y,Y,Y,Y,Y,Y,Y,Y,Y,Z,Z] rfl rfl (any_of HT_.out (by kernel_rfl)) (fun _ _ _ h => h) (Or.inr ⟨by rfl, rfl⟩) ?_ ?_;rotate_left
        ·simp only [Act.put, za_, zb_, zc_, i64_w, i32_w];rfl
        refine pure_ (i := 14) (N := some 82) (v := undef) (a' := ?_) #[Y,Y,Y,Y,Y,Y,Y,Y,Y,Y,Y,Y,Y,Y,Y,Z] rfl rfl (any_of HT_.out (by kernel_rfl)) (fun _ _ _ h => h) (Or.inr ⟨by rfl, rfl⟩) ?_ ?_;rotate_left
        ·simp only [Act.put, za_, zb_, zc_, i64_w, i32_w];rfl
        refine pA 15 (some 83) ?_ #[Y,Y,Y,Y,Y,Y,Y,Y,Y,Y,Y,Y,Y,Y,Y,Y] rfl rfl HT_ (by kernel_rfl) (fun _ _ _ h => h) (by rfl) ?_ ?_ ?_ ?_;rotate_left
        ·intro w';go_simp;with_reducible rfl
        rotate_left
        ·simp only [Act.put, za_, zb_, zc_, i64_w, i32_w];rfl
        refine done_ (done_of HT_.out (by kernel_rfl)) ?_;try go_wp2
        go_ret;exact ⟨by first | rfl | (simp [e0_, e1_] <;> rfl) | (simp [*, e0_, e1_] <;> rfl), bm HB⟩
      ·rw [if_neg c23] at H;have c23b0 : decide (x63_2 < (l0_2.length : Int)) = false := decide_eq_false c23;clear c23;have H' := Aside0.mk H;clear H;obtain ⟨hcz61_0, hcz61_1, hcz61_2, hcz61_3, hcz61_4, hfz61_0, hfz61_1, hfz61_2, hfz61_3, hfz61_4⟩ := bt5 BK440;go_wp2;go_loopg [88] k2 (fun kq v88 w' => ∃ (x88_3 : Int), v88 = .int .i64 x88_3 ∧ Aside0 (impl_IsChallenge.l1 kq l0_3 (l0_3.length : Int) x88_3 a0_0 a0_1 l0_2 l0_3 l0_4 = some r) ∧ Aside0 (kq ≤ k2) ∧ Aside0 (w'.heap[gb440]? = some (.cells #[.int .i64 a0_0, .int .i64 a0_1, (.slice A0_2 l0_2.length c0_2), (.slice A0_3 l0_3.length c0_3), (.slice A0_4 l0_4.length c0_4)] 66 (0, 0))) ∧ Aside0 (Below w.heap.size w w'))
       case atStart => exact ⟨(0), (by first | rfl | (simp; done) | (simp [*]; done)), H', ⟨Nat.le_refl _⟩, ⟨km_ BK440⟩, ⟨bm HB⟩⟩
       case round =>
        clear H';(try clear c1);(try clear c2);(try clear p2);(try clear c12);(try clear c21);(try clear c23);(try clear c23b0);(try clear hcz22_0);(try clear hcz22_1);(try clear hcz22_2);(try clear hcz22_3);(try clear hcz22_4);(try clear hcz61_0);(try clear hcz61_1);(try clear hcz61_2);(try clear hcz61_3);(try clear hcz61_4);(try clear hfz22_0);(try clear hfz22_1);(try clear hfz22_2);(try clear hfz22_3);(try clear hfz22_4);(try clear hfz61_0);(try clear hfz61_1);(try clear hfz61_2);(try clear hfz61_3);(try clear hfz61_4);(try clear p2);obtain ⟨x88_3, rfl, HA, HK3, BK440, HB⟩ := hrel;cases gk with
        | zero => exact absurd HA.out (by simp [impl_IsChallenge.l1])
        | succ k3 =>
         have H := HA.out;clear HA;simp only [impl_IsChallenge.l1] at H;by_cases c62 : x88_3 < (l0_3.length : Int)
         ·rw [if_pos c62] at H;have c62b0 : decide (x88_3 < (l0_3.length : Int)) = true := decide_eq_true c62;clear c62;replace H := np_ H;obtain ⟨c63, H⟩ := H;have c63b0 : decide (0 ≤ x88_3) = true := decide_eq_true c63;clear c63;replace H := np_ H;obtain ⟨c64, H⟩ := H;have c64b0 : decide (x88_3 < (l0_3.length : Int)) = true := decide_eq_true c64;clear c64;by_cases c65 : (rd l0_3 x88_3) < 0
          ·rw [if_pos c65] at H;have c65b0 : decide ((rd l0_3 x88_3) < 0) = true := decide_eq_true c65;clear c65;obtain rfl := Option.some.inj H;have p449 : 0 ≤ (x88_3 : Int) := of_decide_eq_true (by first | (with_reducible assumption) | assumption);have q449 : x88_3 < (l0_3.length : Int) := of_decide_eq_true (by first | (with_reducible assumption) | assumption);obtain ⟨ad449, e449, hx449_0⟩ := Kd.at_int HR0_3.out x88_3 p449 q449;cases e449;replace hx449_0 := (HB.out.cell (World.block_lt_of_cell? w _ hx449_0)).trans hx449_0;replace p449 := eq_true p449;replace q449 := eq_true q449;try go_wp2
           refine ev2 (blk_drew BK440.out) (below_drew1 HB.out) ?_;clear BK440 HB;intro BK440 HB;refine start_ (n := 27) (S := fun w' => True) (ds := []) #[Z,Z,Z,Z,Z,Z,Z,Z,Z,Z,Z,Z,Z,Z,Z,Z,Z,Z,Z,Z,Z,Z,Z,Z,Z,Z,Z] (by kernel_rfl) rfl rfl trivial (fun hHeld => ?_); refine with_tabW impl_IsChallenge.tab12 impl_IsChallenge.bits12 (fun HT_ HW_ => ?_);generalize wr.drew = w66 at BK440 HB hHeld ⊢
           refine pA 0 (some 93) ?_ #[Y,Z,Z,Z,Z,Z,Z,Z,Z,Z,Z,Z,Z,Z,Z,Z,Z,Z,Z,Z,Z,Z,Z,Z,Z,Z,Z] rfl rfl HT_ (by kernel_rfl) (fun _ _ _ h => h) (by rfl) ?_ ?_ ?_ ?_;rotate_left
           ·intro w';go_simp;with_reducible rfl
           rotate_left
           ·simp only [Act.put, za_, zb_, zc_, i64_w, i32_w];rfl
           refine pA 1 (some 94) ?_ #[Y,Y,Z,Z,Z,Z,Z,Z,Z,Z,Z,Z,Z,Z,Z,Z,Z,Z,Z,Z,Z,Z,Z,Z,Z,Z,Z] rfl rfl HT_ (by kernel_rfl) (fun _ _ _ h => h) (by rfl) ?_ ?_ ?_ ?_;rotate_left
           ·intro w';go_simp;with_reducible rfl
           rotate_left
           ·simp only [Act.put, za_, zb_, zc_, i64_w, i32_w];rfl
           refine pA 2 (some 95) ?_ #[Y,Y,Y,Z,Z,Z,Z,Z,Z,Z,Z,Z,Z,Z,Z,Z,Z,Z,Z,Z,Z,Z,Z,Z,Z,Z,Z] rfl rfl HT_ (by kernel_rfl) (fun _ _ _ h => h) (by rfl) ?_ ?_ ?_ ?_;rotate_left
           ·intro w';go_simp;with_reducible rfl
           rotate_left
           ·simp only [Act.put, za_, zb_, zc_, i64_w, i32_w];rfl
           refine pure_ (i := 3) (N := some 96) (v := undef) (a' := ?_) #[Y,Y,Y,Y,Z,Z,Z,Z,Z,Z,Z,Z,Z,Z,Z,Z,Z,Z,Z,Z,Z,Z,Z,Z,Z,Z,Z] rfl rfl (any_of HT_.out (by kernel_rfl)) (fun _ _ _ h => h) (Or.inr ⟨by rfl, rfl⟩) ?_ ?_;rotate_left
           ·simp only [Act.put, za_, zb_, zc_, i64_w, i32_w];rfl
           refine pure_ (i := 4) (N := some 97) (v := undef) (a' := ?_) #[Y,Y,Y,Y,Y,Z,Z,Z,Z,Z,Z,Z,Z,Z,Z,Z,Z,Z,Z,Z,Z,Z,Z,Z,Z,Z,Z] rfl rfl (any_of HT_.out (by kernel_rfl)) (fun _ _ _ h => h) (Or.inr ⟨by rfl, rfl⟩) ?_ ?_;rotate_left
           ·simp only [Act.put, za_, zb_, zc_, i64_w, i32_w];rfl
           refine pure_ (i := 5) (N := some 98) (v := undef) (a' := ?_) #[Y,Y,Y,Y,Y,Y,Z,Z,Z,Z,Z,Z,Z,Z,Z,Z,Z,Z,Z,Z,Z,Z,Z,Z,Z,Z,Z] rfl rfl (any_of HT_.out (by kernel_rfl)) (fun _ _ _ h => h) (Or.inr ⟨by rfl, rfl⟩) ?_ ?_;rotate_left
           ·simp only [Act.put, za_, zb_, zc_, i64_w, i32_w];rfl
           refine pure_ (i := 6) (N := some 99) (v := undef) (a' := ?_) #[Y,Y,Y,Y,Y,Y,Y,Z,Z,Z,Z,Z,Z,Z,Z,Z,Z,Z,Z,Z,Z,Z,Z,Z,Z,Z,Z] rfl rfl (any_of HT_.out (by kernel_rfl)) (fun _ _ _ h => h) (Or.inr ⟨by rfl, rfl⟩) ?_ ?_;rotate_left
           ·simp only [Act.put, za_, zb_, zc_, i64_w, i32_w];rfl
           refine pA 7 (some 100) ?_ #[Y,Y,Y,Y,Y,Y,Y,Y,Z,Z,Z,Z,Z,Z,Z,Z,Z,Z,Z,Z,Z,Z,Z,Z,Z,Z,Z] rfl rfl HT_ (by kernel_rfl) (fun _ _ _ h => h) (by rfl) ?_ ?_ ?_ ?_;rotate_left
           ·intro w';go_simp;with_reducible rfl
           rotate_left
           ·simp only [Act.put, za_, zb_, zc_, i64_w, i32_w];rfl
           refine pA 8 (some 101) ?_ #[Y,Y,Y,Y,Y,Y,Y,Y,Y,Z,Z,Z,Z,Z,Z,Z,Z,Z,Z,Z,Z,Z,Z,Z,Z,Z,Z] rfl rfl HT_ (by kernel_rfl) (fun _ _ _ h => h) (by rfl) ?_ ?_ ?_ ?_;rotate_left
           ·intro w';go_simp;with_reducible rfl
           rotate_left
           ·simp only [Act.put, za_, zb_, zc_, i64_w, i32_w];rfl
           refine pure_ (i := 9) (N := some 102) (v := undef) (a' := ?_) #[Y,Y,Y,Y,Y,Y,Y,Y,Y,Y,Z,Z,Z,Z,Z,Z,Z,Z,Z,Z,Z,Z,Z,Z,Z,Z,Z] rfl rfl (any_of HT_.out (by kernel_rfl)) (fun _ _ _ h => h) (Or.inr ⟨by rfl, rfl⟩) ?_ ?_;rotate_left
           ·simp only [Act.put, za_, zb_, zc_, i64_w, i32_w];rfl
           refine pure_ (i := 10) (N := some 103) (v := undef) (a' := ?_) #[Y,Y,Y,Y,Y,Y,Y,Y,Y,Y,Y,Z,Z,Z,Z,Z,Z,Z,Z,Z,Z,Z,Z,Z,Z,Z,Z] rfl rfl (any_of HT_.out (by kernel_rfl)) (fun _ _ _ h => h) (Or.inr ⟨by rfl, rfl⟩) ?_ ?_;rotate_left
           ·simp only [Act.put, za_, zb_, zc_, i64_w, i32_w];rfl
           refine pure_ (i := 11) (N := some 104) (v := undef) (a' := ?_) #[Y,Y,Y,Y,Y,Y,Y,Y,Y,Y,Y,Y,Z,Z,Z,Z,Z,Z,Z,Z,Z,Z,Z,Z,Z,Z,Z] rfl rfl (any_of HT_.out (by kernel_rfl)) (fun _ _ _ h => h) (Or.inr ⟨by rfl, rfl⟩) ?_ ?_;rotate_left
           ·simp only [Act.put, za_, zb_, zc_, i64_w, i32_w];rfl
           refine pure_ (i := 12) (N := some 105) (v := undef) (a' := ?_) #[Y,Y,Y,Y,Y,Y,Y,Y,Y,Y,Y,Y,Y,Z,Z,Z,Z,Z,Z,Z,Z,Z,Z,Z,Z,Z,Z] rfl rfl (any_of HT_.out (by kernel_rfl)) (fun _ _ _ h => h) (Or.inr ⟨by rfl, rfl⟩) ?_ ?_;rotate_left
           ·simp only [Act.put, za_, zb_, zc_, i64_w, i32_w];rfl
           refine pure_ (i := 13) (N := some 106) (v := undef) (a' := ?_) #[Y,Y,Y,Y,Y,Y,Y,Y,Y,Y,Y,Y,Y,Y,Z,Z,Z,Z,Z,Z,Z,Z,Z,Z,Z,Z,Z] rfl rfl (any_of HT_.out (by kernel_rfl)) (fun _ _ _ h => h) (Or.inr ⟨by rfl, rfl⟩) ?_ ?_;rotate_left
           ·simp only [Act.put, za_, zb_, zc_, i64_w, i32_w];rfl
           refine pure_ (i := 14) (N := some 107) (v := undef) (a' := ?_) #[Y,Y,Y,Y,Y,Y,Y,Y,Y,Y,Y,Y,Y,Y,Y,Z,Z,Z,Z,Z,Z,Z,Z,Z,Z,Z,Z] rfl rfl (any_of HT_.out (by kernel_rfl)) (fun _ _ _ h => h) (Or.inr ⟨by rfl, rfl⟩) ?_ ?_;rotate_left
           ·simp only [Act.put, za_, zb_, zc_, i64_w, i32_w];rfl
           refine pA 15 (some 108) ?_ #[Y,Y,Y,Y,Y,Y,Y,Y,Y,Y,Y,Y,Y,Y,Y,Y,Z,Z,Z,Z,Z,Z,Z,Z,Z,Z,Z] rfl rfl HT_ (by kernel_rfl) (fun _ _ _ h => h) (by rfl) ?_ ?_ ?_ ?_;rotate_left
           ·intro w';go_simp;with_reducible rfl
           rotate_left
           ·simp only [Act.put, za_, zb_, zc_, i64_w, i32_w];rfl
           refine pA 16 (some 109) ?_ #[Y,Y,Y,Y,Y,Y,Y,Y,Y,Y,Y,Y,Y,Y,Y,Y,Y,Z,Z,Z,Z,Z,Z,Z,Z,Z,Z] rfl rfl HT_ (by kernel_rfl) (fun _ _ _ h => h) (by rfl) ?_ ?_ ?_ ?_;rotate_left
           ·intro w';go_simp;with_reducible rfl
           rotate_left
           ·simp only [Act.put, za_, zb_, zc_, i64_w, i32_w];rfl
           refine pure_ (i := 17) (N := some 110) (v := undef) (a' := ?_) #[Y,Y,Y,Y,Y,Y,Y,Y,Y,Y,Y,Y,Y,Y,Y,Y,Y,Y,Z,Z,Z,Z,Z,Z,Z,Z,Z] rfl rfl (any_of HT_.out (by kernel_rfl)) (fun _ _ _ h => h) (Or.inr ⟨by rfl, rfl⟩) ?_ ?_;rotate_left
           ·simp only [Act.put, za_, zb_, zc_, i64_w, i32_w];rfl
           refine pure_ (i := 18) (N := some 111) (v := undef) (a' := ?_) #[Y,Y,Y,Y,Y,Y,Y,Y,Y,Y,Y,Y,Y,Y,Y,Y,Y,Y,Y,Z,Z,Z,Z,Z,Z,Z,Z] rfl rfl (any_of HT_.out (by kernel_rfl)) (fun _ _ _ h => h) (Or.inr ⟨by rfl, rfl⟩) ?_ ?_;rotate_left
           ·simp only [Act.put, za_, zb_, zc_, i64_w, i32_w];rfl
           refine pure_ (i := 19) (N := some 112) (v := undef) (a' := ?_) #[Y,Y,Y,Y,Y,Y,Y,Y,Y,Y,Y,Y,Y,Y,Y,Y,Y,Y,Y,Y,Z,Z,Z,Z,Z,Z,Z] rfl rfl (any_of HT_.out (by kernel_rfl)) (fun _ _ _ h => h) (Or.inr ⟨by rfl, rfl⟩) ?_ ?_;rotate_left
           ·simp only [Act.put, za_, zb_, zc_, i64_w, i32_w];rfl
           refine pure_ (i := 20) (N := some 113) (v := undef) (a' := ?_) #[Y,Y,Y,Y,Y,Y,Y,Y,Y,Y,Y,Y,Y,Y,Y,Y,Y,Y,Y,Y,Y,Z,Z,Z,Z,Z,Z] rfl rfl (any_of HT_.out (by kernel_rfl)) (fun _ _ _ h => h) (Or.inr ⟨by rfl, rfl⟩) ?_ ?_;rotate_left
           ·simp only [Act.put, za_, zb_, zc_, i64_w, i32_w];rfl
           refine pure_ (i := 21) (N := some 114) (v := undef) (a' := ?_) #[Y,Y,Y,Y,Y,Y,Y,Y,Y,Y,Y,Y,Y,Y,Y,Y,Y,Y,Y,Y,Y,Y,Z,Z,Z,Z,Z] rfl rfl (any_of HT_.out (by kernel_rfl)) (fun _ _ _ h => h) (Or.inr ⟨by rfl, rfl⟩) ?_ ?_;rotate_left
           ·simp only [Act.put, za_, zb_, zc_, i64_w, i32_w];rfl
           refine pure_ (i := 22) (N := some 115) (v := undef) (a' := ?_) #[Y,Y,Y,Y,Y,Y,Y,Y,Y,Y,Y,Y,Y,Y,Y,Y,Y,Y,Y,Y,Y,Y,Y,Z,Z,Z,Z] rfl rfl (any_of HT_.out (by kernel_rfl)) (fun _ _ _ h => h) (Or.inr ⟨by rfl, rfl⟩) ?_ ?_;rotate_left
           ·simp only [Act.put, za_, zb_, zc_, i64_w, i32_w];rfl
           refine pure_ (i := 23) (N := some 116) (v := undef) (a' := ?_) #[Y,Y,Y,Y,Y,Y,Y,Y,Y,Y,Y,Y,Y,Y,Y,Y,Y,Y,Y,Y,Y,Y,Y,Y,Z,Z,Z] rfl rfl (any_of HT_.out (by kernel_rfl)) (fun _ _ _ h => h) (Or.inr ⟨by rfl, rfl⟩) ?_ ?_;rotate_left
           ·simp only [Act.put, za_, zb_, zc_, i64_w, i32_w];rfl
           refine pure_ (i := 24) (N := some 117) (v := undef) (a' := ?_) #[Y,Y,Y,Y,Y,Y,Y,Y,Y,Y,Y,Y,Y,Y,Y,Y,Y,Y,Y,Y,Y,Y,Y,Y,Y,Z,Z] rfl rfl (any_of HT_.out (by kernel_rfl)) (fun _ _ _ h => h) (Or.inr ⟨by rfl, rfl⟩) ?_ ?_;rotate_left
           ·simp only [Act.put, za_, zb_, zc_, i64_w, i32_w];rfl
           refine pure_ (i := 25) (N := some 118) (v := undef) (a' := ?_) #[Y,Y,Y,Y,Y,Y,Y,Y,Y,Y,Y,Y,Y,Y,Y,Y,Y,Y,Y,Y,Y,Y,Y,Y,Y,Y,Z] rfl rfl (any_of HT_.out (by kernel_rfl)) (fun _ _ _ h => h) (Or.inr ⟨by rfl, rfl⟩) ?_ ?_;rotate_left
           ·simp only [Act.put, za_, zb_, zc_, i64_w, i32_w];rfl
           refine pA 26 (some 119) ?_ #[Y,Y,Y,Y,Y,Y,Y,Y,Y,Y,Y,Y,Y,Y,Y,Y,Y,Y,Y,Y,Y,Y,Y,Y,Y,Y,Y] rfl rfl HT_ (by kernel_rfl) (fun _ _ _ h => h) (by rfl) ?_ ?_ ?_ ?_;rotate_left
           ·intro w';go_simp;with_reducible rfl
           rotate_left
           ·simp only [Act.put, za_, zb_, zc_, i64_w, i32_w];rfl
           refine done_ (done_of HT_.out (by kernel_rfl)) ?_;try go_wp2
           go_ret;exact ⟨by first | rfl | (simp [e0_, e1_] <;> rfl) | (simp [*, e0_, e1_] <;> rfl), bm HB⟩
          ·rw [if_neg c65] at H;have c65b0 : decide ((rd l0_3 x88_3) < 0) = false := decide_eq_false c65;clear c65;by_cases c67 : (rd l0_3 x88_3) ≥ a0_1
           ·rw [if_pos c67] at H;have c67b0 : decide (a0_1 ≤ (rd l0_3 x88_3)) = true := decide_eq_true c67;clear c67;obtain rfl := Option.some.inj H;have p449 : 0 ≤ (x88_3 : Int) := of_decide_eq_true (by first | (with_reducible assumption) | assumption);have q449 : x88_3 < (l0_3.length : Int) := of_decide_eq_true (by first | (with_reducible assumption) | assumption);obtain ⟨ad449, e449, hx449_0⟩ := Kd.at_int HR0_3.out x88_3 p449 q449;cases e449;replace hx449_0 := (HB.out.cell (World.block_lt_of_cell? w _ hx449_0)).trans hx449_0;replace p449 := eq_true p449;replace q449 := eq_true q449;try go_wp2
            refine ev2 (blk_drew BK440.out) (below_drew1 HB.out) ?_;clear BK440 HB;intro BK440 HB;refine start_ (n := 27) (S := fun w' => w'.cell? ⟨gb440, 0, none⟩ = some (.int .i64 a0_0) ∧ w'.cell? ⟨gb440, 1, none⟩ = some (.int .i64 a0_1) ∧ w'.cell? ⟨gb440, 2, none⟩ = some (.slice A0_2 l0_2.length c0_2) ∧ w'.cell? ⟨gb440, 3, none⟩ = some (.slice (some ad449) l0_3.length c0_3) ∧ w'.cell? ⟨gb440, 4, none⟩ = some (.slice A0_4 l0_4.length c0_4)) (ds := []) #[Z,Z,Z,Z,Z,Z,Z,Z,Z,Z,Z,Z,Z,Z,Z,Z,Z,Z,Z,Z,Z,Z,Z,Z,Z,Z,Z] (by kernel_rfl) rfl rfl ⟨(blk_cell BK440.out 0).trans rfl, (blk_cell BK440.out 1).trans rfl, (blk_cell BK440.out 2).trans rfl, (blk_cell BK440.out 3).trans rfl, (blk_cell BK440.out 4).trans rfl⟩ (fun hHeld => ?_); refine with_tabW impl_IsChallenge.tab12 impl_IsChallenge.bits12 (fun HT_ HW_ => ?_);generalize wr.drew = w68 at BK440 HB hHeld ⊢
            refine pA 0 (some 93) ?_ #[Y,Z,Z,Z,Z,Z,Z,Z,Z,Z,Z,Z,Z,Z,Z,Z,Z,Z,Z,Z,Z,Z,Z,Z,Z,Z,Z] rfl rfl HT_ (by kernel_rfl) (fun _ _ _ h => h) (by rfl) ?_ ?_ ?_ ?_;rotate_left
            ·intro w';go_simp;with_reducible rfl
            rotate_left
            ·simp only [Act.put, za_, zb_, zc_, i64_w, i32_w];rfl
            refine pA 1 (some 94) ?_ #[Y,Y,Z,Z,Z,Z,Z,Z,Z,Z,Z,Z,Z,Z,Z,Z,Z,Z,Z,Z,Z,Z,Z,Z,Z,Z,Z] rfl rfl HT_ (by kernel_rfl) (fun _ _ _ h => h) (by rfl) ?_ ?_ ?_ ?_;rotate_left
            ·intro w';go_simp;with_reducible rfl
            rotate_left
            ·simp only [Act.put, za_, zb_, zc_, i64_w, i32_w];rfl
            refine pA 2 (some 95) ?_ #[Y,Y,Y,Z,Z,Z,Z,Z,Z,Z,Z,Z,Z,Z,Z,Z,Z,Z,Z,Z,Z,Z,Z,Z,Z,Z,Z] rfl rfl HT_ (by kernel_rfl) (fun _ _ _ h => h) (by rfl) ?_ ?_ ?_ ?_;rotate_left
            ·intro w';go_simp;with_reducible rfl
            rotate_left
            ·simp only [Act.put, za_, zb_, zc_, i64_w, i32_w];rfl
            refine pA 3 (some 96) ?_ #[Y,Y,Y,Y,Z,Z,Z,Z,Z,Z,Z,Z,Z,Z,Z,Z,Z,Z,Z,Z,Z,Z,Z,Z,Z,Z,Z] rfl rfl HT_ (by kernel_rfl) (fun _ _ _ h => h) (by rfl) ?_ ?_ ?_ ?_;rotate_left
            ·intro w';go_simp;with_reducible rfl
            rotate_left
            ·simp only [Act.put, za_, zb_, zc_, i64_w, i32_w];rfl
            refine pA 4 (some 97) ?_ #[Y,Y,Y,Y,Y,Z,Z,Z,Z,Z,Z,Z,Z,Z,Z,Z,Z,Z,Z,Z,Z,Z,Z,Z,Z,Z,Z] rfl rfl HT_ (by kernel_rfl) (fun _ _ _ h => h) (by rfl) ?_ ?_ ?_ ?_;rotate_left
            ·intro w';go_simp;with_reducible rfl
            rotate_left
            ·simp only [Act.put, za_, zb_, zc_, i64_w, i32_w];rfl
            refine tA 5 (some 98) ?_ #[Y,Y,Y,Y,Y,Y,Z,Z,Z,Z,Z,Z,Z,Z,Z,Z,Z,Z,Z,Z,Z,Z,Z,Z,Z,Z,Z] rfl rfl HT_ HW_ (by kernel_rfl) (fun _ _ _ h => h) (by rfl) ?_ hHeld ?_ ?_ ?_;rotate_left
            ·rintro w' ⟨s0, s1, s2, s3, s4⟩;go_simp;with_reducible rfl
            rotate_left
            ·simp only [Act.put, za_, zb_, zc_, i64_w, i32_w];rfl
            refine pA 6 (some 99) ?_ #[Y,Y,Y,Y,Y,Y,Y,Z,Z,Z,Z,Z,Z,Z,Z,Z,Z,Z,Z,Z,Z,Z,Z,Z,Z,Z,Z] rfl rfl HT_ (by kernel_rfl) (fun _ _ _ h => h) (by rfl) ?_ ?_ ?_ ?_;rotate_left
            ·intro w';go_simp;with_reducible rfl
            rotate_left
            ·simp only [Act.put, za_, zb_, zc_, i64_w, i32_w];rfl
            refine pA 7 (some 100) ?_ #[Y,Y,Y,Y,Y,Y,Y,Y,Z,Z,Z,Z,Z,Z,Z,Z,Z,Z,Z,Z,Z,Z,Z,Z,Z,Z,Z] rfl rfl HT_ (by kernel_rfl) (fun _ _ _ h => h) (by rfl) ?_ ?_ ?_ ?_;rotate_left
            ·intro w';go_simp;with_reducible rfl
            rotate_left
            ·simp only [Act.put, za_, zb_, zc_, i64_w, i32_w];rfl
            refine pA 8 (some 101) ?_ #[Y,Y,Y,Y,Y,Y,Y,Y,Y,Z,Z,Z,Z,Z,Z,Z,Z,Z,Z,Z,Z,Z,Z,Z,Z,Z,Z] rfl rfl HT_ (by kernel_rfl) (fun _ _ _ h => h) (by rfl) ?_ ?_ ?_ ?_;rotate_left
            ·intro w';go_simp;with_reducible rfl
            rotate_left
            ·simp only [Act.put, za_, zb_, zc_, i64_w, i32_w];rfl
            refine pure_ (i := 9) (N := some 102) (v := undef) (a' := ?_) #[Y,Y,Y,Y,Y,Y,Y,Y,Y,Y,Z,Z,Z,Z,Z,Z,Z,Z,Z,Z,Z,Z,Z,Z,Z,Z,Z] rfl rfl (any_of HT_.out (by kernel_rfl)) (fun _ _ _ h => h) (Or.inr ⟨by rfl, rfl⟩) ?_ ?_;rotate_left
            ·simp only [Act.put, za_, zb_, zc_, i64_w, i32_w];rfl
            refine pure_ (i := 10) (N := some 103) (v := undef) (a' := ?_) #[Y,Y,Y,Y,Y,Y,Y,Y,Y,Y,Y,Z,Z,Z,Z,Z,Z,Z,Z,Z,Z,Z,Z,Z,Z,Z,Z] rfl rfl (any_of HT_.out (by kernel_rfl)) (fun _ _ _ h => h) (Or.inr ⟨by rfl, rfl⟩) ?_ ?_;rotate_left
            ·simp only [Act.put, za_, zb_, zc_, i64_w, i32_w];rfl
            refine pure_ (i := 11) (N := some 104) (v := undef) (a' := ?_) #[Y,Y,Y,Y,Y,Y,Y,Y,Y,Y,Y,Y,Z,Z,Z,Z,Z,Z,Z,Z,Z,Z,Z,Z,Z,Z,Z] rfl rfl (any_of HT_.out (by kernel_rfl)) (fun _ _ _ h => h) (Or.inr ⟨by rfl, rfl⟩) ?_ ?_;rotate_left
            ·simp only [Act.put, za_, zb_, zc_, i64_w, i32_w];rfl
            refine pure_ (i := 12) (N := some 105) (v := undef) (a' := ?_) #[Y,Y,Y,Y,Y,Y,Y,Y,Y,Y,Y,Y,Y,Z,Z,Z,Z,Z,Z,Z,Z,Z,Z,Z,Z,Z,Z] rfl rfl (any_of HT_.out (by kernel_rfl)) (fun _ _ _ h => h) (Or.inr ⟨by rfl, rfl⟩) ?_ ?_;rotate_left
            ·simp only [Act.put, za_, zb_, zc_, i64_w, i32_w];rfl
            refine pure_ (i := 13) (N := some 106) (v := undef) (a' := ?_) #[Y,Y,Y,Y,Y,Y,Y,Y,Y,Y,Y,Y,Y,Y,Z,Z,Z,Z,Z,Z,Z,Z,Z,Z,Z,Z,Z] rfl rfl (any_of HT_.out (by kernel_rfl)) (fun _ _ _ h => h) (Or.inr ⟨by rfl, rfl⟩) ?_ ?_;rotate_left
            ·simp only [Act.put, za_, zb_, zc_, i64_w, i32_w];rfl
            refine pure_ (i := 14) (N := some 107) (v := undef) (a' := ?_) #[Y,Y,Y,Y,Y,Y,Y,Y,Y,Y,Y,Y,Y,Y,Y,Z,Z,Z,Z,Z,Z,Z,Z,Z,Z,Z,Z] rfl rfl (any_of HT_.out (by kernel_rfl)) (fun _ _ _ h => h) (Or.inr ⟨by rfl, rfl⟩) ?_ ?_;rotate_left
            ·simp only [Act.put, za_, zb_, zc_, i64_w, i32_w];rfl
            refine pA 15 (some 108) ?_ #[Y,Y,Y,Y,Y,Y,Y,Y,Y,Y,Y,Y,Y,Y,Y,Y,Z,Z,Z,Z,Z,Z,Z,Z,Z,Z,Z] rfl rfl HT_ (by kernel_rfl) (fun _ _ _ h => h) (by rfl) ?_ ?_ ?_ ?_;rotate_left
            ·intro w';go_simp;with_reducible rfl
            rotate_left
            ·simp only [Act.put, za_, zb_, zc_, i64_w, i32_w];rfl
            refine pA 16 (some 109) ?_ #[Y,Y,Y,Y,Y,Y,Y,Y,Y,Y,Y,Y,Y,Y,Y,Y,Y,Z,Z,Z,Z,Z,Z,Z,Z,Z,Z] rfl rfl HT_ (by kernel_rfl) (fun _ _ _ h => h) (by rfl) ?_ ?_ ?_ ?_;rotate_left
            ·intro w';go_simp;with_reducible rfl
            rotate_left
            ·simp only [Act.put, za_, zb_, zc_, i64_w, i32_w];rfl
            refine pure_ (i := 17) (N := some 110) (v := undef) (a' := ?_) #[Y,Y,Y,Y,Y,Y,Y,Y,Y,Y,Y,Y,Y,Y,Y,Y,Y,Y,Z,Z,Z,Z,Z,Z,Z,Z,Z] rfl rfl (any_of HT_.out (by kernel_rfl)) (fun _ _ _ h => h) (Or.inr ⟨by rfl, rfl⟩) ?_ ?_;rotate_left
            ·simp only [Act.put, za_, zb_, zc_, i64_w, i32_w];rfl
            refine pure_ (i := 18) (N := some 111) (v := undef) (a' := ?_) #[Y,Y,Y,Y,Y,Y,Y,Y,Y,Y,Y,Y,Y,Y,Y,Y,Y,Y,Y,Z,Z,Z,Z,Z,Z,Z,Z] rfl rfl (any_of HT_.out (by kernel_rfl)) (fun _ _ _ h => h) (Or.inr ⟨by rfl, rfl⟩) ?_ ?_;rotate_left
            ·simp only [Act.put, za_, zb_, zc_, i64_w, i32_w];rfl
            refine pure_ (i := 19) (N := some 112) (v := undef) (a' := ?_) #[Y,Y,Y,Y,Y,Y,Y,Y,Y,Y,Y,Y,Y,Y,Y,Y,Y,Y,Y,Y,Z,Z,Z,Z,Z,Z,Z] rfl rfl (any_of HT_.out (by kernel_rfl)) (fun _ _ _ h => h) (Or.inr ⟨by rfl, rfl⟩) ?_ ?_;rotate_left
            ·simp only [Act.put, za_, zb_, zc_, i64_w, i32_w];rfl
            refine pure_ (i := 20) (N := some 113) (v := undef) (a' := ?_) #[Y,Y,Y,Y,Y,Y,Y,Y,Y,Y,Y,Y,Y,Y,Y,Y,Y,Y,Y,Y,Y,Z,Z,Z,Z,Z,Z] rfl rfl (any_of HT_.out (by kernel_rfl)) (fun _ _ _ h => h) (Or.inr ⟨by rfl, rfl⟩) ?_ ?_;rotate_left
            ·simp only [Act.put, za_, zb_, zc_, i64_w, i32_w];rfl
            refine pure_ (i := 21) (N := some 114) (v := undef) (a' := ?_) #[Y,Y,Y,Y,Y,Y,Y,Y,Y,Y,Y,Y,Y,Y,Y,Y,Y,Y,Y,Y,Y,Y,Z,Z,Z,Z,Z] rfl rfl (any_of HT_.out (by kernel_rfl)) (fun _ _ _ h => h) (Or.inr ⟨by rfl, rfl⟩) ?_ ?_;rotate_left
            ·simp only [Act.put, za_, zb_, zc_, i64_w, i32_w];rfl
            refine pure_ (i := 22) (N := some 115) (v := undef) (a' := ?_) #[Y,Y,Y,Y,Y,Y,Y,Y,Y,Y,Y,Y,Y,Y,Y,Y,Y,Y,Y,Y,Y,Y,Y,Z,Z,Z,Z] rfl rfl (any_of HT_.out (by kernel_rfl)) (fun _ _ _ h => h) (Or.inr ⟨by rfl, rfl⟩) ?_ ?_;rotate_left
            ·simp only [Act.put, za_, zb_, zc_, i64_w, i32_w];rfl
            refine pure_ (i := 23) (N := some 116) (v := undef) (a' := ?_) #[Y,Y,Y,Y,Y,Y,Y,Y,Y,Y,Y,Y,Y,Y,Y,Y,Y,Y,Y,Y,Y,Y,Y,Y,Z,Z,Z] rfl rfl (any_of HT_.out (by kernel_rfl)) (fun _ _ _ h => h) (Or.inr ⟨by rfl, rfl⟩) ?_ ?_;rotate_left
            ·simp only [Act.put, za_, zb_, zc_, i64_w, i32_w];rfl
            refine pure_ (i := 24) (N := some 117) (v := undef) (a' := ?_) #[Y,Y,Y,Y,Y,Y,Y,Y,Y,Y,Y,Y,Y,Y,Y,Y,Y,Y,Y,Y,Y,Y,Y,Y,Y,Z,Z] rfl rfl (any_of HT_.out (by kernel_rfl)) (fun _ _ _ h => h) (Or.inr ⟨by rfl, rfl⟩) ?_ ?_;rotate_left
            ·simp only [Act.put, za_, zb_, zc_, i64_w, i32_w];rfl
            refine pure_ (i := 25) (N := some 118) (v := undef) (a' := ?_) #[Y,Y,Y,Y,Y,Y,Y,Y,Y,Y,Y,Y,Y,Y,Y,Y,Y,Y,Y,Y,Y,Y,Y,Y,Y,Y,Z] rfl rfl (any_of HT_.out (by kernel_rfl)) (fun _ _ _ h => h) (Or.inr ⟨by rfl, rfl⟩) ?_ ?_;rotate_left
            ·simp only [Act.put, za_, zb_, zc_, i64_w, i32_w];rfl
            refine pA 26 (some 119) ?_ #[Y,Y,Y,Y,Y,Y,Y,Y,Y,Y,Y,Y,Y,Y,Y,Y,Y,Y,Y,Y,Y,Y,Y,Y,Y,Y,Y] rfl rfl HT_ (by kernel_rfl) (fun _ _ _ h => h) (by rfl) ?_ ?_ ?_ ?_;rotate_left
            ·intro w';go_simp;with_reducible rfl
            rotate_left
            ·simp only [Act.put, za_, zb_, zc_, i64_w, i32_w];rfl
            refine done_ (done_of HT_.out (by kernel_rfl)) ?_;try go_wp2
            go_ret;exact ⟨by first | rfl | (simp [e0_, e1_] <;> rfl) | (simp [*, e0_, e1_] <;> rfl), bm HB⟩
           ·rw [if_neg c67] at H;have c67b0 : decide (a0_1 ≤ (rd l0_3 x88_3)) = false := decide_eq_false c67;clear c67;replace H := np_ H;obtain ⟨c69, H⟩ := H;have c69b0 : decide (x88_3 < (l0_4.length : Int)) = true := decide_eq_true c69;clear c69;by_cases c70 : (rd l0_4 x88_3) < 0
            ·rw [if_pos c70] at H;have c70b0 : decide ((rd l0_4 x88_3) < 0) = true := decide_eq_true c70;clear c70;obtain rfl := Option.some.inj H;have p449 : 0 ≤ (x88_3 : Int) := of_decide_eq_true (by first | (with_reducible assumption) | assumption);have q449 : x88_3 < (l0_3.length : Int) := of_decide_eq_true (by first | (with_reducible assumption) | assumption);obtain ⟨ad449, e449, hx449_0⟩ := Kd.at_int HR0_3.out x88_3 p449 q449;cases e449;replace hx449_0 := (HB.out.cell (World.block_lt_of_cell? w _ hx449_0)).trans hx449_0;replace p449 := eq_true p449;replace q449 := eq_true q449;try go_wp2
             refine ev2 (blk_drew BK440.out) (below_drew1 HB.out) ?_;clear BK440 HB;intro BK440 HB;have p450 : 0 ≤ (x88_3 : Int) := of_decide_eq_true (by first | (with_reducible assumption) | assumption);have q450 : x88_3 < (l0_4.length : Int) := of_decide_eq_true (by first | (with_reducible assumption) | assumption);obtain ⟨ad450, e450, hx450_0⟩ := Kd.at_int HR0_4.out x88_3 p450 q450;have hw450_0 := hx450_0;cases e450;replace hx450_0 := (HB.out.cell (World.block_lt_of_cell? w _ hx450_0)).trans hx450_0;replace p450 := eq_true p450;replace q450 := eq_true q450;refine start_ (n := 27) (S := fun w' => w'.cell? ⟨gb440, 0, none⟩ = some (.int .i64 a0_0) ∧ w'.cell? ⟨gb440, 1, none⟩ = some (.int .i64 a0_1) ∧ w'.cell? ⟨gb440, 2, none⟩ = some (.slice A0_2 l0_2.length c0_2) ∧ w'.cell? ⟨gb440, 3, none⟩ = some (.slice (some ad449) l0_3.length c0_3) ∧ w'.cell? ⟨gb440, 4, none⟩ = some (.slice (some ad450) l0_4.length c0_4) ∧ w'.cell? (ad450.add (x88_3).toNat) = some (.int .i64 (rd l0_4 x88_3))) (ds := []) #[Z,Z,Z,Z,Z,Z,Z,Z,Z,Z,Z,Z,Z,Z,Z,Z,Z,Z,Z,Z,Z,Z,Z,Z,Z,Z,Z] (by kernel_rfl) rfl rfl ⟨(blk_cell BK440.out 0).trans rfl, (blk_cell BK440.out 1).trans rfl, (blk_cell BK440.out 2).trans rfl, (blk_cell BK440.out 3).trans rfl, (blk_cell BK440.out 4).trans rfl, ((HB.out.cell (World.block_lt_of_cell? w _ hw450_0)).trans hw450_0)⟩ (fun hHeld => ?_); refine with_tabW impl_IsChallenge.tab12 impl_IsChallenge.bits12 (fun HT_ HW_ => ?_);generalize wr.drew = w71 at BK440 HB hx450_0 hHeld ⊢
             refine pA 0 (some 93) ?_ #[Y,Z,Z,Z,Z,Z,Z,Z,Z,Z,Z,Z,Z,Z,Z,Z,Z,Z,Z,Z,Z,Z,Z,Z,Z,Z,Z] rfl rfl HT_ (by kernel_rfl) (fun _ _ _ h => h) (by rfl) ?_ ?_ ?_ ?_;rotate_left
             ·intro w';go_simp;with_reducible rfl
             rotate_left
             ·simp only [Act.put, za_, zb_, zc_, i64_w, i32_w];rfl
             refine pA 1 (some 94) ?_ #[Y,Y,Z,Z,Z,Z,Z,Z,Z,Z,Z,Z,Z,Z,Z,Z,Z,Z,Z,Z,Z,Z,Z,Z,Z,Z,Z] rfl rfl HT_ (by kernel_rfl) (fun _ _ _ h => h) (by rfl) ?_ ?_ ?_ ?_;rotate_left
             ·intro w';go_simp;with_reducible rfl
             rotate_left
             ·simp only [Act.put, za_, zb_, zc_, i64_w, i32_w];rfl
             refine pA 2 (some 95) ?_ #[Y,Y,Y,Z,Z,Z,Z,Z,Z,Z,Z,Z,Z,Z,Z,Z,Z,Z,Z,Z,Z,Z,Z,Z,Z,Z,Z] rfl rfl HT_ (by kernel_rfl) (fun _ _ _ h => h) (by rfl) ?_ ?_ ?_ ?_;rotate_left
             ·intro w';go_simp;with_reducible rfl
             rotate_left
             ·simp only [Act.put, za_, zb_, zc_, i64_w, i32_w];rfl
             refine pA 3 (some 96) ?_ #[Y,Y,Y,Y,Z,Z,Z,Z,Z,Z,Z,Z,Z,Z,Z,Z,Z,Z,Z,Z,Z,Z,Z,Z,Z,Z,Z] rfl rfl HT_ (by kernel_rfl) (fun _ _ _ h => h) (by rfl) ?_ ?_ ?_ ?_;rotate_left
             ·intro w';go_simp;with_reducible rfl
             rotate_left
             ·simp only [Act.put, za_, zb_, zc_, i64_w, i32_w];rfl
             refine pA 4 (some 97) ?_ #[Y,Y,Y,Y,Y,Z,Z,Z,Z,Z,Z,Z,Z,Z,Z,Z,Z,Z,Z,Z,Z,Z,Z,Z,Z,Z,Z] rfl rfl HT_ (by kernel_rfl) (fun _ _ _ h => h) (by rfl) ?_ ?_ ?_ ?_;rotate_left
             ·intro w';go_simp;with_reducible rfl
             rotate_left
             ·simp only [Act.put, za_, zb_, zc_, i64_w, i32_w];rfl
             refine tA 5 (some 98) ?_ #[Y,Y,Y,Y,Y,Y,Z,Z,Z,Z,Z,Z,Z,Z,Z,Z,Z,Z,Z,Z,Z,Z,Z,Z,Z,Z,Z] rfl rfl HT_ HW_ (by kernel_rfl) (fun _ _ _ h => h) (by rfl) ?_ hHeld ?_ ?_ ?_;rotate_left
             ·rintro w' ⟨s0, s1, s2, s3, s4, s5⟩;go_simp;with_reducible rfl
             rotate_left
             ·simp only [Act.put, za_, zb_, zc_, i64_w, i32_w];rfl
             refine pA 6 (some 99) ?_ #[Y,Y,Y,Y,Y,Y,Y,Z,Z,Z,Z,Z,Z,Z,Z,Z,Z,Z,Z,Z,Z,Z,Z,Z,Z,Z,Z] rfl rfl HT_ (by kernel_rfl) (fun _ _ _ h => h) (by rfl) ?_ ?_ ?_ ?_;rotate_left
             ·intro w';go_simp;with_reducible rfl
             rotate_left
             ·simp only [Act.put, za_, zb_, zc_, i64_w, i32_w];rfl
             refine pA 7 (some 100) ?_ #[Y,Y,Y,Y,Y,Y,Y,Y,Z,Z,Z,Z,Z,Z,Z,Z,Z,Z,Z,Z,Z,Z,Z,Z,Z,Z,Z] rfl rfl HT_ (by kernel_rfl) (fun _ _ _ h => h) (by rfl) ?_ ?_ ?_ ?_;rotate_left
             ·intro w';go_simp;with_reducible rfl
             rotate_left
             ·simp only [Act.put, za_, zb_, zc_, i64_w, i32_w];rfl
             refine pA 8 (some 101) ?_ #[Y,Y,Y,Y,Y,Y,Y,Y,Y,Z,Z,Z,Z,Z,Z,Z,Z,Z,Z,Z,Z,Z,Z,Z,Z,Z,Z] rfl rfl HT_ (by kernel_rfl) (fun _ _ _ h => h) (by rfl) ?_ ?_ ?_ ?_;rotate_left
             ·intro w';go_simp;with_reducible rfl
             rotate_left
             ·simp only [Act.put, za_, zb_, zc_, i64_w, i32_w];rfl
             refine pA 9 (some 102) ?_ #[Y,Y,Y,Y,Y,Y,Y,Y,Y,Y,Z,Z,Z,Z,Z,Z,Z,Z,Z,Z,Z,Z,Z,Z,Z,Z,Z] rfl rfl HT_ (by kernel_rfl) (fun _ _ _ h => h) (by rfl) ?_ ?_ ?_ ?_;rotate_left
             ·intro w';go_simp;with_reducible rfl
             rotate_left
             ·simp only [Act.put, za_, zb_, zc_, i64_w, i32_w];rfl
             refine pA 11 (some 104) ?_ #[Y,Y,Y,Y,Y,Y,Y,Y,Y,Y,Z,Y,Z,Z,Z,Z,Z,Z,Z,Z,Z,Z,Z,Z,Z,Z,Z] rfl rfl HT_ (by kernel_rfl) (fun _ _ _ h => h) (by rfl) ?_ ?_ ?_ ?_;rotate_left
             ·intro w';go_simp;with_reducible rfl
             rotate_left
             ·simp only [Act.put, za_, zb_, zc_, i64_w, i32_w];rfl
             refine tA 10 (some 103) ?_ #[Y,Y,Y,Y,Y,Y,Y,Y,Y,Y,Y,Y,Z,Z,Z,Z,Z,Z,Z,Z,Z,Z,Z,Z,Z,Z,Z] rfl rfl HT_ HW_ (by kernel_rfl) (fun _ _ _ h => h) (by rfl) ?_ hHeld ?_ ?_ ?_;rotate_left
             ·rintro w' ⟨s0, s1, s2, s3, s4, s5⟩;go_simp;with_reducible rfl
             rotate_left
             ·simp only [Act.put, za_, zb_, zc_, i64_w, i32_w];rfl
             refine pA 12 (some 105) ?_ #[Y,Y,Y,Y,Y,Y,Y,Y,Y,Y,Y,Y,Y,Z,Z,Z,Z,Z,Z,Z,Z,Z,Z,Z,Z,Z,Z] rfl rfl HT_ (by kernel_rfl) (fun _ _ _ h => h) (by rfl) ?_ ?_ ?_ ?_;rotate_left
             ·intro w';go_simp;with_reducible rfl
             rotate_left
             ·simp only [Act.put, za_, zb_, zc_, i64_w, i32_w];rfl
             refine tA 13 (some 106) ?_ #[Y,Y,Y,Y,Y,Y,Y,Y,Y,Y,Y,Y,Y,Y,Z,Z,Z,Z,Z,Z,Z,Z,Z,Z,Z,Z,Z] rfl rfl HT_ HW_ (by kernel_rfl) (fun _ _ _ h => h) (by rfl) ?_ hHeld ?_ ?_ ?_;rotate_left
             ·rintro w' ⟨s0, s1, s2, s3, s4, s5⟩;go_simp;with_reducible rfl
             rotate_left
             ·simp only [Act.put, za_, zb_, zc_, i64_w, i32_w];rfl
             refine pA 14 (some 107) ?_ #[Y,Y,Y,Y,Y,Y,Y,Y,Y,Y,Y,Y,Y,Y,Y,Z,Z,Z,Z,Z,Z,Z,Z,Z,Z,Z,Z] rfl rfl HT_ (by kernel_rfl) (fun _ _ _ h => h) (by rfl) ?_ ?_ ?_ ?_;rotate_left
             ·intro w';go_simp;with_reducible rfl
             rotate_left
             ·simp only [Act.put, za_, zb_, zc_, i64_w, i32_w];rfl
             refine pA 15 (some 108) ?_ #[Y,Y,Y,Y,Y,Y,Y,Y,Y,Y,Y,Y,Y,Y,Y,Y,Z,Z,Z,Z,Z,Z,Z,Z,Z,Z,Z] rfl rfl HT_ (by kernel_rfl) (fun _ _ _ h => h) (by rfl) ?_ ?_ ?_ ?_;rotate_left
             ·intro w';go_simp;with_reducible rfl
             rotate_left
             ·simp only [Act.put, za_, zb_, zc_, i64_w, i32_w];rfl
             refine pA 16 (some 109) ?_ #[Y,Y,Y,Y,Y,Y,Y,Y,Y,Y,Y,Y,Y,Y,Y,Y,Y,Z,Z,Z,Z,Z,Z,Z,Z,Z,Z] rfl rfl HT_ (by kernel_rfl) (fun _ _ _ h => h) (by rfl) ?_ ?_ ?_ ?_;rotate_left
             ·intro w';go_simp;with_reducible rfl
             rotate_left
             ·simp only [Act.put, za_, zb_, zc_, i64_w, i32_w];rfl
             refine pure_ (i := 17) (N := some 110) (v := undef) (a' := ?_) #[Y,Y,Y,Y,Y,Y,Y,Y,Y,Y,Y,Y,Y,Y,Y,Y,Y,Y,Z,Z,Z,Z,Z,Z,Z,Z,Z] rfl rfl (any_of HT_.out (by kernel_rfl)) (fun _ _ _ h => h) (Or.inr ⟨by rfl, rfl⟩) ?_ ?_;rotate_left
             ·simp only [Act.put, za_, zb_, zc_, i64_w, i32_w];rfl
             refine pure_ (i := 18) (N := some 111) (v := undef) (a' := ?_) #[Y,Y,Y,Y,Y,Y,Y,Y,Y,Y,Y,Y,Y,Y,Y,Y,Y,Y,Y,Z,Z,Z,Z,Z,Z,Z,Z] rfl rfl (any_of HT_.out (by kernel_rfl)) (fun _ _ _ h => h) (Or.inr ⟨by rfl, rfl⟩) ?_ ?_;rotate_left
             ·simp only [Act.put, za_, zb_, zc_, i64_w, i32_w];rfl
             refine pure_ (i := 19) (N := some 112) (v := undef) (a' := ?_) #[Y,Y,Y,Y,Y,Y,Y,Y,Y,Y,Y,Y,Y,Y,Y,Y,Y,Y,Y,Y,Z,Z,Z,Z,Z,Z,Z] rfl rfl (any_of HT_.out (by kernel_rfl)) (fun _ _ _ h => h) (Or.inr ⟨by rfl, rfl⟩) ?_ ?_;rotate_left
             ·simp only [Act.put, za_, zb_, zc_, i64_w, i32_w];rfl
             refine pure_ (i := 20) (N := some 113) (v := undef) (a' := ?_) #[Y,Y,Y,Y,Y,Y,Y,Y,Y,Y,Y,Y,Y,Y,Y,Y,Y,Y,Y,Y,Y,Z,Z,Z,Z,Z,Z] rfl rfl (any_of HT_.out (by kernel_rfl)) (fun _ _ _ h => h) (Or.inr ⟨by rfl, rfl⟩) ?_ ?_;rotate_left
             ·simp only [Act.put, za_, zb_, zc_, i64_w, i32_w];rfl
             refine pure_ (i := 21) (N := some 114) (v := undef) (a' := ?_) #[Y,Y,Y,Y,Y,Y,Y,Y,Y,Y,Y,Y,Y,Y,Y,Y,Y,Y,Y,Y,Y,Y,Z,Z,Z,Z,Z] rfl rfl (any_of HT_.out (by kernel_rfl)) (fun _ _ _ h => h) (Or.inr ⟨by rfl, rfl⟩) ?_ ?_;rotate_left
             ·simp only [Act.put, za_, zb_, zc_, i64_w, i32_w];rfl
             refine pure_ (i := 22) (N := some 115) (v := undef) (a' := ?_) #[Y,Y,Y,Y,Y,Y,Y,Y,Y,Y,Y,Y,Y,Y,Y,Y,Y,Y,Y,Y,Y,Y,Y,Z,Z,Z,Z] rfl rfl (any_of HT_.out (by kernel_rfl)) (fun _ _ _ h => h) (Or.inr ⟨by rfl, rfl⟩) ?_ ?_;rotate_left
             ·simp only [Act.put, za_, zb_, zc_, i64_w, i32_w];rfl
             refine pure_ (i := 23) (N := some 116) (v := undef) (a' := ?_) #[Y,Y,Y,Y,Y,Y,Y,Y,Y,Y,Y,Y,Y,Y,Y,Y,Y,Y,Y,Y,Y,Y,Y,Y,Z,Z,Z] rfl rfl (any_of HT_.out (by kernel_rfl)) (fun _ _ _ h => h) (Or.inr ⟨by rfl, rfl⟩) ?_ ?_;rotate_left
             ·simp only [Act.put, za_, zb_, zc_, i64_w, i32_w];rfl
             refine pure_ (i := 24) (N := some 117) (v := undef) (a' := ?_) #[Y,Y,Y,Y,Y,Y,Y,Y,Y,Y,Y,Y,Y,Y,Y,Y,Y,Y,Y,Y,Y,Y,Y,Y,Y,Z,Z] rfl rfl (any_of HT_.out (by kernel_rfl)) (fun _ _ _ h => h) (Or.inr ⟨by rfl, rfl⟩) ?_ ?_;rotate_left
             ·simp only [Act.put, za_, zb_, zc_, i64_w, i32_w];rfl
             refine pure_ (i := 25) (N := some 118) (v := undef) (a' := ?_) #[Y,Y,Y,Y,Y,Y,Y,Y,Y,Y,Y,Y,Y,Y,Y,Y,Y,Y,Y,Y,Y,Y,Y,Y,Y,Y,Z] rfl rfl (any_of HT_.out (by kernel_rfl)) (fun _ _ _ h => h) (Or.inr ⟨by rfl, rfl⟩) ?_ ?_;rotate_left
             ·simp only [Act.put, za_, zb_, zc_, i64_w, i32_w];rfl
             refine pA 26 (some 119) ?_ #[Y,Y,Y,Y,Y,Y,Y,Y,Y,Y,Y,Y,Y,Y,Y,Y,Y,Y,Y,Y,Y,Y,Y,Y,Y,Y,Y] rfl rfl HT_ (by kernel_rfl) (fun _ _ _ h => h) (by rfl) ?_ ?_ ?_ ?_;rotate_left
             ·intro w';go_simp;with_reducible rfl
             rotate_left
             ·simp only [Act.put, za_, zb_, zc_, i64_w, i32_w];rfl
             refine done_ (done_of HT_.out (by kernel_rfl)) ?_;try go_wp2
             go_ret;exact ⟨by first | rfl | (simp [e0_, e1_] <;> rfl) | (simp [*, e0_, e1_] <;> rfl), bm HB⟩
            ·rw [if_neg c70] at H;have c70b0 : decide ((rd l0_4 x88_3) < 0) = false := decide_eq_false c70;clear c70;by_cases c72 : (rd l0_4 x88_3) > (wrap64 (a0_1 + 1))
             ·rw [if_pos c72] at H;have c72b0 : decide ((wrap64 (a0_1 + 1)) < (rd l0_4 x88_3)) = true := decide_eq_true c72;clear c72;obtain rfl := Option.some.inj H;have p449 : 0 ≤ (x88_3 : Int) := of_decide_eq_true (by first | (with_reducible assumption) | assumption);have q449 : x88_3 < (l0_3.length : Int) := of_decide_eq_true (by first | (with_reducible assumption) | assumption);obtain ⟨ad449, e449, hx449_0⟩ := Kd.at_int HR0_3.out x88_3 p449 q449;cases e449;replace hx449_0 := (HB.out.cell (World.block_lt_of_cell? w _ hx449_0)).trans hx449_0;replace p449 := eq_true p449;replace q449 := eq_true q449;try go_wp2
              refine ev2 (blk_drew BK440.out) (below_drew1 HB.out) ?_;clear BK440 HB;intro BK440 HB;have p450 : 0 ≤ (x88_3 : Int) := of_decide_eq_true (by first | (with_reducible assumption) | assumption);have q450 : x88_3 < (l0_4.length : Int) := of_decide_eq_true (by first | (with_reducible assumption) | assumption);obtain ⟨ad450, e450, hx450_0⟩ := Kd.at_int HR0_4.out x88_3 p450 q450;have hw450_0 := hx450_0;cases e450;replace hx450_0 := (HB.out.cell (World.block_lt_of_cell? w _ hx450_0)).trans hx450_0;replace p450 := eq_true p450;replace q450 := eq_true q450;have p451 : 0 ≤ (x88_3 : Int) := of_decide_eq_true (by first | (with_reducible assumption) | assumption);have q451 : x88_3 < (l0_4.length : Int) := of_decide_eq_true (by first | (with_reducible assumption) | assumption);obtain ⟨ad451, e451, hx451_0⟩ := Kd.at_int HR0_4.out x88_3 p451 q451;have hw451_0 := hx451_0;obtain rfl : ad450 = ad451 := (by injection e451)
              replace hx451_0 := (HB.out.cell (World.block_lt_of_cell? w _ hx451_0)).trans hx451_0;replace p451 := eq_true p451;replace q451 := eq_true q451;refine start_ (n := 27) (S := fun w' => w'.cell? ⟨gb440, 0, none⟩ = some (.int .i64 a0_0) ∧ w'.cell? ⟨gb440, 1, none⟩ = some (.int .i64 a0_1) ∧ w'.cell? ⟨gb440, 2, none⟩ = some (.slice A0_2 l0_2.length c0_2) ∧ w'.cell? ⟨gb440, 3, none⟩ = some (.slice (some ad449) l0_3.length c0_3) ∧ w'.cell? ⟨gb440, 4, none⟩ = some (.slice (some ad450) l0_4.length c0_4) ∧ w'.cell? (ad450.add (x88_3).toNat) = some (.int .i64 (rd l0_4 x88_3)) ∧ w'.cell? (ad450.add (x88_3).toNat) = some (.int .i64 (rd l0_4 x88_3))) (ds := []) #[Z,Z,Z,Z,Z,Z,Z,Z,Z,Z,Z,Z,Z,Z,Z,Z,Z,Z,Z,Z,Z,Z,Z,Z,Z,Z,Z] (by kernel_rfl) rfl rfl ⟨(blk_cell BK440.out 0).trans rfl, (blk_cell BK440.out 1).trans rfl, (blk_cell BK440.out 2).trans rfl, (blk_cell BK440.out 3).trans rfl, (blk_cell BK440.out 4).trans rfl, ((HB.out.cell (World.block_lt_of_cell? w _ hw450_0)).trans hw450_0), ((HB.out.cell (World.block_lt_of_cell? w _ hw451_0)).trans hw451_0)⟩ (fun hHeld => ?_); refine with_tabW impl_IsChallenge.tab12 impl_IsChallenge.bits12 (fun HT_ HW_ => ?_);generalize wr.drew = w73 at BK440 HB hx450_0 hx451_0 hHeld ⊢
              refine pA 0 (some 93) ?_ #[Y,Z,Z,Z,Z,Z,Z,Z,Z,Z,Z,Z,Z,Z,Z,Z,Z,Z,Z,Z,Z,Z,Z,Z,Z,Z,Z] rfl rfl HT_ (by kernel_rfl) (fun _ _ _ h => h) (by rfl) ?_ ?_ ?_ ?_;rotate_left
              ·intro w';go_simp;with_reducible rfl
              rotate_left
              ·simp only [Act.put, za_, zb_, zc_, i64_w, i32_w];rfl
              refine pA 1 (some 94) ?_ #[Y,Y,Z,Z,Z,Z,Z,Z,Z,Z,Z,Z,Z,Z,Z,Z,Z,Z,Z,Z,Z,Z,Z,Z,Z,Z,Z] rfl rfl HT_ (by kernel_rfl) (fun _ _ _ h => h) (by rfl) ?_ ?_ ?_ ?_;rotate_left
              ·intro w';go_simp;with_reducible rfl
              rotate_left
              ·simp only [Act.put, za_, zb_, zc_, i64_w, i32_w];rfl
              refine pA 2 (some 95) ?_ #[Y,Y,Y,Z,Z,Z,Z,Z,Z,Z,Z,Z,Z,Z,Z,Z,Z,Z,Z,Z,Z,Z,Z,Z,Z,Z,Z] rfl rfl HT_ (by kernel_rfl) (fun _ _ _ h => h) (by rfl) ?_ ?_ ?_ ?_;rotate_left
              ·intro w';go_simp;with_reducible rfl
              rotate_left
              ·simp only [Act.put, za_, zb_, zc_, i64_w, i32_w];rfl
              refine pA 3 (some 96) ?_ #[Y,Y,Y,Y,Z,Z,Z,Z,Z,Z,Z,Z,Z,Z,Z,Z,Z,Z,Z,Z,Z,Z,Z,Z,Z,Z,Z] rfl rfl HT_ (by kernel_rfl) (fun _ _ _ h => h) (by rfl) ?_ ?_ ?_ ?_;rotate_left
              ·intro w';go_simp;with_reducible rfl
              rotate_left
              ·simp only [Act.put, za_, zb_, zc_, i64_w, i32_w];rfl
              refine pA 4 (some 97) ?_ #[Y,Y,Y,Y,Y,Z,Z,Z,Z,Z,Z,Z,Z,Z,Z,Z,Z,Z,Z,Z,Z,Z,Z,Z,Z,Z,Z] rfl rfl HT_ (by kernel_rfl) (fun _ _ _ h => h) (by rfl) ?_ ?_ ?_ ?_;rotate_left
              ·intro w';go_simp;with_reducible rfl
              rotate_left
              ·simp only [Act.put, za_, zb_, zc_, i64_w, i32_w];rfl
              refine tA 5 (some 98) ?_ #[Y,Y,Y,Y,Y,Y,Z,Z,Z,Z,Z,Z,Z,Z,Z,Z,Z,Z,Z,Z,Z,Z,Z,Z,Z,Z,Z] rfl rfl HT_ HW_ (by kernel_rfl) (fun _ _ _ h => h) (by rfl) ?_ hHeld ?_ ?_ ?_;rotate_left
              ·rintro w' ⟨s0, s1, s2, s3, s4, s5, s6⟩;go_simp;with_reducible rfl
              rotate_left
              ·simp only [Act.put, za_, zb_, zc_, i64_w, i32_w];rfl
              refine pA 6 (some 99) ?_ #[Y,Y,Y,Y,Y,Y,Y,Z,Z,Z,Z,Z,Z,Z,Z,Z,Z,Z,Z,Z,Z,Z,Z,Z,Z,Z,Z] rfl rfl HT_ (by kernel_rfl) (fun _ _ _ h => h) (by rfl) ?_ ?_ ?_ ?_;rotate_left
              ·intro w';go_simp;with_reducible rfl
              rotate_left
              ·simp only [Act.put, za_, zb_, zc_, i64_w, i32_w];rfl
              refine pA 7 (some 100) ?_ #[Y,Y,Y,Y,Y,Y,Y,Y,Z,Z,Z,Z,Z,Z,Z,Z,Z,Z,Z,Z,Z,Z,Z,Z,Z,Z,Z] rfl rfl HT_ (by kernel_rfl) (fun _ _ _ h => h) (by rfl) ?_ ?_ ?_ ?_;rotate_left
              ·intro w';go_simp;with_reducible rfl
              rotate_left
              ·simp only [Act.put, za_, zb_, zc_, i64_w, i32_w];rfl
              refine pA 8 (some 101) ?_ #[Y,Y,Y,Y,Y,Y,Y,Y,Y,Z,Z,Z,Z,Z,Z,Z,Z,Z,Z,Z,Z,Z,Z,Z,Z,Z,Z] rfl rfl HT_ (by kernel_rfl) (fun _ _ _ h => h) (by rfl) ?_ ?_ ?_ ?_;rotate_left
              ·intro w';go_simp;with_reducible rfl
              rotate_left
              ·simp only [Act.put, za_, zb_, zc_, i64_w, i32_w];rfl
              refine pA 9 (some 102) ?_ #[Y,Y,Y,Y,Y,Y,Y,Y,Y,Y,Z,Z,Z,Z,Z,Z,Z,Z,Z,Z,Z,Z,Z,Z,Z,Z,Z] rfl rfl HT_ (by kernel_rfl) (fun _ _ _ h => h) (by rfl) ?_ ?_ ?_ ?_;rotate_left
              ·intro w';go_simp;with_reducible rfl
              rotate_left
              ·simp only [Act.put, za_, zb_, zc_, i64_w, i32_w];rfl
              refine pA 11 (some 104) ?_ #[Y,Y,Y,Y,Y,Y,Y,Y,Y,Y,Z,Y,Z,Z,Z,Z,Z,Z,Z,Z,Z,Z,Z,Z,Z,Z,Z] rfl rfl HT_ (by kernel_rfl) (fun _ _ _ h => h) (by rfl) ?_ ?_ ?_ ?_;rotate_left
              ·intro w';go_simp;with_reducible rfl
              rotate_left
              ·simp only [Act.put, za_, zb_, zc_, i64_w, i32_w];rfl
              refine tA 10 (some 103) ?_ #[Y,Y,Y,Y,Y,Y,Y,Y,Y,Y,Y,Y,Z,Z,Z,Z,Z,Z,Z,Z,Z,Z,Z,Z,Z,Z,Z] rfl rfl HT_ HW_ (by kernel_rfl) (fun _ _ _ h => h) (by rfl) ?_ hHeld ?_ ?_ ?_;rotate_left
              ·rintro w' ⟨s0, s1, s2, s3, s4, s5, s6⟩;go_simp;with_reducible rfl
              rotate_left
              ·simp only [Act.put, za_, zb_, zc_, i64_w, i32_w];rfl
              refine pA 12 (some 105) ?_ #[Y,Y,Y,Y,Y,Y,Y,Y,Y,Y,Y,Y,Y,Z,Z,Z,Z,Z,Z,Z,Z,Z,Z,Z,Z,Z,Z] rfl rfl HT_ (by kernel_rfl) (fun _ _ _ h => h) (by rfl) ?_ ?_ ?_ ?_;rotate_left
              ·intro w';go_simp;with_reducible rfl
              rotate_left
              ·simp only [Act.put, za_, zb_, zc_, i64_w, i32_w];rfl
              refine tA 13 (some 106) ?_ #[Y,Y,Y,Y,Y,Y,Y,Y,Y,Y,Y,Y,Y,Y,Z,Z,Z,Z,Z,Z,Z,Z,Z,Z,Z,Z,Z] rfl rfl HT_ HW_ (by kernel_rfl) (fun _ _ _ h => h) (by rfl) ?_ hHeld ?_ ?_ ?_;rotate_left
              ·rintro w' ⟨s0, s1, s2, s3, s4, s5, s6⟩;go_simp;with_reducible rfl
              rotate_left
              ·simp only [Act.put, za_, zb_, zc_, i64_w, i32_w];rfl
              refine pA 14 (some 107) ?_ #[Y,Y,Y,Y,Y,Y,Y,Y,Y,Y,Y,Y,Y,Y,Y,Z,Z,Z,Z,Z,Z,Z,Z,Z,Z,Z,Z] rfl rfl HT_ (by kernel_rfl) (fun _ _ _ h => h) (by rfl) ?_ ?_ ?_ ?_;rotate_left
              ·intro w';go_simp;with_reducible rfl
              rotate_left
              ·simp only [Act.put, za_, zb_, zc_, i64_w, i32_w];rfl
              refine pA 15 (some 108) ?_ #[Y,Y,Y,Y,Y,Y,Y,Y,Y,Y,Y,Y,Y,Y,Y,Y,Z,Z,Z,Z,Z,Z,Z,Z,Z,Z,Z] rfl rfl HT_ (by kernel_rfl) (fun _ _ _ h => h) (by rfl) ?_ ?_ ?_ ?_;rotate_left
              ·intro w';go_simp;with_reducible rfl
              rotate_left
              ·simp only [Act.put, za_, zb_, zc_, i64_w, i32_w];rfl
              refine pA 16 (some 109) ?_ #[Y,Y,Y,Y,Y,Y,Y,Y,Y,Y,Y,Y,Y,Y,Y,Y,Y,Z,Z,Z,Z,Z,Z,Z,Z,Z,Z] rfl rfl HT_ (by kernel_rfl) (fun _ _ _ h => h) (by rfl) ?_ ?_ ?_ ?_;rotate_left
              ·intro w';go_simp;with_reducible rfl
              rotate_left
              ·simp only [Act.put, za_, zb_, zc_, i64_w, i32_w];rfl
              refine pA 17 (some 110) ?_ #[Y,Y,Y,Y,Y,Y,Y,Y,Y,Y,Y,Y,Y,Y,Y,Y,Y,Y,Z,Z,Z,Z,Z,Z,Z,Z,Z] rfl rfl HT_ (by kernel_rfl) (fun _ _ _ h => h) (by rfl) ?_ ?_ ?_ ?_;rotate_left
              ·intro w';go_simp;with_reducible rfl
              rotate_left
              ·simp only [Act.put, za_, zb_, zc_, i64_w, i32_w];rfl
              refine pA 19 (some 112) ?_ #[Y,Y,Y,Y,Y,Y,Y,Y,Y,Y,Y,Y,Y,Y,Y,Y,Y,Y,Z,Y,Z,Z,Z,Z,Z,Z,Z] rfl rfl HT_ (by kernel_rfl) (fun _ _ _ h => h) (by rfl) ?_ ?_ ?_ ?_;rotate_left
              ·intro w';go_simp;with_reducible rfl
              rotate_left
              ·simp only [Act.put, za_, zb_, zc_, i64_w, i32_w];rfl
              refine pA 22 (some 115) ?_ #[Y,Y,Y,Y,Y,Y,Y,Y,Y,Y,Y,Y,Y,Y,Y,Y,Y,Y,Z,Y,Z,Z,Y,Z,Z,Z,Z] rfl rfl HT_ (by kernel_rfl) (fun _ _ _ h => h) (by rfl) ?_ ?_ ?_ ?_;rotate_left
              ·intro w';go_simp;with_reducible rfl
              rotate_left
              ·simp only [Act.put, za_, zb_, zc_, i64_w, i32_w];rfl
              refine tA 18 (some 111) ?_ #[Y,Y,Y,Y,Y,Y,Y,Y,Y,Y,Y,Y,Y,Y,Y,Y,Y,Y,Y,Y,Z,Z,Y,Z,Z,Z,Z] rfl rfl HT_ HW_ (by kernel_rfl) (fun _ _ _ h => h) (by rfl) ?_ hHeld ?_ ?_ ?_;rotate_left
              ·rintro w' ⟨s0, s1, s2, s3, s4, s5, s6⟩;go_simp;with_reducible rfl
              rotate_left
              ·simp only [Act.put, za_, zb_, zc_, i64_w, i32_w];rfl
              refine pA 20 (some 113) ?_ #[Y,Y,Y,Y,Y,Y,Y,Y,Y,Y,Y,Y,Y,Y,Y,Y,Y,Y,Y,Y,Y,Z,Y,Z,Z,Z,Z] rfl rfl HT_ (by kernel_rfl) (fun _ _ _ h => h) (by rfl) ?_ ?_ ?_ ?_;rotate_left
              ·intro w';go_simp;with_reducible rfl
              rotate_left
              ·simp only [Act.put, za_, zb_, zc_, i64_w, i32_w];rfl
              refine tA 21 (some 114) ?_ #[Y,Y,Y,Y,Y,Y,Y,Y,Y,Y,Y,Y,Y,Y,Y,Y,Y,Y,Y,Y,Y,Y,Y,Z,Z,Z,Z] rfl rfl HT_ HW_ (by kernel_rfl) (fun _ _ _ h => h) (by rfl) ?_ hHeld ?_ ?_ ?_;rotate_left
              ·rintro w' ⟨s0, s1, s2, s3, s4, s5, s6⟩;go_simp;with_reducible rfl
              rotate_left
              ·simp only [Act.put, za_, zb_, zc_, i64_w, i32_w];rfl
              refine tA 23 (some 116) ?_ #[Y,Y,Y,Y,Y,Y,Y,Y,Y,Y,Y,Y,Y,Y,Y,Y,Y,Y,Y,Y,Y,Y,Y,Y,Z,Z,Z] rfl rfl HT_ HW_ (by kernel_rfl) (fun _ _ _ h => h) (by rfl) ?_ hHeld ?_ ?_ ?_;rotate_left
              ·rintro w' ⟨s0, s1, s2, s3, s4, s5, s6⟩;go_simp;with_reducible rfl
              rotate_left
              ·simp only [Act.put, za_, zb_, zc_, i64_w, i32_w];rfl
              refine pA 24 (some 117) ?_ #[Y,Y,Y,Y,Y,Y,Y,Y,Y,Y,Y,Y,Y,Y,Y,Y,Y,Y,Y,Y,Y,Y,Y,Y,Y,Z,Z] rfl rfl HT_ (by kernel_rfl) (fun _ _ _ h => h) (by rfl) ?_ ?_ ?_ ?_;rotate_left
              ·intro w';go_simp;with_reducible rfl
              rotate_left
              ·simp only [Act.put, za_, zb_, zc_, i64_w, i32_w];rfl
              refine pA 25 (some 118) ?_ #[Y,Y,Y,Y,Y,Y,Y,Y,Y,Y,Y,Y,Y,Y,Y,Y,Y,Y,Y,Y,Y,Y,Y,Y,Y,Y,Z] rfl rfl HT_ (by kernel_rfl) (fun _ _ _ h => h) (by rfl) ?_ ?_ ?_ ?_;rotate_left
              ·intro w';go_simp;with_reducible rfl
              rotate_left
              ·simp only [Act.put, za_, zb_, zc_, i64_w, i32_w];rfl
              refine pA 26 (some 119) ?_ #[Y,Y,Y,Y,Y,Y,Y,Y,Y,Y,Y,Y,Y,Y,Y,Y,Y,Y,Y,Y,Y,Y,Y,Y,Y,Y,Y] rfl rfl HT_ (by kernel_rfl) (fun _ _ _ h => h) (by rfl) ?_ ?_ ?_ ?_;rotate_left
              ·intro w';go_simp;with_reducible rfl
              rotate_left
              ·simp only [Act.put, za_, zb_, zc_, i64_w, i32_w];rfl
              refine done_ (done_of HT_.out (by kernel_rfl)) ?_;try go_wp2
              go_ret;exact ⟨by first | rfl | (simp [e0_, e1_] <;> rfl) | (simp [*, e0_, e1_] <;> rfl), bm HB⟩
             ·rw [if_neg c72] at H;have c72b0 : decide ((wrap64 (a0_1 + 1)) < (rd l0_4 x88_3)) = false := decide_eq_false c72;clear c72;have H' := Aside0.mk H;clear H;have p449 : 0 ≤ (x88_3 : Int) := of_decide_eq_true (by first | (with_reducible assumption) | assumption);have q449 : x88_3 < (l0_3.length : Int) := of_decide_eq_true (by first | (with_reducible assumption) | assumption);obtain ⟨ad449, e449, hx449_0⟩ := Kd.at_int HR0_3.out x88_3 p449 q449;cases e449;replace hx449_0 := (HB.out.cell (World.block_lt_of_cell? w _ hx449_0)).trans hx449_0;replace p449 := eq_true p449;replace q449 := eq_true q449;try go_wp2
              refine ev2 (blk_drew BK440.out) (below_drew1 HB.out) ?_;clear BK440 HB;intro BK440 HB;have p450 : 0 ≤ (x88_3 : Int) := of_decide_eq_true (by first | (with_reducible assumption) | assumption);have q450 : x88_3 < (l0_4.length : Int) := of_decide_eq_true (by first | (with_reducible assumption) | assumption);obtain ⟨ad450, e450, hx450_0⟩ := Kd.at_int HR0_4.out x88_3 p450 q450;have hw450_0 := hx450_0;cases e450;replace hx450_0 := (HB.out.cell (World.block_lt_of_cell? w _ hx450_0)).trans hx450_0;replace p450 := eq_true p450;replace q450 := eq_true q450;have p451 : 0 ≤ (x88_3 : Int) := of_decide_eq_true (by first | (with_reducible assumption) | assumption);have q451 : x88_3 < (l0_4.length : Int) := of_decide_eq_true (by first | (with_reducible assumption) | assumption);obtain ⟨ad451, e451, hx451_0⟩ := Kd.at_int HR0_4.out x88_3 p451 q451;have hw451_0 := hx451_0;obtain rfl : ad450 = ad451 := (by injection e451)
              replace hx451_0 := (HB.out.cell (World.block_lt_of_cell? w _ hx451_0)).trans hx451_0;replace p451 := eq_true p451;replace q451 := eq_true q451;refine start_ (n := 27) (S := fun w' => w'.cell? ⟨gb440, 0, none⟩ = some (.int .i64 a0_0) ∧ w'.cell? ⟨gb440, 1, none⟩ = some (.int .i64 a0_1) ∧ w'.cell? ⟨gb440, 2, none⟩ = some (.slice A0_2 l0_2.length c0_2) ∧ w'.cell? ⟨gb440, 3, none⟩ = some (.slice (some ad449) l0_3.length c0_3) ∧ w'.cell? ⟨gb440, 4, none⟩ = some (.slice (some ad450) l0_4.length c0_4) ∧ w'.cell? (ad450.add (x88_3).toNat) = some (.int .i64 (rd l0_4 x88_3)) ∧ w'.cell? (ad450.add (x88_3).toNat) = some (.int .i64 (rd l0_4 x88_3))) (ds := []) #[Z,Z,Z,Z,Z,Z,Z,Z,Z,Z,Z,Z,Z,Z,Z,Z,Z,Z,Z,Z,Z,Z,Z,Z,Z,Z,Z] (by kernel_rfl) rfl rfl ⟨(blk_cell BK440.out 0).trans rfl, (blk_cell BK440.out 1).trans rfl, (blk_cell BK440.out 2).trans rfl, (blk_cell BK440.out 3).trans rfl, (blk_cell BK440.out 4).trans rfl, ((HB.out.cell (World.block_lt_of_cell? w _ hw450_0)).trans hw450_0), ((HB.out.cell (World.block_lt_of_cell? w _ hw451_0)).trans hw451_0)⟩ (fun hHeld => ?_); refine with_tabW impl_IsChallenge.tab12 impl_IsChallenge.bits12 (fun HT_ HW_ => ?_);generalize wr.drew = w74 at BK440 HB hx450_0 hx451_0 hHeld ⊢
              refine pA 0 (some 93) ?_ #[Y,Z,Z,Z,Z,Z,Z,Z,Z,Z,Z,Z,Z,Z,Z,Z,Z,Z,Z,Z,Z,Z,Z,Z,Z,Z,Z] rfl rfl HT_ (by kernel_rfl) (fun _ _ _ h => h) (by rfl) ?_ ?_ ?_ ?_;rotate_left
              ·intro w';go_simp;with_reducible rfl
              rotate_left
              ·simp only [Act.put, za_, zb_, zc_, i64_w, i32_w];rfl
              refine pA 1 (some 94) ?_ #[Y,Y,Z,Z,Z,Z,Z,Z,Z,Z,Z,Z,Z,Z,Z,Z,Z,Z,Z,Z,Z,Z,Z,Z,Z,Z,Z] rfl rfl HT_ (by kernel_rfl) (fun _ _ _ h => h) (by rfl) ?_ ?_ ?_ ?_;rotate_left
              ·intro w';go_simp;with_reducible rfl
              rotate_left
              ·simp only [Act.put, za_, zb_, zc_, i64_w, i32_w];rfl
              refine pA 2 (some 95) ?_ #[Y,Y,Y,Z,Z,Z,Z,Z,Z,Z,Z,Z,Z,Z,Z,Z,Z,Z,Z,Z,Z,Z,Z,Z,Z,Z,Z] rfl rfl HT_ (by kernel_rfl) (fun _ _ _ h => h) (by rfl) ?_ ?_ ?_ ?_;rotate_left
              ·intro w';go_simp;with_reducible rfl
              rotate_left
              ·simp only [Act.put, za_, zb_, zc_, i64_w, i32_w];rfl
              refine pA 3 (some 96) ?_ #[Y,Y,Y,Y,Z,Z,Z,Z,Z,Z,Z,Z,Z,Z,Z,Z,Z,Z,Z,Z,Z,Z,Z,Z,Z,Z,Z] rfl rfl HT_ (by kernel_rfl) (fun _ _ _ h => h) (by rfl) ?_ ?_ ?_ ?_;rotate_left
              ·intro w';go_simp;with_reducible rfl
              rotate_left
              ·simp only [Act.put, za_, zb_, zc_, i64_w, i32_w];rfl
              refine pA 4 (some 97) ?_ #[Y,Y,Y,Y,Y,Z,Z,Z,Z,Z,Z,Z,Z,Z,Z,Z,Z,Z,Z,Z,Z,Z,Z,Z,Z,Z,Z] rfl rfl HT_ (by kernel_rfl) (fun _ _ _ h => h) (by rfl) ?_ ?_ ?_ ?_;rotate_left
              ·intro w';go_simp;with_reducible rfl
              rotate_left
              ·simp only [Act.put, za_, zb_, zc_, i64_w, i32_w];rfl
              refine tA 5 (some 98) ?_ #[Y,Y,Y,Y,Y,Y,Z,Z,Z,Z,Z,Z,Z,Z,Z,Z,Z,Z,Z,Z,Z,Z,Z,Z,Z,Z,Z] rfl rfl HT_ HW_ (by kernel_rfl) (fun _ _ _ h => h) (by rfl) ?_ hHeld ?_ ?_ ?_;rotate_left
              ·rintro w' ⟨s0, s1, s2, s3, s4, s5, s6⟩;go_simp;with_reducible rfl
              rotate_left
              ·simp only [Act.put, za_, zb_, zc_, i64_w, i32_w];rfl
              refine pA 6 (some 99) ?_ #[Y,Y,Y,Y,Y,Y,Y,Z,Z,Z,Z,Z,Z,Z,Z,Z,Z,Z,Z,Z,Z,Z,Z,Z,Z,Z,Z] rfl rfl HT_ (by kernel_rfl) (fun _ _ _ h => h) (by rfl) ?_ ?_ ?_ ?_;rotate_left
              ·intro w';go_simp;with_reducible rfl
              rotate_left
              ·simp only [Act.put, za_, zb_, zc_, i64_w, i32_w];rfl
              refine pA 7 (some 100) ?_ #[Y,Y,Y,Y,Y,Y,Y,Y,Z,Z,Z,Z,Z,Z,Z,Z,Z,Z,Z,Z,Z,Z,Z,Z,Z,Z,Z] rfl rfl HT_ (by kernel_rfl) (fun _ _ _ h => h) (by rfl) ?_ ?_ ?_ ?_;rotate_left
              ·intro w';go_simp;with_reducible rfl
              rotate_left
              ·simp only [Act.put, za_, zb_, zc_, i64_w, i32_w];rfl
              refine pA 8 (some 101) ?_ #[Y,Y,Y,Y,Y,Y,Y,Y,Y,Z,Z,Z,Z,Z,Z,Z,Z,Z,Z,Z,Z,Z,Z,Z,Z,Z,Z] rfl rfl HT_ (by kernel_rfl) (fun _ _ _ h => h) (by rfl) ?_ ?_ ?_ ?_;rotate_left
              ·intro w';go_simp;with_reducible rfl
              rotate_left
              ·simp only [Act.put, za_, zb_, zc_, i64_w, i32_w];rfl
              refine pA 9 (some 102) ?_ #[Y,Y,Y,Y,Y,Y,Y,Y,Y,Y,Z,Z,Z,Z,Z,Z,Z,Z,Z,Z,Z,Z,Z,Z,Z,Z,Z] rfl rfl HT_ (by kernel_rfl) (fun _ _ _ h => h) (by rfl) ?_ ?_ ?_ ?_;rotate_left
              ·intro w';go_simp;with_reducible rfl
              rotate_left
              ·simp only [Act.put, za_, zb_, zc_, i64_w, i32_w];rfl
              refine pA 11 (some 104) ?_ #[Y,Y,Y,Y,Y,Y,Y,Y,Y,Y,Z,Y,Z,Z,Z,Z,Z,Z,Z,Z,Z,Z,Z,Z,Z,Z,Z] rfl rfl HT_ (by kernel_rfl) (fun _ _ _ h => h) (by rfl) ?_ ?_ ?_ ?_;rotate_left
              ·intro w';go_simp;with_reducible rfl
              rotate_left
              ·simp only [Act.put, za_, zb_, zc_, i64_w, i32_w];rfl
              refine tA 10 (some 103) ?_ #[Y,Y,Y,Y,Y,Y,Y,Y,Y,Y,Y,Y,Z,Z,Z,Z,Z,Z,Z,Z,Z,Z,Z,Z,Z,Z,Z] rfl rfl HT_ HW_ (by kernel_rfl) (fun _ _ _ h => h) (by rfl) ?_ hHeld ?_ ?_ ?_;rotate_left
              ·rintro w' ⟨s0, s1, s2, s3, s4, s5, s6⟩;go_simp;with_reducible rfl
              rotate_left
              ·simp only [Act.put, za_, zb_, zc_, i64_w, i32_w];rfl
              refine pA 12 (some 105) ?_ #[Y,Y,Y,Y,Y,Y,Y,Y,Y,Y,Y,Y,Y,Z,Z,Z,Z,Z,Z,Z,Z,Z,Z,Z,Z,Z,Z] rfl rfl HT_ (by kernel_rfl) (fun _ _ _ h => h) (by rfl) ?_ ?_ ?_ ?_;rotate_left
              ·intro w';go_simp;with_reducible rfl
              rotate_left
              ·simp only [Act.put, za_, zb_, zc_, i64_w, i32_w];rfl
              refine tA 13 (some 106) ?_ #[Y,Y,Y,Y,Y,Y,Y,Y,Y,Y,Y,Y,Y,Y,Z,Z,Z,Z,Z,Z,Z,Z,Z,Z,Z,Z,Z] rfl rfl HT_ HW_ (by kernel_rfl) (fun _ _ _ h => h) (by rfl) ?_ hHeld ?_ ?_ ?_;rotate_left
              ·rintro w' ⟨s0, s1, s2, s3, s4, s5, s6⟩;go_simp;with_reducible rfl
              rotate_left
              ·simp only [Act.put, za_, zb_, zc_, i64_w, i32_w];rfl
              refine pA 14 (some 107) ?_ #[Y,Y,Y,Y,Y,Y,Y,Y,Y,Y,Y,Y,Y,Y,Y,Z,Z,Z,Z,Z,Z,Z,Z,Z,Z,Z,Z] rfl rfl HT_ (by kernel_rfl) (fun _ _ _ h => h) (by rfl) ?_ ?_ ?_ ?_;rotate_left
              ·intro w';go_simp;with_reducible rfl
              rotate_left
              ·simp only [Act.put, za_, zb_, zc_, i64_w, i32_w];rfl
              refine pA 15 (some 108) ?_ #[Y,Y,Y,Y,Y,Y,Y,Y,Y,Y,Y,Y,Y,Y,Y,Y,Z,Z,Z,Z,Z,Z,Z,Z,Z,Z,Z] rfl rfl HT_ (by kernel_rfl) (fun _ _ _ h => h) (by rfl) ?_ ?_ ?_ ?_;rotate_left
              ·intro w';go_simp;with_reducible rfl
              rotate_left
              ·simp only [Act.put, za_, zb_, zc_, i64_w, i32_w];rfl
              refine pA 16 (some 109) ?_ #[Y,Y,Y,Y,Y,Y,Y,Y,Y,Y,Y,Y,Y,Y,Y,Y,Y,Z,Z,Z,Z,Z,Z,Z,Z,Z,Z] rfl rfl HT_ (by kernel_rfl) (fun _ _ _ h => h) (by rfl) ?_ ?_ ?_ ?_;rotate_left
              ·intro w';go_simp;with_reducible rfl
              rotate_left
              ·simp only [Act.put, za_, zb_, zc_, i64_w, i32_w];rfl
              refine pA 17 (some 110) ?_ #[Y,Y,Y,Y,Y,Y,Y,Y,Y,Y,Y,Y,Y,Y,Y,Y,Y,Y,Z,Z,Z,Z,Z,Z,Z,Z,Z] rfl rfl HT_ (by kernel_rfl) (fun _ _ _ h => h) (by rfl) ?_ ?_ ?_ ?_;rotate_left
              ·intro w';go_simp;with_reducible rfl
              rotate_left
              ·simp only [Act.put, za_, zb_, zc_, i64_w, i32_w];rfl
              refine pA 19 (some 112) ?_ #[Y,Y,Y,Y,Y,Y,Y,Y,Y,Y,Y,Y,Y,Y,Y,Y,Y,Y,Z,Y,Z,Z,Z,Z,Z,Z,Z] rfl rfl HT_ (by kernel_rfl) (fun _ _ _ h => h) (by rfl) ?_ ?_ ?_ ?_;rotate_left
              ·intro w';go_simp;with_reducible rfl
              rotate_left
              ·simp only [Act.put, za_, zb_, zc_, i64_w, i32_w];rfl
              refine pA 22 (some 115) ?_ #[Y,Y,Y,Y,Y,Y,Y,Y,Y,Y,Y,Y,Y,Y,Y,Y,Y,Y,Z,Y,Z,Z,Y,Z,Z,Z,Z] rfl rfl HT_ (by kernel_rfl) (fun _ _ _ h => h) (by rfl) ?_ ?_ ?_ ?_;rotate_left
              ·intro w';go_simp;with_reducible rfl
              rotate_left
              ·simp only [Act.put, za_, zb_, zc_, i64_w, i32_w];rfl
              refine tA 18 (some 111) ?_ #[Y,Y,Y,Y,Y,Y,Y,Y,Y,Y,Y,Y,Y,Y,Y,Y,Y,Y,Y,Y,Z,Z,Y,Z,Z,Z,Z] rfl rfl HT_ HW_ (by kernel_rfl) (fun _ _ _ h => h) (by rfl) ?_ hHeld ?_ ?_ ?_;rotate_left
              ·rintro w' ⟨s0, s1, s2, s3, s4, s5, s6⟩;go_simp;with_reducible rfl
              rotate_left
              ·simp only [Act.put, za_, zb_, zc_, i64_w, i32_w];rfl
              refine pA 20 (some 113) ?_ #[Y,Y,Y,Y,Y,Y,Y,Y,Y,Y,Y,Y,Y,Y,Y,Y,Y,Y,Y,Y,Y,Z,Y,Z,Z,Z,Z] rfl rfl HT_ (by kernel_rfl) (fun _ _ _ h => h) (by rfl) ?_ ?_ ?_ ?_;rotate_left
              ·intro w';go_simp;with_reducible rfl
              rotate_left
              ·simp only [Act.put, za_, zb_, zc_, i64_w, i32_w];rfl
              refine tA 21 (some 114) ?_ #[Y,Y,Y,Y,Y,Y,Y,Y,Y,Y,Y,Y,Y,Y,Y,Y,Y,Y,Y,Y,Y,Y,Y,Z,Z,Z,Z] rfl rfl HT_ HW_ (by kernel_rfl) (fun _ _ _ h => h) (by rfl) ?_ hHeld ?_ ?_ ?_;rotate_left
              ·rintro w' ⟨s0, s1, s2, s3, s4, s5, s6⟩;go_simp;with_reducible rfl
              rotate_left
              ·simp only [Act.put, za_, zb_, zc_, i64_w, i32_w];rfl
              refine tA 23 (some 116) ?_ #[Y,Y,Y,Y,Y,Y,Y,Y,Y,Y,Y,Y,Y,Y,Y,Y,Y,Y,Y,Y,Y,Y,Y,Y,Z,Z,Z] rfl rfl HT_ HW_ (by kernel_rfl) (fun _ _ _ h => h) (by rfl) ?_ hHeld ?_ ?_ ?_;rotate_left
              ·rintro w' ⟨s0, s1, s2, s3, s4, s5, s6⟩;go_simp;with_reducible rfl
              rotate_left
              ·simp only [Act.put, za_, zb_, zc_, i64_w, i32_w];rfl
              refine pA 24 (some 117) ?_ #[Y,Y,Y,Y,Y,Y,Y,Y,Y,Y,Y,Y,Y,Y,Y,Y,Y,Y,Y,Y,Y,Y,Y,Y,Y,Z,Z] rfl rfl HT_ (by kernel_rfl) (fun _ _ _ h => h) (by rfl) ?_ ?_ ?_ ?_;rotate_left
              ·intro w';go_simp;with_reducible rfl
              rotate_left
              ·simp only [Act.put, za_, zb_, zc_, i64_w, i32_w];rfl
              refine pA 25 (some 118) ?_ #[Y,Y,Y,Y,Y,Y,Y,Y,Y,Y,Y,Y,Y,Y,Y,Y,Y,Y,Y,Y,Y,Y,Y,Y,Y,Y,Z] rfl rfl HT_ (by kernel_rfl) (fun _ _ _ h => h) (by rfl) ?_ ?_ ?_ ?_;rotate_left
              ·intro w';go_simp;with_reducible rfl
              rotate_left
              ·simp only [Act.put, za_, zb_, zc_, i64_w, i32_w];rfl
              refine pA 26 (some 119) ?_ #[Y,Y,Y,Y,Y,Y,Y,Y,Y,Y,Y,Y,Y,Y,Y,Y,Y,Y,Y,Y,Y,Y,Y,Y,Y,Y,Y] rfl rfl HT_ (by kernel_rfl) (fun _ _ _ h => h) (by rfl) ?_ ?_ ?_ ?_;rotate_left
              ·intro w';go_simp;with_reducible rfl
              rotate_left
              ·simp only [Act.put, za_, zb_, zc_, i64_w, i32_w];rfl
              refine done_ (done_of HT_.out (by kernel_rfl)) ?_;try go_wp2
              go_roundg k3
              case measure => have := HJ1.out; have := HK2.out; have := HK3.out; omega
              case rel => exact ⟨(wrap64 (x88_3 + 1)), (by first | rfl | (simp; done) | (simp [*]; done)), H', ⟨by have := HJ1.out; have := HK2.out; have := HK3.out; omega⟩, ⟨km_ BK440⟩, ⟨bm HB⟩⟩
         ·rw [if_neg c62] at H;have c62b0 : decide (x88_3 < (l0_3.length : Int)) = false := decide_eq_false c62;clear c62;have H' := Aside0.mk H;clear H;go_wp2;go_loopg [7, 8] k3 (fun kq v7 v8 w' => ∃ (x7_4 : Int) (x8_4 : Int), v7 = .int .i64 x7_4 ∧ v8 = .int .i64 x8_4 ∧ Aside0 (impl_IsChallenge.l2 kq x7_4 x8_4 a0_0 a0_1 l0_2 l0_3 l0_4 = some r) ∧ Aside0 (kq ≤ k3) ∧ Aside0 (w'.heap[gb440]? = some (.cells #[.int .i64 a0_0, .int .i64 a0_1, (.slice A0_2 l0_2.length c0_2), (.slice A0_3 l0_3.length c0_3), (.slice A0_4 l0_4.length c0_4)] 66 (0, 0))) ∧ Aside0 (Below w.heap.size w w'))
          case atStart => exact ⟨(1), (0), (by first | rfl | (simp; done) | (simp [*]; done)), (by first | rfl | (simp; done) | (simp [*]; done)), H', ⟨Nat.le_refl _⟩, ⟨km_ BK440⟩, ⟨bm HB⟩⟩
          case round =>
           clear H';(try clear p2);(try clear c6);(try clear c62);(try clear c62b0);obtain ⟨x7_4, x8_4, rfl, rfl, HA, HK4, BK440, HB⟩ := hrel;cases gk with
           | zero => exact absurd HA.out (by simp [impl_IsChallenge.l2])
           | succ k4 =>
            have H := HA.out;clear HA;simp only [impl_IsChallenge.l2] at H;by_cases c75 : x8_4 < (wrap64 (a0_0 * a0_1))
            ·rw [if_pos c75] at H;have c75b0 : decide (x8_4 < (wrap64 (a0_0 * a0_1))) = true := decide_eq_true c75;clear c75;by_cases c76 : (wrap64 (x7_4 * (wrap64 ((l0_2.length : Int) + 1)))) > 7000
             ·rw [if_pos c76] at H;have c76b0 : decide (7000 < (wrap64 (x7_4 * (wrap64 ((l0_2.length : Int) + 1))))) = true := decide_eq_true c76;clear c76;obtain rfl := Option.some.inj H;obtain ⟨hcz77_0, hcz77_1, hcz77_2, hcz77_3, hcz77_4, hfz77_0, hfz77_1, hfz77_2, hfz77_3, hfz77_4⟩ := bt5 BK440;go_wp2;go_ret;exact ⟨by first | rfl | (simp [e0_, e1_] <;> rfl) | (simp [*, e0_, e1_] <;> rfl), bm HB⟩
             ·rw [if_neg c76] at H;have c76b0 : decide (7000 < (wrap64 (x7_4 * (wrap64 ((l0_2.length : Int) + 1))))) = false := decide_eq_false c76;clear c76;have H' := Aside0.mk H;clear H;obtain ⟨hcz78_0, hcz78_1, hcz78_2, hcz78_3, hcz78_4, hfz78_0, hfz78_1, hfz78_2, hfz78_3, hfz78_4⟩ := bt5 BK440;go_wp2;go_roundg k4
              case measure => have := HJ1.out; have := HK2.out; have := HK3.out; have := HK4.out; omega
              case rel => exact ⟨(wrap64 (x7_4 * (wrap64 ((l0_2.length : Int) + 1)))), (wrap64 (x8_4 + 1)), (by first | rfl | (simp; done) | (simp [*]; done)), (by first | rfl | (simp; done) | (simp [*]; done)), H', ⟨by have := HJ1.out; have := HK2.out; have := HK3.out; have := HK4.out; omega⟩, ⟨km_ BK440⟩, ⟨bm HB⟩⟩
            ·rw [if_neg c75] at H;have c75b0 : decide (x8_4 < (wrap64 (a0_0 * a0_1))) = false := decide_eq_false c75;clear c75;obtain rfl := Option.some.inj H;obtain ⟨hcz79_0, hcz79_1, hcz79_2, hcz79_3, hcz79_4, hfz79_0, hfz79_1, hfz79_2, hfz79_3, hfz79_4⟩ := bt5 BK440;go_wp2;go_ret;exact ⟨by first | rfl | (simp [e0_, e1_] <;> rfl) | (simp [*, e0_, e1_] <;> rfl), bm HB⟩

/-! ### spec_boParts: function 182 -/
def spec_boParts.l0 : Nat → List Int → List (S27) → Int → Int → Option (List Int)
 | 0, _, _, _, _ => none
 | k + 1, x3, x8, x9, x10 => if x10 < x9 then (if 0 ≤ x10 then (if x10 < (x8.length : Int) then (if 0 ≤ ((rd_T27 x8 x10).f0) then (if ((rd_T27 x8 x10).f0) < (x3.length : Int) then (spec_boParts.l0 k (x3.set (((rd_T27 x8 x10).f0) : Int).toNat (wrap64 ((rd x3 ((rd_T27 x8 x10).f0)) + 1))) x8 x9 (wrap64 (x10 + 1))) else (none)) else (none)) else (none)) else (none)) else (some x3)
def spec_boParts.f (k : Nat) (a0_0 : Int) (a0_1 : Int) (l0_2 : List (S27)) : Option (List Int) := if 8 ≤ 35184372088832 then (spec_boParts.l0 k (List.replicate 8 0) l0_2 (l0_2.length : Int) 0) else (none)
theorem spec_boParts.calls (k : Nat) (a0_0 : Int) (a0_1 : Int) (A0_2 : Option Addr) (c0_2 : Nat) (l0_2 : List (S27)) (r : List Int) (w : World) (hr0_2 : Kd.C k27 w A0_2 l0_2.length l0_2) (hc0_2 : l0_2.length ≤ c0_2) (h : spec_boParts.f k a0_0 a0_1 l0_2 = some r) :
  Calls Try.prog 182 #[.agg #[.int .i64 a0_0, .int .i64 a0_1, .slice A0_2 l0_2.length c0_2]] w fun e w' => ∃ v0_ : Value, e = .returned (v0_) ∧ Kd.R (Kd.int .i64) 3 w' w.heap.size (fun _ => True) v0_ r ∧ Below w.heap.size w w' := by
 have HR0_2 := Aside0.mk hr0_2;have HC0_2 := Aside0.mk hc0_2;clear hr0_2 hc0_2;have HB := Aside0.mk (Below.refl w.heap.size w);have H : (if 8 ≤ 35184372088832 then (spec_boParts.l0 k (List.replicate 8 0) l0_2 (l0_2.length : Int) 0) else (none)) = some r := h;clear h;replace H := np_ H;obtain ⟨c2, H⟩ := H;have c2b0 := eq_true c2;have c2b1 : decide (8 ≤ 35184372088832) = true := decide_eq_true c2;clear c2;obtain ⟨y498, hy498⟩ : ∃ y_ : List Int, y_ = (List.replicate 8 0) := ⟨_, rfl⟩
 replace H : (spec_boParts.l0 k y498 l0_2 (l0_2.length : Int) 0) = some r := by first | (rw [hy498]; with_reducible exact H) | (have H2_ := (Option.bind_some _ _).symm.trans H; rw [hy498]; with_reducible exact H2_) | (have H2_ := (Option.bind_some _ _).symm.trans H; with_reducible exact H2_) | with_reducible exact H | (rw [hy498]; exact H) | exact H
 have Ny498 := Aside0.mk hy498;clear hy498;have H' := Aside0.mk H;clear H;go_enter Try.func182, Try.ntmps182;go_wp2_with (first | ((with_reducible refine gate_dst (N := 1) rfl ?_); refine box_event ?hg (N := 1) ?hd (cs := #[.int .i64 a0_0, .int .i64 a0_1, .slice A0_2 l0_2.length c0_2]) (t := 25) ?hr ?_; (case hd => rfl); (case hg => rfl); (case hr => first | (go_simp; done) | (go_simp; rfl)); intro gb497 hg w3 hbox hb; refine ev4 (bs HB hb) (hbox) (gle hg HB) (gle hg HB) ?_; clear HB; intro HB BK497 GW497 GE497; clear hb hbox hg) | ((with_reducible refine gate_dst (N := 6) rfl ?_); refine Kd.R_make (Kd.int .i64) _ 3 rfl (N := 6) rfl 35 _ _ rfl 8 rfl rfl Try.underlying35 (.int .i64 0) 8 info3 rfl (by decide) (by omega) 0 (ok := fun _ => True) (okp := fun _ => True) rfl (fun _ hk => hk) trivial (by omega) (by omega) (Below.refl _ _) (Nat.le_refl _) ?_; intro v499 w4 ho5 hb hg_ hnew_; clear hg_ hnew_; (first | rw [← Ny498.out] at ho5 | (simp only [Int.reduceToNat] at ho5; rw [← Ny498.out] at ho5)); refine ev3 (Kd.R_lower ho5 (below_size (bm HB))) (kb BK497 hb) (bs HB hb) ?_; clear BK497 HB; intro HO500 BK497 HB; clear hb ho5; obtain ⟨hcz6_0, hcz6_1, hcz6_2, hfz6_0, hfz6_1, hfz6_2⟩ := bt3 BK497))
 go_loopg [10] k (fun kq v10 w' => ∃ (x3_1 : List Int) (x10_1 : Int), v10 = .int .i64 x10_1 ∧ Aside0 (spec_boParts.l0 kq x3_1 l0_2 (l0_2.length : Int) x10_1 = some r) ∧ Aside0 (kq ≤ k) ∧ Aside0 (Kd.R (Kd.int .i64) 3 w' w.heap.size (fun _ => True) v499 x3_1) ∧ Aside0 (w'.heap[gb497]? = some (.cells #[.int .i64 a0_0, .int .i64 a0_1, (.slice A0_2 l0_2.length c0_2)] 25 (0, 0))) ∧ Aside0 (Below w.heap.size w w'))
 case atStart => exact ⟨(y498), (0), (by first | rfl | (simp; done) | (simp [*]; done)), H', ⟨Nat.le_refl _⟩, ⟨Kd.R_mv HO500.out⟩, ⟨km_ BK497⟩, ⟨bm HB⟩⟩
 case round =>
  clear H';(try clear c1);(try clear c2);(try clear c2b0);(try clear c2b1);(try clear p2);(try clear hcz6_0);(try clear hcz6_1);(try clear hcz6_2);(try clear hfz6_0);(try clear hfz6_1);(try clear hfz6_2);obtain ⟨x3_1, x10_1, rfl, HA, HK1, HO_3, BK497, HB⟩ := hrel;cases gk with
  | zero => exact absurd HA.out (by simp [spec_boParts.l0])
  | succ k1 =>
   have H := HA.out;clear HA;simp only [spec_boParts.l0] at H;by_cases c7 : x10_1 < (l0_2.length : Int)
   ·rw [if_pos c7] at H;have c7b0 : decide (x10_1 < (l0_2.length : Int)) = true := decide_eq_true c7;clear c7;replace H := np_ H;obtain ⟨c8, H⟩ := H;have c8b0 : decide (0 ≤ x10_1) = true := decide_eq_true c8;clear c8;replace H := np_ H;obtain ⟨c9, H⟩ := H;have c9b0 : decide (x10_1 < (l0_2.length : Int)) = true := decide_eq_true c9;clear c9;replace H := np_ H;obtain ⟨c10, H⟩ := H;have c10b0 : decide (0 ≤ ((rd_T27 l0_2 x10_1).f0)) = true := decide_eq_true c10;clear c10;replace H := np_ H;obtain ⟨c11, H⟩ := H;have c11b0 : decide (((rd_T27 l0_2 x10_1).f0) < (x3_1.length : Int)) = true := decide_eq_true c11;clear c11;obtain ⟨y504, hy504⟩ : ∃ y_ : List Int, y_ = (x3_1.set (((rd_T27 l0_2 x10_1).f0) : Int).toNat (wrap64 ((rd x3_1 ((rd_T27 l0_2 x10_1).f0)) + 1))) := ⟨_, rfl⟩
    replace H : (spec_boParts.l0 k1 y504 l0_2 (l0_2.length : Int) (wrap64 (x10_1 + 1))) = some r := by first | (rw [hy504]; with_reducible exact H) | (have H2_ := (Option.bind_some _ _).symm.trans H; rw [hy504]; with_reducible exact H2_) | (have H2_ := (Option.bind_some _ _).symm.trans H; with_reducible exact H2_) | with_reducible exact H | (rw [hy504]; exact H) | exact H
    have Ny504 := Aside0.mk hy504;clear hy504;have H' := Aside0.mk H;clear H;have p501 : 0 ≤ (x10_1 : Int) := of_decide_eq_true (by first | (with_reducible assumption) | assumption);have q501 : x10_1 < (l0_2.length : Int) := of_decide_eq_true (by first | (with_reducible assumption) | assumption);obtain ⟨ad501, e501, hx501_0, hx501_1⟩ := at_T27 HR0_2.out x10_1 p501 q501;cases e501;replace hx501_0 := (HB.out.cell (World.block_lt_of_cell? w _ hx501_0)).trans hx501_0;replace hx501_1 := (HB.out.cell (World.block_lt_of_cell? w _ hx501_1)).trans hx501_1;replace p501 := eq_true p501;replace q501 := eq_true q501;go_wp2_with (first | ((with_reducible refine gate_dst (N := 5) rfl ?_); refine box_event ?hg (N := 5) ?hd (cs := #[.int .i64 0, .int .i64 0]) (t := 27) ?hr ?_; (case hd => rfl); (case hg => rfl); (case hr => first | (go_simp; done) | (go_simp; rfl)); intro gb502 hg w13 hbox hb; refine ev8 (Kd.R_below (Kd.R_mv HO_3.out) hb) (kb BK497 hb) (bs HB hb) (hbox) (gle hg HB) (gle hg HB) (gnf hg BK497) (gne hg BK497) ?_; clear HO_3 BK497 HB; intro HO_3 BK497 HB BK502 GW502 GE502 NB497_502 NB502_497; clear hb hbox hg; have hnb14 := NB502_497.out; have hnc14 := NB497_502.out; obtain ⟨hcz15_0, hcz15_1, hfz15_0, hfz15_1⟩ := bt2 BK502) | ((with_reducible refine gate_store (t := 27) (p := 5) rfl ?_); refine store_event (t := 27) (p := 5) (v := ?vo_w16) (w1 := ((w13.setCell ⟨gb502, 0, none⟩ (.int .i64 ((rd_T27 l0_2 x10_1).f0))).setCell ⟨gb502, 1, none⟩ (.int .i64 ((rd_T27 l0_2 x10_1).f1)))) ?hg ?ho ?hn ?hr ?_; (case ho => rfl); (case hg => rfl); (case hn => rfl); (case hr => first | (go_simp; done) | (go_simp; rfl)); intro w16 hw; have n0_ : Aside0 (Kd.R (Kd.int .i64) 3 w16 w.heap.size (fun _ => True) v499 x3_1) := ⟨(by rw [hw]; exact (Kd.R_mv (Kd.R_mono (ok' := fun k_ => True) (Kd.R_far (p := ⟨gb502, 1, none⟩) (Kd.R_far (p := ⟨gb502, 0, none⟩) (Kd.R_types HO_3.out BK502.out (by decide)) (fun _ hk => hk.2) (.int .i64 ((rd_T27 l0_2 x10_1).f0))) (fun _ hk => hk.2) (.int .i64 ((rd_T27 l0_2 x10_1).f1))) (fun _ hk => trivial))))⟩; have n1_ : Aside0 (w16.heap[gb497]? = some (.cells #[.int .i64 a0_0, .int .i64 a0_1, .slice (some ad501) l0_2.length c0_2] 25 (0, 0))) := ⟨(by rw [hw]; exact (fp BK497 rfl))⟩; have n2_ : Aside0 (w16.heap[gb502]? = some (.cells #[.int .i64 ((rd_T27 l0_2 x10_1).f0), .int .i64 ((rd_T27 l0_2 x10_1).f1)] 27 (0, 0))) := ⟨(by rw [hw]; exact (fp BK502 rfl))⟩; have n3_ : Aside0 (Below w.heap.size w w16) := ⟨(by rw [hw]; exact (bm HB))⟩; clear hw; clear HO_3; clear BK497; clear BK502; clear HB; have HO_3 := n0_; have BK497 := n1_; have BK502 := n2_; have HB := n3_; clear n0_ n1_ n2_ n3_; obtain ⟨hcz17_0, hcz17_1, hfz17_0, hfz17_1⟩ := bt2 BK502; obtain ⟨Ao18, co18, eo18⟩ := Kd.R_slice HO_3.out; subst eo18; have p503 : 0 ≤ (((rd_T27 l0_2 x10_1).f0) : Int) := of_decide_eq_true (by first | (with_reducible assumption) | assumption); have q503 : ((rd_T27 l0_2 x10_1).f0) < (x3_1.length : Int) := of_decide_eq_true (by first | (with_reducible assumption) | assumption); obtain ⟨ad503, e503, hx503_0⟩ := Kd.at_int (Kd.R_reads' HO_3.out).2.2 ((rd_T27 l0_2 x10_1).f0) p503 q503; cases e503; replace p503 := eq_true p503; replace q503 := eq_true q503; have p12 : 0 ≤ (((rd_T27 l0_2 x10_1).f0) : Int) := of_decide_eq_true (by first | (with_reducible assumption) | assumption); have q12 : (((rd_T27 l0_2 x10_1).f0) : Int) < ((x3_1.length : Int) : Int) := of_decide_eq_true (by first | (with_reducible assumption) | assumption); obtain ⟨go12, co12, eo12, gb12, gl12, cl12, HG12⟩ := Kd.R_form HO_3.out (by omega); (first | cases eo12 | (injection eo12 with ea_ en_ ec_; (first | subst ea_ | (injection ea_ with ea_; subst ea_)); subst ec_; clear en_)); have GB12 := Aside0.mk gb12; have GG12 := Aside0.mk HG12; clear gb12 gl12 HG12; (first | simp only [add_plain] at hx503_0 | skip); obtain ⟨hx12_0, hf12_0⟩ := Kd.R_celln 0 HO_3.out (((rd_T27 l0_2 x10_1).f0) : Int) p12 q12; replace p12 := eq_true p12; replace q12 := eq_true q12; obtain ⟨hy19_, hz19_⟩ := Kd.R_celln 0 HO_3.out (((rd_T27 l0_2 x10_1).f0) : Int) (of_decide_eq_true (by first | (with_reducible assumption) | assumption)) (of_decide_eq_true (by first | (with_reducible assumption) | assumption)); have HP19 := Kd.R_putg HO_3.out (((rd_T27 l0_2 x10_1).f0) : Int) (wrap64 ((rd x3_1 ((rd_T27 l0_2 x10_1).f0)) + 1))) | ((with_reducible refine gate_store (t := 3) (p := 20) rfl ?_); refine store_event (t := 3) (p := 20) (v := ?vo_w20) (w1 := (w16.setCell ⟨go12, (((rd_T27 l0_2 x10_1).f0) : Int).toNat, none⟩ (.int .i64 (wrap64 ((rd x3_1 ((rd_T27 l0_2 x10_1).f0)) + 1))))) ?hg ?ho ?hn ?hr ?_; (case ho => rfl); (case hg => rfl); (case hn => rfl); (case hr => first | (go_simp; done) | (go_simp; rfl)); intro w20 hw; have hg : w16.grownBy w20 (some go12) := (by rw [hw]; exact HP19.2); have hp_ : Kd.R (Kd.int .i64) 3 w20 w.heap.size (fun _ => True) (.slice (some ⟨go12, 0, none⟩) x3_1.length co18) y504 := (by rw [hw, Ny504.out]; exact HP19.1); clear HP19; refine ev4 (hp_) (blk_grown (km_ BK497) hg (Kd.R_ne HO_3.out BK497.out (by decide))) (blk_grown (km_ BK502) hg (Kd.R_ne HO_3.out BK502.out (by decide))) ((by rw [hw]; exact below_set (HB.out) GB12.out : Below w.heap.size w w20)) ?_; clear HO_3 BK497 BK502 HB; intro HO_3 BK497 BK502 HB; clear hg hw hp_))
    go_roundg k1
    case measure => have := HK1.out; omega
    case rel => exact ⟨(y504), (wrap64 (x10_1 + 1)), (by first | rfl | (simp; done) | (simp [*]; done)), H', ⟨by have := HK1.out; omega⟩, ⟨Kd.R_mv HO_3.out⟩, ⟨km_ BK497⟩, ⟨bm HB⟩⟩
   ·rw [if_neg c7] at H;have c7b0 : decide (x10_1 < (l0_2.length : Int)) = false := decide_eq_false c7;clear c7;obtain rfl := Option.some.inj H;go_wp2;go_ret;exact ⟨_, by first | rfl | (simp [e0_, e1_] <;> rfl) | (simp [*, e0_, e1_] <;> rfl), Kd.R_mv HO_3.out, bm HB⟩

/-! ### spec_sySize: function 168 -/
def spec_sySize.f (k : Nat) (a0_0 : Int) (a0_1 : Int) (l0_2 : List (S27)) : Option (Int) := (spec_boParts.f k a0_0 a0_1 l0_2).bind fun t506 => (if 0 < (t506.length : Int) then (some (wrap64 ((l0_2.length : Int) - (rd t506 0)))) else (none))
theorem spec_sySize.calls (k : Nat) (a0_0 : Int) (a0_1 : Int) (A0_2 : Option Addr) (c0_2 : Nat) (l0_2 : List (S27)) (r : Int) (w : World) (hr0_2 : Kd.C k27 w A0_2 l0_2.length l0_2) (hc0_2 : l0_2.length ≤ c0_2) (h : spec_sySize.f k a0_0 a0_1 l0_2 = some r) :
    Calls Try.prog 168 #[.agg #[.int .i64 a0_0, .int .i64 a0_1, .slice A0_2 l0_2.length c0_2]] w fun e w' => e = .returned (.int .i64 r) ∧ Below w.heap.size w w' := by
 have S := St.init (w := w) (dc k27_heap at27 hr0_2 hc0_2 dn)
 clear hr0_2 hc0_2
 have F := S.fc
 have H := h; clear h; unfold spec_sySize.f at H
 replace H := Option.bind_eq_some_iff.mp H; obtain ⟨t506, A2, H⟩ := H; (try dsimp only at H)
 replace H := np_ H; obtain ⟨c3, H⟩ := H; (try have m_t506 : 0 < t506.length := by omega)
 obtain rfl := Option.some.inj H
 go_enter Try.func168, Try.ntmps168
 go_wp2_with (first | ((with_reducible refine gd 1 rfl (L ?_)); refine bo 1 (.agg #[_, _, _]) S ?_; clear S F; intro gb505 W S; have F := S.fc))
 refine rgS S [(0, 0), (1, 1), (0, 2), (1, 3), (2, 4), (0, 5), (2, 6), (0, 7), (0, 8)] [] (by kernel_rfl) (by kernel_rfl) (fun _ d _ _ _ h => by cases d <;> exact h) ?_; clear S F; intro W S; have S0 := S; have F := S.fc
 repeat (first | (refine o0 (v := ?_) (a' := ?_) rfl (Eq.refl true) ?_ ?_ ?_; rotate_left 2; (focus (intro W; (go_simp; first | with_reducible rfl | exact ie2_ | exact ie3_ | (refine if_pos ?_; omega)))); (focus (simp only [Act.put, za_, zb_, zc_, i64_w, i32_w]; rfl))) | (refine o1 (v := ?_) (a' := ?_) S0 rfl (Eq.refl true) ?_ ?_ ?_; rotate_left 2; (focus (intro W S; have F := S.fc; (go_simp; first | with_reducible rfl | exact ie2_ | exact ie3_ | (refine if_pos ?_; omega)))); (focus (simp only [Act.put, za_, zb_, zc_, i64_w, i32_w]; rfl))) | ((first | refine o0n (a' := ?_) rfl (Eq.refl false) ?_ ?_ | refine o1n (a' := ?_) S0 rfl (Eq.refl false) ?_ ?_); rotate_left; (focus (simp only [Act.put, za_, zb_, zc_, i64_w, i32_w]; rfl))) | (refine l2r (v := ?_) (a' := ?_) S0 (by rfl) (by exact (Eq.refl true)) ?_ ?_ ?_; rotate_left 2; (focus (go_simp; first | with_reducible rfl | exact ie2_ | exact ie3_ | (refine if_pos ?_; omega))); (focus (simp only [Act.put, za_, zb_, zc_, i64_w, i32_w]; rfl))))
 refine l2 (by rfl) (by exact (Eq.refl true)) ?_; refine cl (some 7) Try.func182 (spec_boParts.calls _ _ _ _ _ _ _ _ S.c S.n A2) (hargs := by (simp only [ma_, mb_, mc_, F] <;> rfl)) (h := ?_); rintro e W ⟨v507, rfl, ho0, hb⟩; refine ⟨_, rfl, ?_⟩; replace S := S.got (atI .i64) hb ho0; obtain ⟨At506, ct506, rfl, S⟩ := S; clear F hb ho0; have F := S.fc; (try have z_ := rd0_ S m_t506)
 clear S0; have S0 := (S.pm [1]); refine ⟨S0, ?_⟩
 repeat (first | (refine o0 (v := ?_) (a' := ?_) rfl (Eq.refl true) ?_ ?_ ?_; rotate_left 2; (focus (intro W; (go_simp; first | with_reducible rfl | exact ie2_ | exact ie3_ | (refine if_pos ?_; omega)))); (focus (simp only [Act.put, za_, zb_, zc_, i64_w, i32_w]; rfl))) | (refine o1 (v := ?_) (a' := ?_) S0 rfl (Eq.refl true) ?_ ?_ ?_; rotate_left 2; (focus (intro W S; have F := S.fc; (go_simp; first | with_reducible rfl | exact ie2_ | exact ie3_ | (refine if_pos ?_; omega)))); (focus (simp only [Act.put, za_, zb_, zc_, i64_w, i32_w]; rfl))) | ((first | refine o0n (a' := ?_) rfl (Eq.refl false) ?_ ?_ | refine o1n (a' := ?_) S0 rfl (Eq.refl false) ?_ ?_); rotate_left; (focus (simp only [Act.put, za_, zb_, zc_, i64_w, i32_w]; rfl))) | (refine l2r (v := ?_) (a' := ?_) S0 (by rfl) (by exact (Eq.refl true)) ?_ ?_ ?_; rotate_left 2; (focus (go_simp; first | with_reducible rfl | exact ie2_ | exact ie3_ | (refine if_pos ?_; omega))); (focus (simp only [Act.put, za_, zb_, zc_, i64_w, i32_w]; rfl))))
 refine oz ?_
 try clear S0
 try go_wp2
 go_ret
 exact ⟨(by first | rfl | (simp [e0_, e1_] <;> rfl) | (simp [*, e0_, e1_] <;> rfl)), S.below⟩
end Go.Proofs.Ytimeepcpgjnajaa.F
