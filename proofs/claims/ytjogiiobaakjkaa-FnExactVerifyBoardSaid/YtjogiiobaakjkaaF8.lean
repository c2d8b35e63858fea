-- Written by a program of this session (a patched print) out of the translation; Lean checks it.
import Derived.Test.YtjogiiobaakjkaaF0
import Derived.Test.YtjogiiobaakjkaaF3
import Derived.Test.YtjogiiobaakjkaaF7
namespace Go.Proofs.Ytjogiiobaakjkaa.F
open Go.RowKit Go.Proofs.YtjogiiobaakjkaaV.PrintWords Go.Proofs.YtjogiiobaakjkaaV.PrintLast Go.Proofs.YtjogiiobaakjkaaV.PrintMore
attribute [local go_sem] max2_int min2_int max_two min_two max_three min_three max_four min_four
attribute [local go_sem] Try.underlying30 Try.underlying35 Try.underlying44 Try.underlying48 Try.underlying62 Try.underlying66 Try.underlying78 Try.underlying90 Try.underlying112
set_option linter.unusedVariables false
set_option linter.unusedSimpArgs false

/-! ### spec_ggGroups: function 113 -/
mutual
def spec_ggGroups.l0 : Nat → List Int → Int → Int → Int → Int → List (S78) → Option (List Int)
 | 0, _, _, _, _, _, _ => none
 | k + 1, x3, x17, x18, x599000, x599001, x599002 => if x18 < x17 then (if 0 ≤ x18 then (if x18 < (x3.length : Int) then (spec_ggGroups.l0 k (x3.set (x18 : Int).toNat (-1)) x17 (wrap64 (x18 + 1)) x599000 x599001 x599002) else (none)) else (none)) else (spec_ggGroups.l1 k x3 0 x599002 (x599002.length : Int) 0 x599000 x599001 x599002)
def spec_ggGroups.l1 : Nat → List Int → Int → List (S78) → Int → Int → Int → Int → List (S78) → Option (List Int)
 | 0, _, _, _, _, _, _, _, _ => none
 | k + 1, x3, x5, x26, x27, x28, x599000, x599001, x599002 => if x28 < x27 then (if 0 ≤ x28 then (if x28 < (x26.length : Int) then ((spec_ggGear.f ((rd_T78 x26 x28).f0) ((rd_T78 x26 x28).f1)).bind fun t605 => (if t605 = true then (if x28 < (x3.length : Int) then (spec_ggGroups.j2 k x3 x5 x28 x26 x27 x28 (decide ((rd x3 x28) ≥ 0)) x599000 x599001 x599002) else (none)) else (spec_ggGroups.j2 k x3 x5 x28 x26 x27 x28 true x599000 x599001 x599002))) else (none)) else (none)) else (some x3)
def spec_ggGroups.j2 : Nat → List Int → Int → Int → List (S78) → Int → Int → Bool → Int → Int → List (S78) → Option (List Int)
 | 0, _, _, _, _, _, _, _, _, _, _ => none
 | k + 1, x3, x5, x6, x26, x27, x28, x42, x599000, x599001, x599002 => if x42 = true then (spec_ggGroups.l1 k x3 x5 x26 x27 (wrap64 (x28 + 1)) x599000 x599001 x599002) else (if 0 ≤ x6 then (if x6 < (x3.length : Int) then (spec_ggGroups.l2 k (x3.set (x6 : Int).toNat x5) x5 (([x6] : List Int)) 0 x26 x27 x28 x599000 x599001 x599002) else (none)) else (none))
def spec_ggGroups.l2 : Nat → List Int → Int → List Int → Int → List (S78) → Int → Int → Int → Int → List (S78) → Option (List Int)
 | 0, _, _, _, _, _, _, _, _, _, _ => none
 | k + 1, x3, x5, x8, x9, x26, x27, x28, x599000, x599001, x599002 => if x9 < (x8.length : Int) then (if 0 ≤ x9 then ((spec_ggNear.f k x599000 x599001 x599002 (rd x8 x9)).bind fun t612 => (spec_ggGroups.l3 k x3 x5 x8 x9 x26 x27 x28 t612 (t612.length : Int) 0 x599000 x599001 x599002)) else (none)) else (spec_ggGroups.l1 k x3 (wrap64 (x5 + 1)) x26 x27 (wrap64 (x28 + 1)) x599000 x599001 x599002)
def spec_ggGroups.l3 : Nat → List Int → Int → List Int → Int → List (S78) → Int → Int → List Int → Int → Int → Int → Int → List (S78) → Option (List Int)
 | 0, _, _, _, _, _, _, _, _, _, _, _, _, _ => none
 | k + 1, x3, x5, x8, x9, x26, x27, x28, x60, x61, x62, x599000, x599001, x599002 => if x62 < x61 then (if 0 ≤ x62 then (if x62 < (x60.length : Int) then (if 0 ≤ (rd x60 x62) then (if (rd x60 x62) < (x599002.length : Int) then ((spec_ggGear.f ((rd_T78 x599002 (rd x60 x62)).f0) ((rd_T78 x599002 (rd x60 x62)).f1)).bind fun t617 => (if t617 = true then (if (rd x60 x62) < (x3.length : Int) then (if (rd x3 (rd x60 x62)) < 0 then (if x8.length < 17592186044416 then (spec_ggGroups.l3 k (x3.set ((rd x60 x62) : Int).toNat x5) x5 (x8 ++ [rd x60 x62]) x9 x26 x27 x28 x60 x61 (wrap64 (x62 + 1)) x599000 x599001 x599002) else (none)) else (spec_ggGroups.l3 k x3 x5 x8 x9 x26 x27 x28 x60 x61 (wrap64 (x62 + 1)) x599000 x599001 x599002)) else (none)) else (spec_ggGroups.l3 k x3 x5 x8 x9 x26 x27 x28 x60 x61 (wrap64 (x62 + 1)) x599000 x599001 x599002))) else (none)) else (none)) else (none)) else (none)) else (spec_ggGroups.l2 k x3 x5 x8 (wrap64 (x9 + 1)) x26 x27 x28 x599000 x599001 x599002)
end
def spec_ggGroups.f (k : Nat) (a0_0 : Int) (a0_1 : Int) (l0_2 : List (S78)) : Option (List Int) := if 0 ≤ (l0_2.length : Int) then (if ((l0_2.length : Int) : Int).toNat ≤ 35184372088832 then ((some (List.replicate ((l0_2.length : Int) : Int).toNat 0 : List Int)).bind fun y599 => (spec_ggGroups.l0 k y599 (y599.length : Int) 0 a0_0 a0_1 l0_2)) else (none)) else (none)
def spec_ggGroups.T17 : Bool × List (List Nat × List Nat) := (true, [([], []), ([], []), ([], []), ([1, 2], [1, 2]), ([3], [3]), ([0, 4], [0, 4]), ([5], [5]), ([], [])])
def spec_ggGroups.B17 : List Nat := [0, 0, 0, 6, 14, 31, 63, 0]
theorem spec_ggGroups.tab17 : rtab .any (opsOf Try.f113 17) = spec_ggGroups.T17 := by kernel_rfl
theorem spec_ggGroups.bits17 : waitsOk spec_ggGroups.T17.2 spec_ggGroups.B17 = true := by kernel_rfl
set_option maxHeartbeats 8000000 in
set_option maxRecDepth 100000 in
theorem spec_ggGroups.calls (k : Nat) (a0_0 : Int) (a0_1 : Int) (A0_2 : Option Addr) (c0_2 : Nat) (l0_2 : List (S78)) (r : List Int) (w : World) (hr0_2 : Kd.C k78 w A0_2 l0_2.length l0_2) (hc0_2 : l0_2.length ≤ c0_2) (h : spec_ggGroups.f k a0_0 a0_1 l0_2 = some r) :
  Calls Try.prog 113 #[.agg #[.int .i64 a0_0, .int .i64 a0_1, .slice A0_2 l0_2.length c0_2]] w fun e w' => ∃ v0_ : Value, e = .returned (v0_) ∧ Kd.R (Kd.int .i64) 3 w' w.heap.size (fun _ => True) v0_ r ∧ Below w.heap.size w w' := by
 have HR0_2 := Aside0.mk hr0_2
 have HC0_2 := Aside0.mk hc0_2
 clear hr0_2 hc0_2
 have HB := Aside0.mk (Below.refl w.heap.size w)
 have H : (if 0 ≤ (l0_2.length : Int) then (if ((l0_2.length : Int) : Int).toNat ≤ 35184372088832 then ((some (List.replicate ((l0_2.length : Int) : Int).toNat 0 : List Int)).bind fun y599 => (spec_ggGroups.l0 k y599 (y599.length : Int) 0 a0_0 a0_1 l0_2)) else (none)) else (none)) = some r := h
 clear h
 by_cases c2 : 0 ≤ (l0_2.length : Int)
 ·rw [if_pos c2] at H
  have c2b0 := eq_true c2
  have c2b1 : decide (0 ≤ (l0_2.length : Int)) = true := decide_eq_true c2
  clear c2
  by_cases c3 : ((l0_2.length : Int) : Int).toNat ≤ 35184372088832
  ·rw [if_pos c3] at H
   have c3b0 := eq_true c3
   have c3b1 : decide (((l0_2.length : Int) : Int).toNat ≤ 35184372088832) = true := decide_eq_true c3
   clear c3
   obtain ⟨y599, hy599⟩ : ∃ y_ : List Int, y_ = (List.replicate ((l0_2.length : Int) : Int).toNat 0) := ⟨_, rfl⟩
   replace H : (spec_ggGroups.l0 k y599 (y599.length : Int) 0 a0_0 a0_1 l0_2) = some r := by first | (rw [hy599]; with_reducible exact H) | (have H2_ := (Option.bind_some _ _).symm.trans H; rw [hy599]; with_reducible exact H2_) | (have H2_ := (Option.bind_some _ _).symm.trans H; with_reducible exact H2_) | with_reducible exact H | (rw [hy599]; exact H) | exact H
   have Ny599 := Aside0.mk hy599
   clear hy599
   have H' := Aside0.mk H
   clear H
   go_enter Try.func113, Try.ntmps113
   go_wp2_with (first | ((with_reducible refine gate_dst (N := 1) rfl ?_); refine box_event ?hg (N := 1) ?hd (cs := #[.int .i64 a0_0, .int .i64 a0_1, .slice A0_2 l0_2.length c0_2]) (t := 48) ?hr ?_; (case hd => rfl); (case hg => rfl); (case hr => first | (go_simp; done) | (go_simp; rfl)); intro gb598 hg w4 hbox hb; refine ev4 (bs HB hb) (hbox) (gle hg HB) (gle hg HB) ?_; clear HB; intro HB BK598 GW598 GE598; clear hb hbox hg; obtain ⟨hcz5_0, hcz5_1, hcz5_2, hfz5_0, hfz5_1, hfz5_2⟩ := bt3 BK598) | ((with_reducible refine gate_dst (N := 15) rfl ?_); refine Kd.R_make (Kd.int .i64) _ 3 rfl (N := 15) rfl 22 _ _ rfl (l0_2.length : Int) rfl rfl Try.underlying22 (.int .i64 0) 8 info3 rfl (by decide) (by omega) 0 (ok := fun _ => True) (okp := fun _ => True) rfl (fun _ hk => hk) trivial (of_decide_eq_true (by first | (with_reducible assumption) | assumption)) (Nat.le_trans (Nat.mul_le_mul_right _ (of_decide_eq_true (by first | (with_reducible assumption) | assumption) : (l0_2.length : Int).toNat ≤ 35184372088832)) (by omega)) (Below.refl _ _) (Nat.le_refl _) ?_; intro v600 w6 ho7 hb hg_ hnew_; clear hg_ hnew_; (first | rw [← Ny599.out] at ho7 | (simp only [Int.reduceToNat] at ho7; rw [← Ny599.out] at ho7)); refine ev3 (Kd.R_lower ho7 (below_size (bm HB))) (kb BK598 hb) (bs HB hb) ?_; clear BK598 HB; intro HO601 BK598 HB; clear hb ho7; obtain ⟨Ao8, co8, eo8⟩ := Kd.R_slice HO601.out; subst eo8))
   go_loopg [18] k (fun kq v18 w' => ∃ (x3_1 : List Int) (x18_1 : Int), v18 = .int .i64 x18_1 ∧ Aside0 (spec_ggGroups.l0 kq x3_1 (y599.length : Int) x18_1 a0_0 a0_1 l0_2 = some r) ∧ Aside0 (kq ≤ k) ∧ Aside0 (Kd.R (Kd.int .i64) 3 w' w.heap.size (fun _ => True) (.slice Ao8 y599.length co8) x3_1) ∧ Aside0 (w'.heap[gb598]? = some (.cells #[.int .i64 a0_0, .int .i64 a0_1, (.slice A0_2 l0_2.length c0_2)] 48 (0, 0))) ∧ Aside0 (Below w.heap.size w w'))
   case atStart => exact ⟨(y599), (0), (by first | rfl | (simp; done) | (simp [*]; done)), H', ⟨Nat.le_refl _⟩, ⟨Kd.R_mv HO601.out⟩, ⟨km_ BK598⟩, ⟨bm HB⟩⟩
   case round =>
    clear H'
    try clear c1
    try clear c2
    try clear c2b0
    try clear c2b1
    try clear p2
    try clear c3
    try clear c3b0
    try clear c3b1
    try clear hcz5_0
    try clear hcz5_1
    try clear hcz5_2
    try clear hfz5_0
    try clear hfz5_1
    try clear hfz5_2
    obtain ⟨x3_1, x18_1, rfl, HA, HK1, HO_3, BK598, HB⟩ := hrel
    have hl3_1 := (Kd.R_reads' HO_3.out).1
    rw [hl3_1] at HO_3
    (try simp only [hl3_1])
    (try simp only [hl3_1] at BK598)
    cases gk with
    | zero => exact absurd HA.out (by simp [spec_ggGroups.l0])
    | succ k1 =>
     have H := HA.out
     clear HA
     simp only [spec_ggGroups.l0] at H
     by_cases c9 : x18_1 < (y599.length : Int)
     ·rw [if_pos c9] at H
      have c9b0 : decide (x18_1 < (y599.length : Int)) = true := decide_eq_true c9
      (try simp only [hl3_1] at c9b0)
      clear c9
      by_cases c10 : 0 ≤ x18_1
      ·rw [if_pos c10] at H
       have c10b0 : decide (0 ≤ x18_1) = true := decide_eq_true c10
       clear c10
       by_cases c11 : x18_1 < (x3_1.length : Int)
       ·rw [if_pos c11] at H
        have c11b0 : decide (x18_1 < (x3_1.length : Int)) = true := decide_eq_true c11
        (try simp only [hl3_1] at c11b0)
        clear c11
        obtain ⟨y602, hy602⟩ : ∃ y_ : List Int, y_ = (x3_1.set (x18_1 : Int).toNat (-1)) := ⟨_, rfl⟩
        replace H : (spec_ggGroups.l0 k1 y602 (y599.length : Int) (wrap64 (x18_1 + 1)) a0_0 a0_1 l0_2) = some r := by first | (rw [hy602]; with_reducible exact H) | (have H2_ := (Option.bind_some _ _).symm.trans H; rw [hy602]; with_reducible exact H2_) | (have H2_ := (Option.bind_some _ _).symm.trans H; with_reducible exact H2_) | with_reducible exact H | (rw [hy602]; exact H) | exact H
        have Ny602 := Aside0.mk hy602
        clear hy602
        have H' := Aside0.mk H
        clear H
        have p12 : 0 ≤ (x18_1 : Int) := of_decide_eq_true (by first | (with_reducible assumption) | assumption)
        have q12 : (x18_1 : Int) < ((x3_1.length : Int) : Int) := of_decide_eq_true (by first | (with_reducible assumption) | assumption)
        obtain ⟨go12, co12, eo12, gb12, gl12, cl12, HG12⟩ := Kd.R_form HO_3.out (by omega)
        (first | cases eo12 | (injection eo12 with ea_ en_ ec_; (first | subst ea_ | (injection ea_ with ea_; subst ea_)); subst ec_; clear en_))
        have GB12 := Aside0.mk gb12
        have GG12 := Aside0.mk HG12
        clear gb12 gl12 HG12
        obtain ⟨hx12_0, hf12_0⟩ := Kd.R_celln 0 HO_3.out (x18_1 : Int) p12 q12
        replace p12 := eq_true p12
        replace q12 := eq_true q12
        have HP13 := Kd.R_putg HO_3.out (x18_1 : Int) (-1)
        go_wp2_with (first | ((with_reducible refine gate_store (t := 3) (p := 23) rfl ?_); refine store_event (t := 3) (p := 23) (v := ?vo_w14) (w1 := (wr.setCell ⟨go12, (x18_1 : Int).toNat, none⟩ (.int .i64 (-1)))) ?hg ?ho ?hn ?hr ?_; (case ho => rfl); (case hg => rfl); (case hn => rfl); (case hr => first | (go_simp; done) | (go_simp; rfl)); intro w14 hw; have hg : wr.grownBy w14 (some go12) := (by rw [hw]; exact HP13.2); have hp_ : Kd.R (Kd.int .i64) 3 w14 w.heap.size (fun _ => True) (.slice (some ⟨go12, 0, none⟩) x3_1.length co8) y602 := (by rw [hw, Ny602.out]; exact HP13.1); clear HP13; refine ev3 (hp_) (blk_grown (km_ BK598) hg (Kd.R_ne HO_3.out BK598.out (by decide))) ((by rw [hw]; exact below_set (HB.out) GB12.out : Below w.heap.size w w14)) ?_; clear HO_3 BK598 HB; intro HO_3 BK598 HB; clear hg hw hp_))
        (try simp only [← hl3_1])
        go_roundg k1
        case measure => have := HK1.out; omega
        case rel => exact ⟨(y602), (wrap64 (x18_1 + 1)), (by first | rfl | (simp; done) | (simp [*]; done)), H', ⟨by have := HK1.out; omega⟩, ⟨by (try simp only [hl3_1]); exact Kd.R_mv HO_3.out⟩, ⟨by (try simp only [hl3_1]); exact km_ BK598⟩, ⟨bm HB⟩⟩
       ·rw [if_neg c11] at H
        exact absurd H (by simp)
      ·rw [if_neg c10] at H
       exact absurd H (by simp)
     ·rw [if_neg c9] at H
      have c9b0 : decide (x18_1 < (y599.length : Int)) = false := decide_eq_false c9
      (try simp only [hl3_1] at c9b0)
      clear c9
      have H' := Aside0.mk H
      clear H
      obtain ⟨hcz15_0, hcz15_1, hcz15_2, hfz15_0, hfz15_1, hfz15_2⟩ := bt3 BK598
      go_wp2
      go_loopg [5, 28] k1 (fun kq v5 v28 w' => ∃ (x3_2 : List Int) (x5_2 : Int) (x28_2 : Int), v5 = .int .i64 x5_2 ∧ v28 = .int .i64 x28_2 ∧ Aside0 (spec_ggGroups.l1 kq x3_2 x5_2 l0_2 (l0_2.length : Int) x28_2 a0_0 a0_1 l0_2 = some r) ∧ Aside0 (kq ≤ k1) ∧ Aside0 (Kd.R (Kd.int .i64) 3 w' w.heap.size (fun _ => True) (.slice Ao8 x3_1.length co8) x3_2) ∧ Aside0 (w'.heap[gb598]? = some (.cells #[.int .i64 a0_0, .int .i64 a0_1, (.slice A0_2 l0_2.length c0_2)] 48 (0, 0))) ∧ Aside0 (Below w.heap.size w w'))
      case atStart => exact ⟨(x3_1), (0), (0), (by first | rfl | (simp; done) | (simp [*]; done)), (by first | rfl | (simp; done) | (simp [*]; done)), H', ⟨Nat.le_refl _⟩, ⟨by (try simp only [hl3_1]); exact Kd.R_mv HO_3.out⟩, ⟨by (try simp only [hl3_1]); exact km_ BK598⟩, ⟨bm HB⟩⟩
      case round =>
       clear H'
       try clear c1
       try clear c2
       try clear c2b0
       try clear c2b1
       try clear p2
       try clear c3
       try clear c3b0
       try clear c3b1
       try clear c9
       try clear c9b0
       try clear c11
       try clear hcz15_0
       try clear hcz15_1
       try clear hcz15_2
       try clear hcz5_0
       try clear hcz5_1
       try clear hcz5_2
       try clear hfz15_0
       try clear hfz15_1
       try clear hfz15_2
       try clear hfz5_0
       try clear hfz5_1
       try clear hfz5_2
       try clear p2
       obtain ⟨x3_2, x5_2, x28_2, rfl, rfl, HA, HK2, HO_3, BK598, HB⟩ := hrel
       have hl3_2 := (Kd.R_reads' HO_3.out).1
       rw [hl3_2] at HO_3
       (try simp only [hl3_2])
       (try simp only [hl3_2] at BK598)
       cases gk with
       | zero => exact absurd HA.out (by simp [spec_ggGroups.l1])
       | succ k2 =>
        have H := HA.out
        clear HA
        simp only [spec_ggGroups.l1] at H
        by_cases c16 : x28_2 < (l0_2.length : Int)
        ·rw [if_pos c16] at H
         have c16b0 : decide (x28_2 < (l0_2.length : Int)) = true := decide_eq_true c16
         (try simp only [hl3_1] at c16b0)
         (try simp only [hl3_2] at c16b0)
         clear c16
         by_cases c17 : 0 ≤ x28_2
         ·rw [if_pos c17] at H
          have c17b0 : decide (0 ≤ x28_2) = true := decide_eq_true c17
          clear c17
          by_cases c18 : x28_2 < (l0_2.length : Int)
          ·rw [if_pos c18] at H
           have c18b0 : decide (x28_2 < (l0_2.length : Int)) = true := decide_eq_true c18
           (try simp only [hl3_1] at c18b0)
           (try simp only [hl3_2] at c18b0)
           clear c18
           have HC19 := Aside0.mk H
           clear H
           have p603 : 0 ≤ (x28_2 : Int) := of_decide_eq_true (by first | (with_reducible assumption) | assumption)
           have q603 : x28_2 < (l0_2.length : Int) := of_decide_eq_true (by first | (with_reducible assumption) | assumption)
           obtain ⟨ad603, e603, hx603_0, hx603_1⟩ := at_T78 HR0_2.out x28_2 p603 q603
           cases e603
           replace hx603_0 := (HB.out.cell (World.block_lt_of_cell? w _ hx603_0)).trans hx603_0
           replace hx603_1 := (HB.out.cell (World.block_lt_of_cell? w _ hx603_1)).trans hx603_1
           replace p603 := eq_true p603
           replace q603 := eq_true q603
           go_upto_region 11 with (first | ((with_reducible refine gate_dst (N := 7) rfl ?_); refine box_event ?hg (N := 7) ?hd (cs := #[.int .i64 0, .int .i64 0]) (t := 78) ?hr ?_; (case hd => rfl); (case hg => rfl); (case hr => first | (go_simp; done) | (go_simp; rfl)); intro gb604 hg w20 hbox hb; refine ev8 (Kd.R_below (Kd.R_mv HO_3.out) hb) (kb BK598 hb) (bs HB hb) (hbox) (gle hg HB) (gle hg HB) (gnf hg BK598) (gne hg BK598) ?_; clear HO_3 BK598 HB; intro HO_3 BK598 HB BK604 GW604 GE604 NB598_604 NB604_598; clear hb hbox hg; have hnb21 := NB604_598.out; have hnc21 := NB598_604.out; obtain ⟨hcz22_0, hcz22_1, hfz22_0, hfz22_1⟩ := bt2 BK604))
           (try simp only [Act.put, za_, zb_, zc_])
           go_cut [42] (fun v42 wc => ∃ (kq : Nat) (x42_18 : Bool), v42 = .bool x42_18 ∧ Aside0 (spec_ggGroups.j2 kq x3_2 x5_2 x28_2 l0_2 (l0_2.length : Int) x28_2 x42_18 a0_0 a0_1 l0_2 = some r) ∧ Aside0 (kq ≤ k2) ∧ Aside0 (Kd.R (Kd.int .i64) 3 wc w.heap.size (fun _ => True) (.slice Ao8 x3_2.length co8) x3_2) ∧ Aside0 (wc.heap[gb598]? = some (.cells #[.int .i64 a0_0, .int .i64 a0_1, (.slice (some ad603) l0_2.length c0_2)] 48 (0, 0))) ∧ Aside0 (wc.heap[gb604]? = some (.cells #[.int .i64 ((rd_T78 l0_2 x28_2).f0), .int .i64 ((rd_T78 l0_2 x28_2).f1)] 78 (0, 0))) ∧ Aside0 (Below w.heap.size w wc))
           case first =>
            have H := HC19.out
            clear HC19
            replace H := Option.bind_eq_some_iff.mp H
            obtain ⟨t605, A230, H⟩ := H
            replace H : (if t605 = true then (if x28_2 < (x3_2.length : Int) then (spec_ggGroups.j2 k2 x3_2 x5_2 x28_2 l0_2 (l0_2.length : Int) x28_2 (decide ((rd x3_2 x28_2) ≥ 0)) a0_0 a0_1 l0_2) else (none)) else (spec_ggGroups.j2 k2 x3_2 x5_2 x28_2 l0_2 (l0_2.length : Int) x28_2 true a0_0 a0_1 l0_2)) = some r := H
            have A23 := Aside0.mk A230
            clear A230
            by_cases c24 : t605 = true
            ·subst c24
             have H1 : (if x28_2 < (x3_2.length : Int) then (spec_ggGroups.j2 k2 x3_2 x5_2 x28_2 l0_2 (l0_2.length : Int) x28_2 (decide ((rd x3_2 x28_2) ≥ 0)) a0_0 a0_1 l0_2) else (none)) = some r := by rw [if_pos rfl] at H; exact H
             clear H
             have H := H1
             clear H1
             by_cases c25 : x28_2 < (x3_2.length : Int)
             ·rw [if_pos c25] at H
              have c25b0 : decide (x28_2 < (x3_2.length : Int)) = true := decide_eq_true c25
              (try simp only [hl3_1] at c25b0)
              (try simp only [hl3_2] at c25b0)
              clear c25
              (first | rw [c25b0] | (simp only [i64_w, i32_w]; rw [c25b0]) | skip)
              have H' := Aside0.mk H
              clear H
              have hnb26 := NB604_598.out
              have hnc26 := NB598_604.out
              obtain ⟨hcz27_0, hcz27_1, hfz27_0, hfz27_1⟩ := bt2 BK604
              go_wp2_with (first | ((with_reducible refine gate_callee (f := 131) rfl ?_); refine goesL_ (some 34) rfl rfl Try.func131 (by kernel_rfl) rfl #[.agg #[.int .i64 ((rd_T78 l0_2 x28_2).f0), .int .i64 ((rd_T78 l0_2 x28_2).f1)]] rfl (by (try simp only [ma_, mb_, mc_]); first | done | rfl | (simp only [List.length_drop, List.length_take]; rfl)) ?_; (with_reducible refine (spec_ggGear.calls ((rd_T78 l0_2 x28_2).f0) ((rd_T78 l0_2 x28_2).f1) true _ A23.out).mono ?_); rintro e w28 ⟨rfl, hb⟩; refine ⟨_, rfl, ?_⟩; refine ev4 (Kd.R_below (Kd.R_mv (Kd.R_mono (Kd.R_far (p := ⟨gb604, 1, none⟩) (Kd.R_far (p := ⟨gb604, 0, none⟩) (Kd.R_types HO_3.out BK604.out (by decide)) (fun _ hk => hk.2) (.int .i64 ((rd_T78 l0_2 x28_2).f0))) (fun _ hk => hk.2) (.int .i64 ((rd_T78 l0_2 x28_2).f1))) (fun _ h_ => h_.1))) hb) (blk_below (g := gb598) (o := .cells #[.int .i64 a0_0, .int .i64 a0_1, .slice (some ad603) l0_2.length c0_2] 48 (0, 0)) (fp BK598 rfl) hb) (blk_below (g := gb604) (o := .cells #[.int .i64 ((rd_T78 l0_2 x28_2).f0), .int .i64 ((rd_T78 l0_2 x28_2).f1)] 78 (0, 0)) (fp BK604 rfl) hb) (bs HB hb) ?_; clear HO_3 BK598 BK604 HB; intro HO_3 BK598 BK604 HB; (try clear hb); (try clear hb2); (try clear hk); (try clear hi); have p606 : 0 ≤ (x28_2 : Int) := of_decide_eq_true (by first | (with_reducible assumption) | assumption); have q606 : x28_2 < (x3_2.length : Int) := of_decide_eq_true (by first | (with_reducible assumption) | assumption); obtain ⟨ad606, e606, hx606_0⟩ := Kd.at_int (Kd.R_reads' HO_3.out).2.2 x28_2 p606 q606; cases e606; replace p606 := eq_true p606; replace q606 := eq_true q606))
              go_meet
              case rel => exact ⟨_, (decide ((rd x3_2 x28_2) ≥ 0)), (by first | rfl | (simp; done) | (simp [*]; done)), H', ⟨by have := HK1.out; have := HK2.out; first | omega | exact Nat.le_refl _⟩, ⟨by (try simp only [hl3_1]); (try simp only [hl3_2]); exact Kd.R_mv HO_3.out⟩, ⟨by (try simp only [hl3_1]); (try simp only [hl3_2]); exact km_ BK598⟩, ⟨by (try simp only [hl3_1]); (try simp only [hl3_2]); exact km_ BK604⟩, ⟨bm HB⟩⟩
             ·rw [if_neg c25] at H
              exact absurd H (by simp)
            ·replace c24 := Bool.eq_false_iff.mpr c24
             subst c24
             have H1 : (spec_ggGroups.j2 k2 x3_2 x5_2 x28_2 l0_2 (l0_2.length : Int) x28_2 true a0_0 a0_1 l0_2) = some r := by rw [if_neg (show ¬ (false = true) by decide)] at H; exact H
             clear H
             have H := H1
             clear H1
             have H' := Aside0.mk H
             clear H
             have hnb29 := NB604_598.out
             have hnc29 := NB598_604.out
             obtain ⟨hcz30_0, hcz30_1, hfz30_0, hfz30_1⟩ := bt2 BK604
             go_wp2_with (first | ((with_reducible refine gate_callee (f := 131) rfl ?_); refine goesL_ (some 34) rfl rfl Try.func131 (by kernel_rfl) rfl #[.agg #[.int .i64 ((rd_T78 l0_2 x28_2).f0), .int .i64 ((rd_T78 l0_2 x28_2).f1)]] rfl (by (try simp only [ma_, mb_, mc_]); first | done | rfl | (simp only [List.length_drop, List.length_take]; rfl)) ?_; (with_reducible refine (spec_ggGear.calls ((rd_T78 l0_2 x28_2).f0) ((rd_T78 l0_2 x28_2).f1) false _ A23.out).mono ?_); rintro e w31 ⟨rfl, hb⟩; refine ⟨_, rfl, ?_⟩; refine ev4 (Kd.R_below (Kd.R_mv (Kd.R_mono (Kd.R_far (p := ⟨gb604, 1, none⟩) (Kd.R_far (p := ⟨gb604, 0, none⟩) (Kd.R_types HO_3.out BK604.out (by decide)) (fun _ hk => hk.2) (.int .i64 ((rd_T78 l0_2 x28_2).f0))) (fun _ hk => hk.2) (.int .i64 ((rd_T78 l0_2 x28_2).f1))) (fun _ h_ => h_.1))) hb) (blk_below (g := gb598) (o := .cells #[.int .i64 a0_0, .int .i64 a0_1, .slice (some ad603) l0_2.length c0_2] 48 (0, 0)) (fp BK598 rfl) hb) (blk_below (g := gb604) (o := .cells #[.int .i64 ((rd_T78 l0_2 x28_2).f0), .int .i64 ((rd_T78 l0_2 x28_2).f1)] 78 (0, 0)) (fp BK604 rfl) hb) (bs HB hb) ?_; clear HO_3 BK598 BK604 HB; intro HO_3 BK598 BK604 HB; (try clear hb); (try clear hb2); (try clear hk); (try clear hi)))
             go_meet
             case rel => exact ⟨_, (true), (by first | rfl | (simp; done) | (simp [*]; done)), H', ⟨by have := HK1.out; have := HK2.out; first | omega | exact Nat.le_refl _⟩, ⟨by (try simp only [hl3_1]); (try simp only [hl3_2]); exact Kd.R_mv HO_3.out⟩, ⟨by (try simp only [hl3_1]); (try simp only [hl3_2]); exact km_ BK598⟩, ⟨by (try simp only [hl3_1]); (try simp only [hl3_2]); exact km_ BK604⟩, ⟨bm HB⟩⟩
           case rest =>
            clear HC19
            try clear c1
            try clear c2
            try clear c2b0
            try clear c2b1
            try clear p2
            try clear c3
            try clear c3b0
            try clear c3b1
            try clear p6
            try clear q6
            try clear hx6
            try clear c9
            try clear c9b0
            try clear c11
            try clear c16
            try clear c16b0
            try clear c17
            try clear c17b0
            try clear c18
            try clear c18b0
            try clear c21
            try clear hcz15_0
            try clear hcz15_1
            try clear hcz15_2
            try clear hcz22_0
            try clear hcz22_1
            try clear hcz5_0
            try clear hcz5_1
            try clear hcz5_2
            try clear hfz15_0
            try clear hfz15_1
            try clear hfz15_2
            try clear hfz22_0
            try clear hfz22_1
            try clear hfz5_0
            try clear hfz5_1
            try clear hfz5_2
            try clear hx603_0
            try clear hx603_1
            try clear p2
            try clear p603
            try clear q603
            obtain ⟨kq, x42_18, rfl, HA, HJ18, HO_3, BK598, BK604, HB⟩ := hcut
            cases kq with
            | zero => exact absurd HA.out (by simp [spec_ggGroups.j2])
            | succ kj18 =>
             have H := HA.out
             clear HA
             simp only [spec_ggGroups.j2] at H
             by_cases c32 : x42_18 = true
             ·subst c32
              have H1 : (spec_ggGroups.l1 kj18 x3_2 x5_2 l0_2 (l0_2.length : Int) (wrap64 (x28_2 + 1)) a0_0 a0_1 l0_2) = some r := by rw [if_pos rfl] at H; exact H
              clear H
              have H := H1
              clear H1
              have H' := Aside0.mk H
              clear H
              go_wp2
              (try simp only [← hl3_2])
              go_roundg kj18
              case measure => have := HK1.out; have := HK2.out; have := HJ18.out; omega
              case rel => exact ⟨(x3_2), (x5_2), (wrap64 (x28_2 + 1)), (by first | rfl | (simp; done) | (simp [*]; done)), (by first | rfl | (simp; done) | (simp [*]; done)), H', ⟨by have := HK1.out; have := HK2.out; have := HJ18.out; omega⟩, ⟨by (try simp only [hl3_1]); (try simp only [hl3_2]); exact Kd.R_mv HO_3.out⟩, ⟨by (try simp only [hl3_1]); (try simp only [hl3_2]); exact km_ BK598⟩, ⟨bm HB⟩⟩
             ·replace c32 := Bool.eq_false_iff.mpr c32
              subst c32
              have H1 : (if 0 ≤ x28_2 then (if x28_2 < (x3_2.length : Int) then (spec_ggGroups.l2 kj18 (x3_2.set (x28_2 : Int).toNat x5_2) x5_2 (([x28_2] : List Int)) 0 l0_2 (l0_2.length : Int) x28_2 a0_0 a0_1 l0_2) else (none)) else (none)) = some r := by rw [if_neg (show ¬ (false = true) by decide)] at H; exact H
              clear H
              have H := H1
              clear H1
              by_cases c33 : 0 ≤ x28_2
              ·rw [if_pos c33] at H
               have c33b0 : decide (0 ≤ x28_2) = true := decide_eq_true c33
               clear c33
               by_cases c34 : x28_2 < (x3_2.length : Int)
               ·rw [if_pos c34] at H
                have c34b0 : decide (x28_2 < (x3_2.length : Int)) = true := decide_eq_true c34
                (try simp only [hl3_1] at c34b0)
                (try simp only [hl3_2] at c34b0)
                clear c34
                obtain ⟨y607, hy607⟩ : ∃ y_ : List Int, y_ = (x3_2.set (x28_2 : Int).toNat x5_2) := ⟨_, rfl⟩
                replace H : (spec_ggGroups.l2 kj18 y607 x5_2 (([x28_2] : List Int)) 0 l0_2 (l0_2.length : Int) x28_2 a0_0 a0_1 l0_2) = some r := by first | (rw [hy607]; with_reducible exact H) | (have H2_ := (Option.bind_some _ _).symm.trans H; rw [hy607]; with_reducible exact H2_) | (have H2_ := (Option.bind_some _ _).symm.trans H; with_reducible exact H2_) | with_reducible exact H | (rw [hy607]; exact H) | exact H
                have Ny607 := Aside0.mk hy607
                clear hy607
                obtain ⟨y608, hy608⟩ : ∃ y_ : List Int, y_ = (([x28_2] : List Int)) := ⟨_, rfl⟩
                replace H : (spec_ggGroups.l2 kj18 y607 x5_2 y608 0 l0_2 (l0_2.length : Int) x28_2 a0_0 a0_1 l0_2) = some r := by first | (rw [hy608]; with_reducible exact H) | (have H2_ := (Option.bind_some _ _).symm.trans H; rw [hy608]; with_reducible exact H2_) | (have H2_ := (Option.bind_some _ _).symm.trans H; with_reducible exact H2_) | with_reducible exact H | (rw [hy608]; exact H) | exact H
                have Ny608 := Aside0.mk hy608
                clear hy608
                have H' := Aside0.mk H
                clear H
                have p35 : 0 ≤ (x28_2 : Int) := of_decide_eq_true (by first | (with_reducible assumption) | assumption)
                have q35 : (x28_2 : Int) < ((x3_2.length : Int) : Int) := of_decide_eq_true (by first | (with_reducible assumption) | assumption)
                obtain ⟨go35, co35, eo35, gb35, gl35, cl35, HG35⟩ := Kd.R_form HO_3.out (by omega)
                (first | cases eo35 | (injection eo35 with ea_ en_ ec_; (first | subst ea_ | (injection ea_ with ea_; subst ea_)); subst ec_; clear en_))
                have GB35 := Aside0.mk gb35
                have GG35 := Aside0.mk HG35
                clear gb35 gl35 HG35
                obtain ⟨hx35_0, hf35_0⟩ := Kd.R_celln 0 HO_3.out (x28_2 : Int) p35 q35
                replace p35 := eq_true p35
                replace q35 := eq_true q35
                have HP36 := Kd.R_putg HO_3.out (x28_2 : Int) x5_2
                go_wp2_with (first | ((with_reducible refine gate_store (t := 3) (p := 46) rfl ?_); refine store_event (t := 3) (p := 46) (v := ?vo_w37) (w1 := (wc.setCell ⟨go35, (x28_2 : Int).toNat, none⟩ (.int .i64 x5_2))) ?hg ?ho ?hn ?hr ?_; (case ho => rfl); (case hg => rfl); (case hn => rfl); (case hr => first | (go_simp; done) | (go_simp; rfl)); intro w37 hw; have hg : wc.grownBy w37 (some go35) := (by rw [hw]; exact HP36.2); have hp_ : Kd.R (Kd.int .i64) 3 w37 w.heap.size (fun _ => True) (.slice (some ⟨go35, 0, none⟩) x3_2.length co8) y607 := (by rw [hw, Ny607.out]; exact HP36.1); clear HP36; refine ev4 (hp_) (blk_grown (km_ BK598) hg (Kd.R_ne HO_3.out BK598.out (by decide))) (blk_grown (km_ BK604) hg (Kd.R_ne HO_3.out BK604.out (by decide))) ((by rw [hw]; exact below_set (HB.out) GB35.out : Below w.heap.size w w37)) ?_; clear HO_3 BK598 BK604 HB; intro HO_3 BK598 BK604 HB; clear hg hw hp_) | ((with_reducible refine gate_dst (N := 48) rfl ?_); refine Kd.R_lit (Kd.int .i64) _ 3 ?hg (N := 48) ?hd (xs := ([x28_2] : List Int)) (inner := [.int .i64 x28_2]) (ok := fun _ => True) (okp := fun _ => True) ?hr ?hp (fun _ hk => hk) trivial (Below.refl _ _) (Nat.le_refl _) (by simp) ?_; (case hd => rfl); (case hg => rfl); (case hr => first | (go_simp; done) | (go_simp; rfl)); (case hp => exact (Reps.one (show Kd.M (Kd.int .i64) _ _ _ x28_2 [.int .i64 x28_2] from rfl) (Reps.none _ _))); intro v609 w38 ho39 hb hg_ hnew_; clear hg_ hnew_; (first | rw [← Ny608.out] at ho39 | (simp only [Int.reduceToNat] at ho39; rw [← Ny608.out] at ho39)); refine ev5 (Kd.R_elder' (Kd.R_mv HO_3.out) (Kd.R_base ho39) hb) (Kd.R_lower (Kd.R_new' ho39 (Kd.R_lt (Kd.R_mv HO_3.out))) (below_size (bm HB))) (kb BK598 hb) (kb BK604 hb) (bs HB hb) ?_; clear HO_3 BK598 BK604 HB; intro HO_3 HO610 BK598 BK604 HB; clear hb ho39))
                go_loopg [8, 9] kj18 (fun kq v8 v9 w' => ∃ (x3_4 : List Int) (x8_4 : List Int) (x9_4 : Int), v9 = .int .i64 x9_4 ∧ Aside0 (spec_ggGroups.l2 kq x3_4 x5_2 x8_4 x9_4 l0_2 (l0_2.length : Int) x28_2 a0_0 a0_1 l0_2 = some r) ∧ Aside0 (kq ≤ kj18) ∧ Aside0 (Kd.R (Kd.int .i64) 3 w' w.heap.size (fun k_ => some k_ ≠ (v8 : Value).ownBlock) (.slice (some ⟨go35, 0, none⟩) x3_2.length co8) x3_4) ∧ Aside0 (Kd.R (Kd.int .i64) 3 w' w.heap.size (fun k_ => some k_ ≠ ((.slice (some ⟨go35, 0, none⟩) x3_2.length co8) : Value).ownBlock) v8 x8_4) ∧ Aside0 (w'.heap[gb598]? = some (.cells #[.int .i64 a0_0, .int .i64 a0_1, (.slice (some ad603) l0_2.length c0_2)] 48 (0, 0))) ∧ Aside0 (w'.heap[gb604]? = some (.cells #[.int .i64 ((rd_T78 l0_2 x28_2).f0), .int .i64 ((rd_T78 l0_2 x28_2).f1)] 78 (0, 0))) ∧ Aside0 (Below w.heap.size w w'))
                case atStart => exact ⟨(y607), (y608), (0), (by first | rfl | (simp; done) | (simp [*]; done)), H', ⟨Nat.le_refl _⟩, ⟨by (try simp only [hl3_1]); (try simp only [hl3_2]); exact Kd.R_mv (Kd.R_mono HO_3.out (fun _ hk => hk.2))⟩, ⟨by (try simp only [hl3_1]); (try simp only [hl3_2]); exact Kd.R_mv (Kd.R_mono HO610.out (fun _ hk => hk.2))⟩, ⟨by (try simp only [hl3_1]); (try simp only [hl3_2]); exact km_ BK598⟩, ⟨by (try simp only [hl3_1]); (try simp only [hl3_2]); exact km_ BK604⟩, ⟨bm HB⟩⟩
                case round =>
                 clear H'
                 try clear c1
                 try clear c2
                 try clear c2b0
                 try clear c2b1
                 try clear p2
                 try clear c3
                 try clear c3b0
                 try clear c3b1
                 try clear p3
                 try clear q3
                 try clear hx3
                 try clear hf3
                 try clear p6
                 try clear q6
                 try clear hx6
                 try clear c9
                 try clear c9b0
                 try clear c11
                 try clear c16
                 try clear c16b0
                 try clear c17
                 try clear c17b0
                 try clear c18
                 try clear c18b0
                 try clear c21
                 try clear c32
                 try clear c33
                 try clear c33b0
                 try clear c34
                 try clear c34b0
                 try clear p35
                 try clear q35
                 try clear hx35
                 try clear hf35
                 try clear hcz15_0
                 try clear hcz15_1
                 try clear hcz15_2
                 try clear hcz22_0
                 try clear hcz22_1
                 try clear hcz5_0
                 try clear hcz5_1
                 try clear hcz5_2
                 try clear hfz15_0
                 try clear hfz15_1
                 try clear hfz15_2
                 try clear hfz22_0
                 try clear hfz22_1
                 try clear hfz5_0
                 try clear hfz5_1
                 try clear hfz5_2
                 try clear hx35_0
                 try clear hx603_0
                 try clear hx603_1
                 try clear p2
                 try clear p35
                 try clear p6
                 try clear p603
                 try clear q35
                 try clear q6
                 try clear q603
                 obtain ⟨x3_4, x8_4, x9_4, rfl, HA, HK4, HO_3, HO_8, BK598, BK604, HB⟩ := hrel
                 have hl3_4 := (Kd.R_reads' HO_3.out).1
                 rw [hl3_4] at HO_3
                 (try simp only [hl3_4])
                 (try simp only [hl3_4] at BK598)
                 (try simp only [hl3_4] at BK604)
                 (try simp only [hl3_4] at HO_8)
                 cases gk with
                 | zero => exact absurd HA.out (by simp [spec_ggGroups.l2])
                 | succ k4 =>
                  have H := HA.out
                  clear HA
                  simp only [spec_ggGroups.l2] at H
                  by_cases c40 : x9_4 < (x8_4.length : Int)
                  ·rw [if_pos c40] at H
                   have c40b0 : decide (x9_4 < (x8_4.length : Int)) = true := decide_eq_true c40
                   (try simp only [hl3_1] at c40b0)
                   (try simp only [hl3_2] at c40b0)
                   (try simp only [hl3_4] at c40b0)
                   clear c40
                   by_cases c41 : 0 ≤ x9_4
                   ·rw [if_pos c41] at H
                    have c41b0 : decide (0 ≤ x9_4) = true := decide_eq_true c41
                    clear c41
                    replace H := Option.bind_eq_some_iff.mp H
                    obtain ⟨t612, A420, H⟩ := H
                    replace H : (spec_ggGroups.l3 k4 x3_4 x5_2 x8_4 x9_4 l0_2 (l0_2.length : Int) x28_2 t612 (t612.length : Int) 0 a0_0 a0_1 l0_2) = some r := H
                    have A42 := Aside0.mk A420
                    clear A420
                    have H' := Aside0.mk H
                    clear H
                    obtain ⟨Ao43, co43, eo43⟩ := Kd.R_slice HO_8.out
                    subst eo43
                    try go_wp2
                    refine ev5 (Kd.R_drew HO_3.out) (Kd.R_drew HO_8.out) (blk_drew BK598.out) (blk_drew BK604.out) (below_drew1 HB.out) ?_
                    clear HO_3 HO_8 BK598 BK604 HB
                    intro HO_3 HO_8 BK598 BK604 HB
                    have p611 : 0 ≤ (x9_4 : Int) := of_decide_eq_true (by first | (with_reducible assumption) | assumption)
                    have q611 : x9_4 < (x8_4.length : Int) := of_decide_eq_true (by first | (with_reducible assumption) | assumption)
                    obtain ⟨ad611, e611, hx611_0⟩ := Kd.at_int (Kd.R_reads' HO_8.out).2.2 x9_4 p611 q611
                    cases e611
                    replace p611 := eq_true p611
                    replace q611 := eq_true q611
                    refine start_ (n := 8) (S := fun w' => w'.cell? ⟨gb598, 0, none⟩ = some (.int .i64 a0_0) ∧ w'.cell? ⟨gb598, 1, none⟩ = some (.int .i64 a0_1) ∧ w'.cell? ⟨gb598, 2, none⟩ = some (.slice (some ad603) l0_2.length c0_2) ∧ w'.cell? (ad611.add (x9_4).toNat) = some (.int .i64 (rd x8_4 x9_4))) (ds := []) #[false, false, false, false, false, false, false, false] (by kernel_rfl) rfl rfl ⟨(blk_cell BK598.out 0).trans rfl, (blk_cell BK598.out 1).trans rfl, (blk_cell BK598.out 2).trans rfl, hx611_0⟩ (fun hHeld => ?_); refine with_tabW spec_ggGroups.tab17 spec_ggGroups.bits17 (fun HT_ HW_ => ?_)
                    generalize wr.drew = w44 at HO_3 HO_8 BK598 BK604 HB hx611_0 hHeld ⊢
                    refine pure_ (i := 1) (N := some 56) (v := ?_) (a' := ?_) #[false, true, false, false, false, false, false, false] rfl rfl (any_of HT_.out (by kernel_rfl)) (fun _ _ _ h => h) (Or.inl ⟨by rfl, ?_⟩) ?_ ?_
                    rotate_left
                    ·intro w'
                     go_simp
                     with_reducible rfl
                    rotate_left
                    ·simp only [Act.put, za_, zb_, zc_, i64_w, i32_w]
                     rfl
                    refine pure_ (i := 2) (N := some 57) (v := ?_) (a' := ?_) #[false, true, true, false, false, false, false, false] rfl rfl (any_of HT_.out (by kernel_rfl)) (fun _ _ _ h => h) (Or.inl ⟨by rfl, ?_⟩) ?_ ?_
                    rotate_left
                    ·intro w'
                     go_simp
                     with_reducible rfl
                    rotate_left
                    ·simp only [Act.put, za_, zb_, zc_, i64_w, i32_w]
                     rfl
                    refine pure_ (i := 3) (N := some 58) (v := ?_) (a' := ?_) #[false, true, true, true, false, false, false, false] rfl rfl (any_of HT_.out (by kernel_rfl)) (fun _ _ _ h => h) (Or.inl ⟨by rfl, ?_⟩) ?_ ?_
                    rotate_left
                    ·intro w'
                     go_simp
                     with_reducible rfl
                    rotate_left
                    ·simp only [Act.put, za_, zb_, zc_, i64_w, i32_w]
                     rfl
                    refine pure_ (i := 7) (N := some 62) (v := ?_) (a' := ?_) #[false, true, true, true, false, false, false, true] rfl rfl (any_of HT_.out (by kernel_rfl)) (fun _ _ _ h => h) (Or.inl ⟨by rfl, ?_⟩) ?_ ?_
                    rotate_left
                    ·intro w'
                     go_simp
                     with_reducible rfl
                    rotate_left
                    ·simp only [Act.put, za_, zb_, zc_, i64_w, i32_w]
                     rfl
                    refine take_ (i := 0) (N := some 55) (v := ?_) (a' := ?_) #[true, true, true, true, false, false, false, true] rfl rfl (take_ofW HT_.out HW_.out (by kernel_rfl)) (fun _ _ _ h => h) (Or.inl ⟨by rfl, ?_⟩) hHeld ?_ ?_
                    rotate_left
                    ·rintro w' ⟨s0, s1, s2, s3⟩
                     go_simp
                     with_reducible rfl
                    rotate_left
                    ·simp only [Act.put, za_, zb_, zc_, i64_w, i32_w]
                     rfl
                    refine take_ (i := 4) (N := some 59) (v := ?_) (a' := ?_) #[true, true, true, true, true, false, false, true] rfl rfl (take_ofW HT_.out HW_.out (by kernel_rfl)) (fun _ _ _ h => h) (Or.inl ⟨by rfl, ?_⟩) hHeld ?_ ?_
                    rotate_left
                    ·rintro w' ⟨s0, s1, s2, s3⟩
                     go_simp
                     with_reducible rfl
                    rotate_left
                    ·simp only [Act.put, za_, zb_, zc_, i64_w, i32_w]
                     rfl
                    refine one_ (i := 5) (N := some 60) #[true, true, true, true, true, true, false, true] rfl rfl (one_of HT_.out (by kernel_rfl)) (by decide) (fun K hK => ?_)
                    refine goes_ Try.func132 (by kernel_rfl) rfl #[.agg #[.int .i64 a0_0, .int .i64 a0_1, .slice (some ad603) l0_2.length c0_2], .int .i64 (rd x8_4 x9_4)] (by rfl) rfl rfl (by (try simp only [ma_, mb_, mc_]); first | done | rfl | (simp only [List.length_drop, List.length_take]; rfl)) ?_
                    with_reducible refine (spec_ggNear.calls k4 a0_0 a0_1 _ _ l0_2 (rd x8_4 x9_4) t612 _ ?side1 ?side2 A42.out).mono ?_
                    (case side1 => exact Kd.C_mv (Kd.C_below HR0_2.out HB.out))
                    (case side2 => exact HC0_2.out)
                    rintro e w45 ⟨v613, rfl, ho0, hb⟩
                    have HS3_ := (hb.cell (World.block_lt_of_cell? _ _ (hHeld.2.2.2))).trans (hHeld.2.2.2)
                    refine ⟨_, rfl, ?_⟩
                    refine ev6 (Kd.R_elder' (Kd.R_mv HO_3.out) (Kd.R_base ho0) hb) (Kd.R_elder' (Kd.R_mv HO_8.out) (Kd.R_base ho0) hb) (Kd.R_lower (Kd.R_new' (Kd.R_new' ho0 (Kd.R_lt (Kd.R_mv HO_3.out))) (Kd.R_lt (Kd.R_mv HO_8.out))) (below_size (bm HB))) (kb BK598 hb) (kb BK604 hb) (bs HB hb) ?_
                    clear HO_3 HO_8 BK598 BK604 HB
                    intro HO_3 HO_8 HO614 BK598 BK604 HB
                    (try clear hb)
                    (try clear hb2)
                    (try clear hk)
                    (try clear hi)
                    (try clear ho0)
                    obtain ⟨Ao46, co46, eo46⟩ := Kd.R_slice HO614.out
                    (first | subst eo46 | (injection eo46 with f1_ f2_ f3_; have f4_ := f1_.symm; have f5_ := f3_.symm; clear f1_ f2_ f3_; subst f4_; subst f5_))
                    refine hK.out _ _ ⟨(blk_cell BK598.out 0).trans rfl, (blk_cell BK598.out 1).trans rfl, (blk_cell BK598.out 2).trans rfl, HS3_⟩ (fun hHeld => ?_)
                    clear hK K
                    refine norm_ (a' := ?_) ?_ ?_
                    rotate_left
                    ·show Act.put _ (some 60) _ = _
                     simp only [Act.put, za_, zb_, zc_, i64_w, i32_w]
                     rfl
                    refine pure_ (i := 6) (N := some 61) (v := ?_) (a' := ?_) #[true, true, true, true, true, true, true, true] rfl rfl (any_of HT_.out (by kernel_rfl)) (fun _ _ _ h => h) (Or.inl ⟨by rfl, ?_⟩) ?_ ?_
                    rotate_left
                    ·intro w'
                     go_simp
                     with_reducible rfl
                    rotate_left
                    ·simp only [Act.put, za_, zb_, zc_, i64_w, i32_w]
                     rfl
                    refine done_ (done_of HT_.out (by kernel_rfl)) ?_
                    try go_wp2
                    go_loopg [8, 62] k4 (fun kq v8 v62 w' => ∃ (x3_5 : List Int) (x8_5 : List Int) (x62_5 : Int), v62 = .int .i64 x62_5 ∧ Aside0 (spec_ggGroups.l3 kq x3_5 x5_2 x8_5 x9_4 l0_2 (l0_2.length : Int) x28_2 t612 (t612.length : Int) x62_5 a0_0 a0_1 l0_2 = some r) ∧ Aside0 (kq ≤ k4) ∧ Aside0 (Kd.R (Kd.int .i64) 3 w' w.heap.size (fun k_ => some k_ ≠ (v8 : Value).ownBlock ∧ some k_ ≠ ((.slice Ao46 t612.length co46) : Value).ownBlock) (.slice (some ⟨go35, 0, none⟩) x3_4.length co8) x3_5) ∧ Aside0 (Kd.R (Kd.int .i64) 3 w' w.heap.size (fun k_ => some k_ ≠ ((.slice (some ⟨go35, 0, none⟩) x3_4.length co8) : Value).ownBlock ∧ some k_ ≠ ((.slice Ao46 t612.length co46) : Value).ownBlock) v8 x8_5) ∧ Aside0 (Kd.R (Kd.int .i64) 3 w' w.heap.size (fun k_ => some k_ ≠ ((.slice (some ⟨go35, 0, none⟩) x3_4.length co8) : Value).ownBlock ∧ some k_ ≠ (v8 : Value).ownBlock) (.slice Ao46 t612.length co46) t612) ∧ Aside0 (w'.heap[gb598]? = some (.cells #[.int .i64 a0_0, .int .i64 a0_1, (.slice (some ad603) l0_2.length c0_2)] 48 (0, 0))) ∧ Aside0 (w'.heap[gb604]? = some (.cells #[.int .i64 ((rd_T78 l0_2 x28_2).f0), .int .i64 ((rd_T78 l0_2 x28_2).f1)] 78 (0, 0))) ∧ Aside0 (Below w.heap.size w w'))
                    case atStart => exact ⟨(x3_4), (x8_4), (0), (by first | rfl | (simp; done) | (simp [*]; done)), H', ⟨Nat.le_refl _⟩, ⟨by (try simp only [hl3_1]); (try simp only [hl3_2]); (try simp only [hl3_4]); exact Kd.R_mv HO_3.out⟩, ⟨by (try simp only [hl3_1]); (try simp only [hl3_2]); (try simp only [hl3_4]); exact Kd.R_mv HO_8.out⟩, ⟨by (try simp only [hl3_1]); (try simp only [hl3_2]); (try simp only [hl3_4]); exact Kd.R_mv (Kd.R_mono HO614.out (fun _ hk => ⟨hk.1.2, hk.2⟩))⟩, ⟨by (try simp only [hl3_1]); (try simp only [hl3_2]); (try simp only [hl3_4]); exact km_ BK598⟩, ⟨by (try simp only [hl3_1]); (try simp only [hl3_2]); (try simp only [hl3_4]); exact km_ BK604⟩, ⟨bm HB⟩⟩
                    case round =>
                     clear H'
                     try clear c1
                     try clear c2
                     try clear c2b0
                     try clear c2b1
                     try clear p2
                     try clear c3
                     try clear c3b0
                     try clear c3b1
                     try clear p3
                     try clear q3
                     try clear hx3
                     try clear hf3
                     try clear c4
                     try clear p6
                     try clear q6
                     try clear hx6
                     try clear c9
                     try clear c9b0
                     try clear c11
                     try clear c13
                     try clear c16
                     try clear c16b0
                     try clear c17
                     try clear c17b0
                     try clear c18
                     try clear c18b0
                     try clear c21
                     try clear c32
                     try clear c33
                     try clear c33b0
                     try clear c34
                     try clear c34b0
                     try clear p35
                     try clear q35
                     try clear hx35
                     try clear hf35
                     try clear c40
                     try clear c40b0
                     try clear c41
                     try clear c41b0
                     try clear hcz15_0
                     try clear hcz15_1
                     try clear hcz15_2
                     try clear hcz22_0
                     try clear hcz22_1
                     try clear hcz5_0
                     try clear hcz5_1
                     try clear hcz5_2
                     try clear hfz15_0
                     try clear hfz15_1
                     try clear hfz15_2
                     try clear hfz22_0
                     try clear hfz22_1
                     try clear hfz5_0
                     try clear hfz5_1
                     try clear hfz5_2
                     try clear hx35_0
                     try clear hx603_0
                     try clear hx603_1
                     try clear hx611_0
                     try clear p2
                     try clear p3
                     try clear p35
                     try clear p6
                     try clear p603
                     try clear p611
                     try clear q3
                     try clear q35
                     try clear q6
                     try clear q603
                     try clear q611
                     obtain ⟨x3_5, x8_5, x62_5, rfl, HA, HK5, HO_3, HO_8, HO_60, BK598, BK604, HB⟩ := hrel
                     have hl3_5 := (Kd.R_reads' HO_3.out).1
                     rw [hl3_5] at HO_3
                     (try simp only [hl3_5])
                     (try simp only [hl3_5] at BK598)
                     (try simp only [hl3_5] at BK604)
                     (try simp only [hl3_5] at HO_8)
                     (try simp only [hl3_5] at HO_60)
                     cases gk with
                     | zero => exact absurd HA.out (by simp [spec_ggGroups.l3])
                     | succ k5 =>
                      have H := HA.out
                      clear HA
                      simp only [spec_ggGroups.l3] at H
                      by_cases c47 : x62_5 < (t612.length : Int)
                      ·rw [if_pos c47] at H
                       have c47b0 : decide (x62_5 < (t612.length : Int)) = true := decide_eq_true c47
                       (try simp only [hl3_1] at c47b0)
                       (try simp only [hl3_2] at c47b0)
                       (try simp only [hl3_4] at c47b0)
                       (try simp only [hl3_5] at c47b0)
                       clear c47
                       by_cases c48 : 0 ≤ x62_5
                       ·rw [if_pos c48] at H
                        have c48b0 : decide (0 ≤ x62_5) = true := decide_eq_true c48
                        clear c48
                        by_cases c49 : x62_5 < (t612.length : Int)
                        ·rw [if_pos c49] at H
                         have c49b0 : decide (x62_5 < (t612.length : Int)) = true := decide_eq_true c49
                         (try simp only [hl3_1] at c49b0)
                         (try simp only [hl3_2] at c49b0)
                         (try simp only [hl3_4] at c49b0)
                         (try simp only [hl3_5] at c49b0)
                         clear c49
                         by_cases c50 : 0 ≤ (rd t612 x62_5)
                         ·rw [if_pos c50] at H
                          have c50b0 : decide (0 ≤ (rd t612 x62_5)) = true := decide_eq_true c50
                          clear c50
                          by_cases c51 : (rd t612 x62_5) < (l0_2.length : Int)
                          ·rw [if_pos c51] at H
                           have c51b0 : decide ((rd t612 x62_5) < (l0_2.length : Int)) = true := decide_eq_true c51
                           (try simp only [hl3_1] at c51b0)
                           (try simp only [hl3_2] at c51b0)
                           (try simp only [hl3_4] at c51b0)
                           (try simp only [hl3_5] at c51b0)
                           clear c51
                           replace H := Option.bind_eq_some_iff.mp H
                           obtain ⟨t617, A520, H⟩ := H
                           replace H : (if t617 = true then (if (rd t612 x62_5) < (x3_5.length : Int) then (if (rd x3_5 (rd t612 x62_5)) < 0 then (if x8_5.length < 17592186044416 then (spec_ggGroups.l3 k5 (x3_5.set ((rd t612 x62_5) : Int).toNat x5_2) x5_2 (x8_5 ++ [rd t612 x62_5]) x9_4 l0_2 (l0_2.length : Int) x28_2 t612 (t612.length : Int) (wrap64 (x62_5 + 1)) a0_0 a0_1 l0_2) else (none)) else (spec_ggGroups.l3 k5 x3_5 x5_2 x8_5 x9_4 l0_2 (l0_2.length : Int) x28_2 t612 (t612.length : Int) (wrap64 (x62_5 + 1)) a0_0 a0_1 l0_2)) else (none)) else (spec_ggGroups.l3 k5 x3_5 x5_2 x8_5 x9_4 l0_2 (l0_2.length : Int) x28_2 t612 (t612.length : Int) (wrap64 (x62_5 + 1)) a0_0 a0_1 l0_2)) = some r := H
                           have A52 := Aside0.mk A520
                           clear A520
                           by_cases c53 : t617 = true
                           ·subst c53
                            have H1 : (if (rd t612 x62_5) < (x3_5.length : Int) then (if (rd x3_5 (rd t612 x62_5)) < 0 then (if x8_5.length < 17592186044416 then (spec_ggGroups.l3 k5 (x3_5.set ((rd t612 x62_5) : Int).toNat x5_2) x5_2 (x8_5 ++ [rd t612 x62_5]) x9_4 l0_2 (l0_2.length : Int) x28_2 t612 (t612.length : Int) (wrap64 (x62_5 + 1)) a0_0 a0_1 l0_2) else (none)) else (spec_ggGroups.l3 k5 x3_5 x5_2 x8_5 x9_4 l0_2 (l0_2.length : Int) x28_2 t612 (t612.length : Int) (wrap64 (x62_5 + 1)) a0_0 a0_1 l0_2)) else (none)) = some r := by rw [if_pos rfl] at H; exact H
                            clear H
                            have H := H1
                            clear H1
                            by_cases c54 : (rd t612 x62_5) < (x3_5.length : Int)
                            ·rw [if_pos c54] at H
                             have c54b0 : decide ((rd t612 x62_5) < (x3_5.length : Int)) = true := decide_eq_true c54
                             (try simp only [hl3_1] at c54b0)
                             (try simp only [hl3_2] at c54b0)
                             (try simp only [hl3_4] at c54b0)
                             (try simp only [hl3_5] at c54b0)
                             clear c54
                             by_cases c55 : (rd x3_5 (rd t612 x62_5)) < 0
                             ·rw [if_pos c55] at H
                              have c55b0 : decide ((rd x3_5 (rd t612 x62_5)) < 0) = true := decide_eq_true c55
                              clear c55
                              obtain ⟨y619, hy619⟩ : ∃ y_ : List Int, y_ = (x3_5.set ((rd t612 x62_5) : Int).toNat x5_2) := ⟨_, rfl⟩
                              replace H : (if x8_5.length < 17592186044416 then (spec_ggGroups.l3 k5 y619 x5_2 (x8_5 ++ [rd t612 x62_5]) x9_4 l0_2 (l0_2.length : Int) x28_2 t612 (t612.length : Int) (wrap64 (x62_5 + 1)) a0_0 a0_1 l0_2) else (none)) = some r := by first | (rw [hy619]; with_reducible exact H) | (have H2_ := (Option.bind_some _ _).symm.trans H; rw [hy619]; with_reducible exact H2_) | (have H2_ := (Option.bind_some _ _).symm.trans H; with_reducible exact H2_) | with_reducible exact H | (rw [hy619]; exact H) | exact H
                              have Ny619 := Aside0.mk hy619
                              clear hy619
                              by_cases c57 : x8_5.length < 17592186044416
                              ·rw [if_pos c57] at H
                               have LMc57 := Aside0.mk c57
                               clear c57
                               obtain ⟨y620, hy620⟩ : ∃ y_ : List Int, y_ = (x8_5 ++ [rd t612 x62_5]) := ⟨_, rfl⟩
                               replace H : (spec_ggGroups.l3 k5 y619 x5_2 y620 x9_4 l0_2 (l0_2.length : Int) x28_2 t612 (t612.length : Int) (wrap64 (x62_5 + 1)) a0_0 a0_1 l0_2) = some r := by first | (rw [hy620]; with_reducible exact H) | (have H2_ := (Option.bind_some _ _).symm.trans H; rw [hy620]; with_reducible exact H2_) | (have H2_ := (Option.bind_some _ _).symm.trans H; with_reducible exact H2_) | with_reducible exact H | (rw [hy620]; exact H) | exact H
                               have Ny620 := Aside0.mk hy620
                               clear hy620
                               have H' := Aside0.mk H
                               clear H
                               have p615 : 0 ≤ (x62_5 : Int) := of_decide_eq_true (by first | (with_reducible assumption) | assumption)
                               have q615 : x62_5 < (t612.length : Int) := of_decide_eq_true (by first | (with_reducible assumption) | assumption)
                               obtain ⟨ad615, e615, hx615_0⟩ := Kd.at_int (Kd.R_reads' HO_60.out).2.2 x62_5 p615 q615
                               cases e615
                               replace p615 := eq_true p615
                               replace q615 := eq_true q615
                               have hnb58 := NB598_604.out
                               have hnc58 := NB604_598.out
                               obtain ⟨hcz59_0, hcz59_1, hcz59_2, hfz59_0, hfz59_1, hfz59_2⟩ := bt3 BK598
                               have p616 : 0 ≤ ((rd t612 x62_5) : Int) := of_decide_eq_true (by first | (with_reducible assumption) | assumption)
                               have q616 : (rd t612 x62_5) < (l0_2.length : Int) := of_decide_eq_true (by first | (with_reducible assumption) | assumption)
                               obtain ⟨ad616, e616, hx616_0, hx616_1⟩ := at_T78 HR0_2.out (rd t612 x62_5) p616 q616
                               obtain rfl : ad603 = ad616 := (by injection e616)
                               replace hx616_0 := (HB.out.cell (World.block_lt_of_cell? w _ hx616_0)).trans hx616_0
                               replace hx616_1 := (HB.out.cell (World.block_lt_of_cell? w _ hx616_1)).trans hx616_1
                               replace p616 := eq_true p616
                               replace q616 := eq_true q616
                               go_wp2_with (first | ((with_reducible refine gate_callee (f := 131) rfl ?_); refine goesL_ (some 71) rfl rfl Try.func131 (by kernel_rfl) rfl #[.agg #[.int .i64 ((rd_T78 l0_2 (rd t612 x62_5)).f0), .int .i64 ((rd_T78 l0_2 (rd t612 x62_5)).f1)]] rfl (by (try simp only [ma_, mb_, mc_]); first | done | rfl | (simp only [List.length_drop, List.length_take]; rfl)) ?_; (with_reducible refine (spec_ggGear.calls ((rd_T78 l0_2 (rd t612 x62_5)).f0) ((rd_T78 l0_2 (rd t612 x62_5)).f1) true _ A52.out).mono ?_); rintro e w60 ⟨rfl, hb⟩; refine ⟨_, rfl, ?_⟩; refine ev6 (Kd.R_below (Kd.R_mv HO_3.out) hb) (Kd.R_below (Kd.R_mv HO_8.out) hb) (Kd.R_below (Kd.R_mv HO_60.out) hb) (kb BK598 hb) (kb BK604 hb) (bs HB hb) ?_; clear HO_3 HO_8 HO_60 BK598 BK604 HB; intro HO_3 HO_8 HO_60 BK598 BK604 HB; (try clear hb); (try clear hb2); (try clear hk); (try clear hi); have p618 : 0 ≤ ((rd t612 x62_5) : Int) := of_decide_eq_true (by first | (with_reducible assumption) | assumption); have q618 : (rd t612 x62_5) < (x3_5.length : Int) := of_decide_eq_true (by first | (with_reducible assumption) | assumption); obtain ⟨ad618, e618, hx618_0⟩ := Kd.at_int (Kd.R_reads' HO_3.out).2.2 (rd t612 x62_5) p618 q618; obtain rfl : (⟨go35, 0, none⟩ : Addr) = ad618 := (by injection e618); (first | simp only [add_plain] at hx618_0 | simp only [add_at] at hx618_0 | simp only [Addr.add, Nat.zero_add] at hx618_0 | skip); replace p618 := eq_true p618; replace q618 := eq_true q618; have p56 : 0 ≤ ((rd t612 x62_5) : Int) := of_decide_eq_true (by first | (with_reducible assumption) | assumption); have q56 : ((rd t612 x62_5) : Int) < ((x3_5.length : Int) : Int) := of_decide_eq_true (by first | (with_reducible assumption) | assumption); obtain ⟨hx56_0, hf56_0⟩ := Kd.R_celln 0 HO_3.out ((rd t612 x62_5) : Int) p56 q56; replace p56 := eq_true p56; replace q56 := eq_true q56; obtain ⟨hy61_, hz61_⟩ := Kd.R_celln 0 HO_3.out ((rd t612 x62_5) : Int) (of_decide_eq_true (by first | (with_reducible assumption) | assumption)) (of_decide_eq_true (by first | (with_reducible assumption) | assumption)); have HP61 := Kd.R_putg HO_3.out ((rd t612 x62_5) : Int) x5_2) | ((with_reducible refine gate_store (t := 3) (p := 82) rfl ?_); refine store_event (t := 3) (p := 82) (v := ?vo_w62) (w1 := (w60.setCell ⟨go35, ((rd t612 x62_5) : Int).toNat, none⟩ (.int .i64 x5_2))) ?hg ?ho ?hn ?hr ?_; (case ho => rfl); (case hg => rfl); (case hn => rfl); (case hr => first | (go_simp; done) | (go_simp; rfl)); intro w62 hw; have hg : w60.grownBy w62 (some go35) := (by rw [hw]; exact HP61.2); have hp_ : Kd.R (Kd.int .i64) 3 w62 w.heap.size (fun k_ => some k_ ≠ (u8 : Value).ownBlock ∧ some k_ ≠ (.slice (some ad615) t612.length co46 : Value).ownBlock) (.slice (some ⟨go35, 0, none⟩) x3_5.length co8) y619 := (by rw [hw, Ny619.out]; exact HP61.1); clear HP61; refine ev6 (hp_) (Kd.R_after (v := (.slice (some ⟨go35, 0, none⟩) x3_5.length co8)) (v1 := (.slice (some ⟨go35, 0, none⟩) x3_5.length co8)) (ok := (fun k_ => some k_ ≠ (.slice (some ad615) t612.length co46 : Value).ownBlock)) (Kd.R_mv (Kd.R_mono HO_8.out (fun _ hk => ⟨hk.2, hk.1⟩))) hg (.inl rfl)) (Kd.R_after (v := (.slice (some ⟨go35, 0, none⟩) x3_5.length co8)) (v1 := (.slice (some ⟨go35, 0, none⟩) x3_5.length co8)) (ok := (fun k_ => some k_ ≠ (u8 : Value).ownBlock)) (Kd.R_mv (Kd.R_mono HO_60.out (fun _ hk => ⟨hk.2, hk.1⟩))) hg (.inl rfl)) (blk_grown (km_ BK598) hg (Kd.R_ne HO_3.out BK598.out (by decide))) (blk_grown (km_ BK604) hg (Kd.R_ne HO_3.out BK604.out (by decide))) ((by rw [hw]; exact below_set (HB.out) GB35.out : Below w.heap.size w w62)) ?_; clear HO_3 HO_8 HO_60 BK598 BK604 HB; intro HO_3 HO_8 HO_60 BK598 BK604 HB; clear hg hw hp_) | ((with_reducible refine gate_builtin (b := .append) (xs := #[.tmp 83, .tmp 85]) rfl ?_); at_builtin; refine Kd.R_append (Kd.int .i64) (w0 := w) w.heap.size rfl (.tmp 83) (.tmp 85) 22 3 (.int .i64 0) 8 rfl Try.underlying22 info3 rfl (by decide) (by omega) u8 x8_5 (rd t612 x62_5) [.int .i64 (rd t612 x62_5)] (fun k_ => some k_ ≠ (.slice (some ⟨go35, 0, none⟩) x3_5.length co8 : Value).ownBlock ∧ some k_ ≠ (.slice (some ad615) t612.length co46 : Value).ownBlock) (fun _ => False) rfl rfl ?aP (fun _ hk => hk.elim) ?aF ?aO ?aB ?aS ?aL ?_; (case aP => exact rfl); (case aB => exact (bm HB)); (case aF => exact (fun k_ hk => ⟨Kd.fresh' (Kd.R_lt (Kd.R_mv HO_3.out)) k_ hk, Kd.fresh' (Kd.R_lt (Kd.R_mv HO_60.out)) k_ hk⟩)); (case aO => exact (Kd.R_mv (Kd.R_mono HO_8.out (fun _ hk => ⟨hk.2, hk.1⟩)))); (case aS => exact (below_size (bm HB))); (case aL => have := LMc57.out; omega); intro v621 w63 ho hb hg hat; rw [← Ny620.out] at ho; refine ev6 (Kd.R_after (ok := (fun k_ => some k_ ≠ (.slice (some ad615) t612.length co46 : Value).ownBlock)) (Kd.R_mv (Kd.R_mono HO_3.out (fun _ hk => ⟨hk.2, hk.1⟩))) hg hat) (Kd.R_after (ok := (fun k_ => some k_ ≠ (.slice (some ⟨go35, 0, none⟩) x3_5.length co8 : Value).ownBlock)) (Kd.R_mv (Kd.R_mono HO_60.out (fun _ hk => ⟨hk.2, hk.1⟩))) hg hat) (blk_grown (km_ BK598) hg (Kd.R_ne HO_8.out BK598.out (by decide))) (blk_grown (km_ BK604) hg (Kd.R_ne HO_8.out BK604.out (by decide))) (hb) (ho) ?_; clear HO_3 HO_60 BK598 BK604 HB HO_8; intro HO_3 HO_60 BK598 BK604 HB HO622; clear ho hb hg hat))
                               (try simp only [← hl3_5])
                               go_roundg k5
                               case measure => have := HK1.out; have := HK2.out; have := HJ18.out; have := HK4.out; have := HK5.out; omega
                               case rel => exact ⟨(y619), (y620), (wrap64 (x62_5 + 1)), (by first | rfl | (simp; done) | (simp [*]; done)), H', ⟨by have := HK1.out; have := HK2.out; have := HJ18.out; have := HK4.out; have := HK5.out; omega⟩, ⟨by (try simp only [hl3_1]); (try simp only [hl3_2]); (try simp only [hl3_4]); (try simp only [hl3_5]); exact Kd.R_mv (Kd.R_mono HO_3.out (fun _ hk => ⟨hk.2, hk.1⟩))⟩, ⟨by (try simp only [hl3_1]); (try simp only [hl3_2]); (try simp only [hl3_4]); (try simp only [hl3_5]); exact Kd.R_mv HO622.out⟩, ⟨by (try simp only [hl3_1]); (try simp only [hl3_2]); (try simp only [hl3_4]); (try simp only [hl3_5]); exact Kd.R_mv HO_60.out⟩, ⟨by (try simp only [hl3_1]); (try simp only [hl3_2]); (try simp only [hl3_4]); (try simp only [hl3_5]); exact km_ BK598⟩, ⟨by (try simp only [hl3_1]); (try simp only [hl3_2]); (try simp only [hl3_4]); (try simp only [hl3_5]); exact km_ BK604⟩, ⟨bm HB⟩⟩
                              ·rw [if_neg c57] at H
                               exact absurd H (by simp)
                             ·rw [if_neg c55] at H
                              have c55b0 : decide ((rd x3_5 (rd t612 x62_5)) < 0) = false := decide_eq_false c55
                              clear c55
                              have H' := Aside0.mk H
                              clear H
                              have p615 : 0 ≤ (x62_5 : Int) := of_decide_eq_true (by first | (with_reducible assumption) | assumption)
                              have q615 : x62_5 < (t612.length : Int) := of_decide_eq_true (by first | (with_reducible assumption) | assumption)
                              obtain ⟨ad615, e615, hx615_0⟩ := Kd.at_int (Kd.R_reads' HO_60.out).2.2 x62_5 p615 q615
                              cases e615
                              replace p615 := eq_true p615
                              replace q615 := eq_true q615
                              have hnb64 := NB598_604.out
                              have hnc64 := NB604_598.out
                              obtain ⟨hcz65_0, hcz65_1, hcz65_2, hfz65_0, hfz65_1, hfz65_2⟩ := bt3 BK598
                              have p616 : 0 ≤ ((rd t612 x62_5) : Int) := of_decide_eq_true (by first | (with_reducible assumption) | assumption)
                              have q616 : (rd t612 x62_5) < (l0_2.length : Int) := of_decide_eq_true (by first | (with_reducible assumption) | assumption)
                              obtain ⟨ad616, e616, hx616_0, hx616_1⟩ := at_T78 HR0_2.out (rd t612 x62_5) p616 q616
                              obtain rfl : ad603 = ad616 := (by injection e616)
                              replace hx616_0 := (HB.out.cell (World.block_lt_of_cell? w _ hx616_0)).trans hx616_0
                              replace hx616_1 := (HB.out.cell (World.block_lt_of_cell? w _ hx616_1)).trans hx616_1
                              replace p616 := eq_true p616
                              replace q616 := eq_true q616
                              go_wp2_with (first | ((with_reducible refine gate_callee (f := 131) rfl ?_); refine goesL_ (some 71) rfl rfl Try.func131 (by kernel_rfl) rfl #[.agg #[.int .i64 ((rd_T78 l0_2 (rd t612 x62_5)).f0), .int .i64 ((rd_T78 l0_2 (rd t612 x62_5)).f1)]] rfl (by (try simp only [ma_, mb_, mc_]); first | done | rfl | (simp only [List.length_drop, List.length_take]; rfl)) ?_; (with_reducible refine (spec_ggGear.calls ((rd_T78 l0_2 (rd t612 x62_5)).f0) ((rd_T78 l0_2 (rd t612 x62_5)).f1) true _ A52.out).mono ?_); rintro e w66 ⟨rfl, hb⟩; refine ⟨_, rfl, ?_⟩; refine ev6 (Kd.R_below (Kd.R_mv HO_3.out) hb) (Kd.R_below (Kd.R_mv HO_8.out) hb) (Kd.R_below (Kd.R_mv HO_60.out) hb) (kb BK598 hb) (kb BK604 hb) (bs HB hb) ?_; clear HO_3 HO_8 HO_60 BK598 BK604 HB; intro HO_3 HO_8 HO_60 BK598 BK604 HB; (try clear hb); (try clear hb2); (try clear hk); (try clear hi); have p618 : 0 ≤ ((rd t612 x62_5) : Int) := of_decide_eq_true (by first | (with_reducible assumption) | assumption); have q618 : (rd t612 x62_5) < (x3_5.length : Int) := of_decide_eq_true (by first | (with_reducible assumption) | assumption); obtain ⟨ad618, e618, hx618_0⟩ := Kd.at_int (Kd.R_reads' HO_3.out).2.2 (rd t612 x62_5) p618 q618; obtain rfl : (⟨go35, 0, none⟩ : Addr) = ad618 := (by injection e618); (first | simp only [add_plain] at hx618_0 | simp only [add_at] at hx618_0 | simp only [Addr.add, Nat.zero_add] at hx618_0 | skip); replace p618 := eq_true p618; replace q618 := eq_true q618))
                              (try simp only [← hl3_5])
                              go_roundg k5
                              case measure => have := HK1.out; have := HK2.out; have := HJ18.out; have := HK4.out; have := HK5.out; omega
                              case rel => exact ⟨(x3_5), (x8_5), (wrap64 (x62_5 + 1)), (by first | rfl | (simp; done) | (simp [*]; done)), H', ⟨by have := HK1.out; have := HK2.out; have := HJ18.out; have := HK4.out; have := HK5.out; omega⟩, ⟨by (try simp only [hl3_1]); (try simp only [hl3_2]); (try simp only [hl3_4]); (try simp only [hl3_5]); exact Kd.R_mv HO_3.out⟩, ⟨by (try simp only [hl3_1]); (try simp only [hl3_2]); (try simp only [hl3_4]); (try simp only [hl3_5]); exact Kd.R_mv HO_8.out⟩, ⟨by (try simp only [hl3_1]); (try simp only [hl3_2]); (try simp only [hl3_4]); (try simp only [hl3_5]); exact Kd.R_mv HO_60.out⟩, ⟨by (try simp only [hl3_1]); (try simp only [hl3_2]); (try simp only [hl3_4]); (try simp only [hl3_5]); exact km_ BK598⟩, ⟨by (try simp only [hl3_1]); (try simp only [hl3_2]); (try simp only [hl3_4]); (try simp only [hl3_5]); exact km_ BK604⟩, ⟨bm HB⟩⟩
                            ·rw [if_neg c54] at H
                             exact absurd H (by simp)
                           ·replace c53 := Bool.eq_false_iff.mpr c53
                            subst c53
                            have H1 : (spec_ggGroups.l3 k5 x3_5 x5_2 x8_5 x9_4 l0_2 (l0_2.length : Int) x28_2 t612 (t612.length : Int) (wrap64 (x62_5 + 1)) a0_0 a0_1 l0_2) = some r := by rw [if_neg (show ¬ (false = true) by decide)] at H; exact H
                            clear H
                            have H := H1
                            clear H1
                            have H' := Aside0.mk H
                            clear H
                            have p615 : 0 ≤ (x62_5 : Int) := of_decide_eq_true (by first | (with_reducible assumption) | assumption)
                            have q615 : x62_5 < (t612.length : Int) := of_decide_eq_true (by first | (with_reducible assumption) | assumption)
                            obtain ⟨ad615, e615, hx615_0⟩ := Kd.at_int (Kd.R_reads' HO_60.out).2.2 x62_5 p615 q615
                            cases e615
                            replace p615 := eq_true p615
                            replace q615 := eq_true q615
                            have hnb67 := NB598_604.out
                            have hnc67 := NB604_598.out
                            obtain ⟨hcz68_0, hcz68_1, hcz68_2, hfz68_0, hfz68_1, hfz68_2⟩ := bt3 BK598
                            have p616 : 0 ≤ ((rd t612 x62_5) : Int) := of_decide_eq_true (by first | (with_reducible assumption) | assumption)
                            have q616 : (rd t612 x62_5) < (l0_2.length : Int) := of_decide_eq_true (by first | (with_reducible assumption) | assumption)
                            obtain ⟨ad616, e616, hx616_0, hx616_1⟩ := at_T78 HR0_2.out (rd t612 x62_5) p616 q616
                            obtain rfl : ad603 = ad616 := (by injection e616)
                            replace hx616_0 := (HB.out.cell (World.block_lt_of_cell? w _ hx616_0)).trans hx616_0
                            replace hx616_1 := (HB.out.cell (World.block_lt_of_cell? w _ hx616_1)).trans hx616_1
                            replace p616 := eq_true p616
                            replace q616 := eq_true q616
                            go_wp2_with (first | ((with_reducible refine gate_callee (f := 131) rfl ?_); refine goesL_ (some 71) rfl rfl Try.func131 (by kernel_rfl) rfl #[.agg #[.int .i64 ((rd_T78 l0_2 (rd t612 x62_5)).f0), .int .i64 ((rd_T78 l0_2 (rd t612 x62_5)).f1)]] rfl (by (try simp only [ma_, mb_, mc_]); first | done | rfl | (simp only [List.length_drop, List.length_take]; rfl)) ?_; (with_reducible refine (spec_ggGear.calls ((rd_T78 l0_2 (rd t612 x62_5)).f0) ((rd_T78 l0_2 (rd t612 x62_5)).f1) false _ A52.out).mono ?_); rintro e w69 ⟨rfl, hb⟩; refine ⟨_, rfl, ?_⟩; refine ev6 (Kd.R_below (Kd.R_mv HO_3.out) hb) (Kd.R_below (Kd.R_mv HO_8.out) hb) (Kd.R_below (Kd.R_mv HO_60.out) hb) (kb BK598 hb) (kb BK604 hb) (bs HB hb) ?_; clear HO_3 HO_8 HO_60 BK598 BK604 HB; intro HO_3 HO_8 HO_60 BK598 BK604 HB; (try clear hb); (try clear hb2); (try clear hk); (try clear hi)))
                            (try simp only [← hl3_5])
                            go_roundg k5
                            case measure => have := HK1.out; have := HK2.out; have := HJ18.out; have := HK4.out; have := HK5.out; omega
                            case rel => exact ⟨(x3_5), (x8_5), (wrap64 (x62_5 + 1)), (by first | rfl | (simp; done) | (simp [*]; done)), H', ⟨by have := HK1.out; have := HK2.out; have := HJ18.out; have := HK4.out; have := HK5.out; omega⟩, ⟨by (try simp only [hl3_1]); (try simp only [hl3_2]); (try simp only [hl3_4]); (try simp only [hl3_5]); exact Kd.R_mv HO_3.out⟩, ⟨by (try simp only [hl3_1]); (try simp only [hl3_2]); (try simp only [hl3_4]); (try simp only [hl3_5]); exact Kd.R_mv HO_8.out⟩, ⟨by (try simp only [hl3_1]); (try simp only [hl3_2]); (try simp only [hl3_4]); (try simp only [hl3_5]); exact Kd.R_mv HO_60.out⟩, ⟨by (try simp only [hl3_1]); (try simp only [hl3_2]); (try simp only [hl3_4]); (try simp only [hl3_5]); exact km_ BK598⟩, ⟨by (try simp only [hl3_1]); (try simp only [hl3_2]); (try simp only [hl3_4]); (try simp only [hl3_5]); exact km_ BK604⟩, ⟨bm HB⟩⟩
                          ·rw [if_neg c51] at H
                           exact absurd H (by simp)
                         ·rw [if_neg c50] at H
                          exact absurd H (by simp)
                        ·rw [if_neg c49] at H
                         exact absurd H (by simp)
                       ·rw [if_neg c48] at H
                        exact absurd H (by simp)
                      ·rw [if_neg c47] at H
                       have c47b0 : decide (x62_5 < (t612.length : Int)) = false := decide_eq_false c47
                       (try simp only [hl3_1] at c47b0)
                       (try simp only [hl3_2] at c47b0)
                       (try simp only [hl3_4] at c47b0)
                       (try simp only [hl3_5] at c47b0)
                       clear c47
                       have H' := Aside0.mk H
                       clear H
                       go_wp2
                       (try simp only [← hl3_4, ← hl3_5])
                       go_roundg k5
                       case measure => have := HK1.out; have := HK2.out; have := HJ18.out; have := HK4.out; have := HK5.out; omega
                       case rel => exact ⟨(x3_5), (x8_5), (wrap64 (x9_4 + 1)), (by first | rfl | (simp; done) | (simp [*]; done)), H', ⟨by have := HK1.out; have := HK2.out; have := HJ18.out; have := HK4.out; have := HK5.out; omega⟩, ⟨by (try simp only [hl3_1]); (try simp only [hl3_2]); (try simp only [hl3_4]); (try simp only [hl3_5]); exact Kd.R_mv (Kd.R_mono HO_3.out (fun _ hk => hk.1))⟩, ⟨by (try simp only [hl3_1]); (try simp only [hl3_2]); (try simp only [hl3_4]); (try simp only [hl3_5]); exact Kd.R_mv (Kd.R_mono HO_8.out (fun _ hk => hk.1))⟩, ⟨by (try simp only [hl3_1]); (try simp only [hl3_2]); (try simp only [hl3_4]); (try simp only [hl3_5]); exact km_ BK598⟩, ⟨by (try simp only [hl3_1]); (try simp only [hl3_2]); (try simp only [hl3_4]); (try simp only [hl3_5]); exact km_ BK604⟩, ⟨bm HB⟩⟩
                   ·rw [if_neg c41] at H
                    exact absurd H (by simp)
                  ·rw [if_neg c40] at H
                   have c40b0 : decide (x9_4 < (x8_4.length : Int)) = false := decide_eq_false c40
                   (try simp only [hl3_1] at c40b0)
                   (try simp only [hl3_2] at c40b0)
                   (try simp only [hl3_4] at c40b0)
                   clear c40
                   have H' := Aside0.mk H
                   clear H
                   obtain ⟨Ao70, co70, eo70⟩ := Kd.R_slice HO_8.out
                   subst eo70
                   go_wp2
                   (try simp only [← hl3_2, ← hl3_4])
                   go_roundg k4
                   case measure => have := HK1.out; have := HK2.out; have := HJ18.out; have := HK4.out; omega
                   case rel => exact ⟨(x3_4), (wrap64 (x5_2 + 1)), (wrap64 (x28_2 + 1)), (by first | rfl | (simp; done) | (simp [*]; done)), (by first | rfl | (simp; done) | (simp [*]; done)), H', ⟨by have := HK1.out; have := HK2.out; have := HJ18.out; have := HK4.out; omega⟩, ⟨by (try simp only [hl3_1]); (try simp only [hl3_2]); (try simp only [hl3_4]); exact Kd.R_mv (Kd.R_mono (ok' := fun k_ => True) HO_3.out (fun _ hk => trivial))⟩, ⟨by (try simp only [hl3_1]); (try simp only [hl3_2]); (try simp only [hl3_4]); exact km_ BK598⟩, ⟨bm HB⟩⟩
               ·rw [if_neg c34] at H
                exact absurd H (by simp)
              ·rw [if_neg c33] at H
               exact absurd H (by simp)
          ·rw [if_neg c18] at H
           exact absurd H (by simp)
         ·rw [if_neg c17] at H
          exact absurd H (by simp)
        ·rw [if_neg c16] at H
         have c16b0 : decide (x28_2 < (l0_2.length : Int)) = false := decide_eq_false c16
         (try simp only [hl3_1] at c16b0)
         (try simp only [hl3_2] at c16b0)
         clear c16
         obtain rfl := Option.some.inj H
         go_wp2
         go_ret
         exact ⟨_, by first | rfl | (simp [e0_, e1_] <;> rfl) | (simp [*, e0_, e1_] <;> rfl), Kd.R_mv HO_3.out, bm HB⟩
  ·rw [if_neg c3] at H
   exact absurd H (by simp)
 ·rw [if_neg c2] at H
  exact absurd H (by simp)

/-! ### impl_copyBoard: function 89 -/
def impl_copyBoard.f (a0_0 : Int) (a0_1 : Int) (l0_2 : List (S78)) : Option (Int × Int × (List (S78))) := (some (([] : List (S78)) : List (S78))).bind fun y672 => (if y672.length + l0_2.length < 8796093022208 then (some (a0_0, a0_1, (y672 ++ l0_2))) else (none))
def impl_copyBoard.T1 : Bool × List (List Nat × List Nat) := (true, [([], []), ([0], [0]), ([], []), ([2], [2]), ([], []), ([], []), ([5], [5]), ([4, 6], [4, 6]), ([1, 3, 7], [1, 3, 7]), ([8, 7, 0, 1, 2, 3, 4, 5, 6, 7, 8], [8])])
def impl_copyBoard.B1 : List Nat := [0, 1, 0, 4, 0, 0, 32, 112, 255, 511]
theorem impl_copyBoard.tab1 : rtab .any (opsOf Try.f89 1) = impl_copyBoard.T1 := by kernel_rfl
theorem impl_copyBoard.bits1 : waitsOk impl_copyBoard.T1.2 impl_copyBoard.B1 = true := by kernel_rfl
set_option maxHeartbeats 8000000 in
set_option maxRecDepth 100000 in
theorem impl_copyBoard.calls (a0_0 : Int) (a0_1 : Int) (A0_2 : Option Addr) (c0_2 : Nat) (l0_2 : List (S78)) (r1 : Int) (r2 : Int) (r3 : List (S78)) (w : World) (hr0_2 : Kd.C k78 w A0_2 l0_2.length l0_2) (hc0_2 : l0_2.length ≤ c0_2) (h : impl_copyBoard.f a0_0 a0_1 l0_2 = some (r1, r2, r3)) :
  Calls Try.prog 89 #[.agg #[.int .i64 a0_0, .int .i64 a0_1, .slice A0_2 l0_2.length c0_2]] w fun e w' => ∃ v2_ : Value, e = .returned (.agg #[.int .i64 r1, .int .i64 r2, v2_]) ∧ Kd.R k78 78 w' w.heap.size (fun _ => True) v2_ r3 ∧ Below w.heap.size w w' := by
 have HR0_2 := Aside0.mk hr0_2
 have HC0_2 := Aside0.mk hc0_2
 clear hr0_2 hc0_2
 have HB := Aside0.mk (Below.refl w.heap.size w)
 have H : ((some (([] : List (S78)) : List (S78))).bind fun y672 => (if y672.length + l0_2.length < 8796093022208 then (some (a0_0, a0_1, (y672 ++ l0_2))) else (none))) = some (r1, r2, r3) := h
 clear h
 obtain ⟨y672, hy672⟩ : ∃ y_ : List (S78), y_ = (([] : List (S78))) := ⟨_, rfl⟩
 replace H : (if y672.length + l0_2.length < 8796093022208 then (some (a0_0, a0_1, (y672 ++ l0_2))) else (none)) = some (r1, r2, r3) := by first | (rw [hy672]; with_reducible exact H) | (have H2_ := (Option.bind_some _ _).symm.trans H; rw [hy672]; with_reducible exact H2_) | (have H2_ := (Option.bind_some _ _).symm.trans H; with_reducible exact H2_) | with_reducible exact H | (rw [hy672]; exact H) | exact H
 have Ny672 := Aside0.mk hy672
 clear hy672
 by_cases c2 : y672.length + l0_2.length < 8796093022208
 ·rw [if_pos c2] at H
  have LMc2 := Aside0.mk c2
  clear c2
  obtain ⟨y675, hy675⟩ : ∃ y_ : List (S78), y_ = (y672 ++ l0_2) := ⟨_, rfl⟩
  replace H : (some (a0_0, a0_1, y675)) = some (r1, r2, r3) := by first | (rw [hy675]; with_reducible exact H) | (have H2_ := (Option.bind_some _ _).symm.trans H; rw [hy675]; with_reducible exact H2_) | (have H2_ := (Option.bind_some _ _).symm.trans H; with_reducible exact H2_) | with_reducible exact H | (rw [hy675]; exact H) | exact H
  have Ny675 := Aside0.mk hy675
  clear hy675
  simp only [Option.some.injEq, Prod.mk.injEq] at H
  obtain ⟨rfl, rfl, rfl⟩ := H
  go_enter Try.func89, Try.ntmps89
  try go_wp2_with (first | ((with_reducible refine gate_dst (N := 1) rfl ?_); refine box_event ?hg (N := 1) ?hd (cs := #[.int .i64 a0_0, .int .i64 a0_1, .slice A0_2 l0_2.length c0_2]) (t := 48) ?hr ?_; (case hd => rfl); (case hg => rfl); (case hr => first | (go_simp; done) | (go_simp; rfl)); intro gb670 hg w3 hbox hb; refine ev4 (bs HB hb) (hbox) (gle hg HB) (gle hg HB) ?_; clear HB; intro HB BK670 GW670 GE670; clear hb hbox hg) | ((with_reducible refine gate_dst (N := 2) rfl ?_); refine box_event ?hg (N := 2) ?hd (cs := #[.int .i64 0, .int .i64 0, .slice none 0 0]) (t := 48) ?hr ?_; (case hd => rfl); (case hg => rfl); (case hr => first | (go_simp; done) | (go_simp; rfl)); intro gb671 hg w4 hbox hb; refine ev7 (kb BK670 hb) (bs HB hb) (hbox) (gle hg HB) (gle hg HB) (gnf hg BK670) (gne hg BK670) ?_; clear BK670 HB; intro BK670 HB BK671 GW671 GE671 NB670_671 NB671_670; clear hb hbox hg))
  refine ev3 (blk_drew BK670.out) (blk_drew BK671.out) (below_drew1 HB.out) ?_
  clear BK670 BK671 HB
  intro BK670 BK671 HB
  refine start_ (n := 10) (S := fun w' => w'.cell? ⟨gb670, 0, none⟩ = some (.int .i64 a0_0) ∧ w'.cell? ⟨gb670, 1, none⟩ = some (.int .i64 a0_1) ∧ w'.cell? ⟨gb670, 2, none⟩ = some (.slice A0_2 l0_2.length c0_2)) (ds := []) #[false, false, false, false, false, false, false, false, false, false] (by kernel_rfl) rfl rfl ⟨(blk_cell BK670.out 0).trans rfl, (blk_cell BK670.out 1).trans rfl, (blk_cell BK670.out 2).trans rfl⟩ (fun hHeld => ?_); refine with_tabW impl_copyBoard.tab1 impl_copyBoard.bits1 (fun HT_ HW_ => ?_)
  generalize w4.drew = w5 at BK670 BK671 HB hHeld ⊢
  refine pure_ (i := 0) (N := some 3) (v := ?_) (a' := ?_) #[true, false, false, false, false, false, false, false, false, false] rfl rfl (any_of HT_.out (by kernel_rfl)) (fun _ _ _ h => h) (Or.inl ⟨by rfl, ?_⟩) ?_ ?_
  rotate_left
  ·intro w'
   go_simp
   with_reducible rfl
  rotate_left
  ·simp only [Act.put, za_, zb_, zc_, i64_w, i32_w]
   rfl
  refine pure_ (i := 2) (N := some 5) (v := ?_) (a' := ?_) #[true, false, true, false, false, false, false, false, false, false] rfl rfl (any_of HT_.out (by kernel_rfl)) (fun _ _ _ h => h) (Or.inl ⟨by rfl, ?_⟩) ?_ ?_
  rotate_left
  ·intro w'
   go_simp
   with_reducible rfl
  rotate_left
  ·simp only [Act.put, za_, zb_, zc_, i64_w, i32_w]
   rfl
  refine pure_ (i := 5) (N := some 8) (v := ?_) (a' := ?_) #[true, false, true, false, false, true, false, false, false, false] rfl rfl (any_of HT_.out (by kernel_rfl)) (fun _ _ _ h => h) (Or.inl ⟨by rfl, ?_⟩) ?_ ?_
  rotate_left
  ·intro w'
   go_simp
   with_reducible rfl
  rotate_left
  ·simp only [Act.put, za_, zb_, zc_, i64_w, i32_w]
   rfl
  refine take_ (i := 1) (N := some 4) (v := ?_) (a' := ?_) #[true, true, true, false, false, true, false, false, false, false] rfl rfl (take_ofW HT_.out HW_.out (by kernel_rfl)) (fun _ _ _ h => h) (Or.inl ⟨by rfl, ?_⟩) hHeld ?_ ?_
  rotate_left
  ·rintro w' ⟨s0, s1, s2⟩
   go_simp
   with_reducible rfl
  rotate_left
  ·simp only [Act.put, za_, zb_, zc_, i64_w, i32_w]
   rfl
  refine take_ (i := 3) (N := some 6) (v := ?_) (a' := ?_) #[true, true, true, true, false, true, false, false, false, false] rfl rfl (take_ofW HT_.out HW_.out (by kernel_rfl)) (fun _ _ _ h => h) (Or.inl ⟨by rfl, ?_⟩) hHeld ?_ ?_
  rotate_left
  ·rintro w' ⟨s0, s1, s2⟩
   go_simp
   with_reducible rfl
  rotate_left
  ·simp only [Act.put, za_, zb_, zc_, i64_w, i32_w]
   rfl
  refine take_ (i := 6) (N := some 9) (v := ?_) (a' := ?_) #[true, true, true, true, false, true, true, false, false, false] rfl rfl (take_ofW HT_.out HW_.out (by kernel_rfl)) (fun _ _ _ h => h) (Or.inl ⟨by rfl, ?_⟩) hHeld ?_ ?_
  rotate_left
  ·rintro w' ⟨s0, s1, s2⟩
   go_simp
   with_reducible rfl
  rotate_left
  ·simp only [Act.put, za_, zb_, zc_, i64_w, i32_w]
   rfl
  refine one_ (i := 4) (N := some 7) #[true, true, true, true, true, true, true, false, false, false] rfl rfl (one_of HT_.out (by kernel_rfl)) (by decide) (fun K hK => ?_)
  refine Kd.R_lit_step k78 _ 78 ?hg (N := 7) ?hd (xs := ([] : List (S78))) (inner := []) (ok := fun _ => True) (okp := fun _ => True) ?hr ?hp (fun _ hk => hk) trivial (Below.refl _ _) (Nat.le_refl _) (by simp) ?_; (case hd => rfl); (case hg => rfl); (case hr => first | (go_simp; done) | (go_simp; rfl)); (case hp => exact (Reps.none _ _))
  intro v673 w6 ho7 hb hg_ hnew_
  clear hg_ hnew_
  (first | rw [← Ny672.out] at ho7 | (simp only [Int.reduceToNat] at ho7; rw [← Ny672.out] at ho7))
  refine ev4 (Kd.R_lower ho7 (below_size (bm HB))) (kb BK670 hb) (kb BK671 hb) (bs HB hb) ?_
  clear BK670 BK671 HB
  intro HO674 BK670 BK671 HB
  clear hb ho7
  refine hK.out _ _ ⟨(blk_cell BK670.out 0).trans rfl, (blk_cell BK670.out 1).trans rfl, (blk_cell BK670.out 2).trans rfl⟩ (fun hHeld => ?_)
  clear hK K
  refine norm_ (a' := ?_) ?_ ?_
  rotate_left
  ·show Act.put _ (some 7) _ = _
   simp only [Act.put, za_, zb_, zc_, i64_w, i32_w]
   rfl
  refine one_ (i := 7) (N := some 10) #[true, true, true, true, true, true, true, true, false, false] rfl rfl (one_of HT_.out (by kernel_rfl)) (by decide) (fun K hK => ?_)
  refine Kd.R_append_rows_step k78 (w0 := w) w.heap.size (by rfl) (.tmp 7) (.tmp 9) 33 78 (.agg #[(.int .i64 0), (.int .i64 0)]) 16 rfl Try.underlying33 info78 rfl (by decide) (by omega) v673 y672 l0_2 _ _ _ (fun _ => True) (fun _ => False) rfl rfl ?aO ?aR (fun _ _ h => h) (fun _ h => h.elim) ?aF ?aB ?aS ?aL ?_
  (case aR => exact Kd.C_mv (Kd.C_below HR0_2.out HB.out))
  (case aB => exact (bm HB))
  (case aF => exact (fun _ _ => trivial))
  (case aO => exact (Kd.R_mv HO674.out))
  (case aS => exact (below_size (bm HB)))
  (case aL => have := LMc2.out; omega)
  intro v676 w8 ho hb hg hat
  rw [← Ny675.out] at ho
  refine ev4 (blk_grown (km_ BK670) hg (Kd.R_ne HO674.out BK670.out (by decide))) (blk_grown (km_ BK671) hg (Kd.R_ne HO674.out BK671.out (by decide))) (hb) (ho) ?_
  clear BK670 BK671 HB HO674
  intro BK670 BK671 HB HO677
  clear ho hb hg hat
  obtain ⟨Ao9, co9, eo9⟩ := Kd.R_slice HO677.out
  (first | subst eo9 | (injection eo9 with f1_ f2_ f3_; have f4_ := f1_.symm; have f5_ := f3_.symm; clear f1_ f2_ f3_; subst f4_; subst f5_))
  refine hK.out _ _ ⟨(blk_cell BK670.out 0).trans rfl, (blk_cell BK670.out 1).trans rfl, (blk_cell BK670.out 2).trans rfl⟩ (fun hHeld => ?_)
  clear hK K
  refine norm_ (a' := ?_) ?_ ?_
  rotate_left
  ·show Act.put _ (some 10) _ = _
   simp only [Act.put, za_, zb_, zc_, i64_w, i32_w]
   rfl
  refine pure_ (i := 8) (N := some 11) (v := ?_) (a' := ?_) #[true, true, true, true, true, true, true, true, true, false] rfl rfl (any_of HT_.out (by kernel_rfl)) (fun _ _ _ h => h) (Or.inl ⟨by rfl, ?_⟩) ?_ ?_
  rotate_left
  ·intro w'
   go_simp
   with_reducible rfl
  rotate_left
  ·simp only [Act.put, za_, zb_, zc_, i64_w, i32_w]
   rfl
  refine one_ (i := 9) (N := none) #[true, true, true, true, true, true, true, true, true, true] rfl rfl (one_of HT_.out (by kernel_rfl)) (by decide) (fun K hK => ?_)
  have hs10 : w8.cell? ⟨gb671, 0, none⟩ = some (.int .i64 0) := (blk_cell BK671.out 0).trans rfl
  have hfs10 := blk_frozen BK671.out 0
  have hns10_0 := NB670_671.out
  have hms10_0 := NB671_670.out
  have hs11 : w8.cell? ⟨gb671, 1, none⟩ = some (.int .i64 0) := (blk_cell BK671.out 1).trans rfl
  have hfs11 := blk_frozen BK671.out 1
  have hns11_0 := NB670_671.out
  have hms11_0 := NB671_670.out
  have hs12 : w8.cell? ⟨gb671, 2, none⟩ = some (.slice none 0 0) := (blk_cell BK671.out 2).trans rfl
  have hfs12 := blk_frozen BK671.out 2
  have hns12_0 := NB670_671.out
  have hms12_0 := NB671_670.out
  refine skip_ (w1 := ?_) (by rfl) rfl ?_ ?_
  rotate_left
  ·go_simp
   rfl
  refine hK.out _ _ ⟨((cell_far (p := ⟨gb671, _, none⟩) NB670_671.out _).trans (((cell_far (p := ⟨gb671, _, none⟩) NB670_671.out _).trans (((cell_far (p := ⟨gb671, _, none⟩) NB670_671.out _).trans (hHeld.1)))))), ((cell_far (p := ⟨gb671, _, none⟩) NB670_671.out _).trans (((cell_far (p := ⟨gb671, _, none⟩) NB670_671.out _).trans (((cell_far (p := ⟨gb671, _, none⟩) NB670_671.out _).trans (hHeld.2.1)))))), ((cell_far (p := ⟨gb671, _, none⟩) NB670_671.out _).trans (((cell_far (p := ⟨gb671, _, none⟩) NB670_671.out _).trans (((cell_far (p := ⟨gb671, _, none⟩) NB670_671.out _).trans (hHeld.2.2))))))⟩ (fun hHeld => ?_)
  clear hK K
  refine done_ (done_of HT_.out (by kernel_rfl)) ?_
  try go_wp2
  refine bodyPost_ret (results_cell_row rfl _ _ gb671 48 #[.int .i64 a0_0, .int .i64 a0_1, .slice Ao9 y675.length co9] (0, 0) _ rfl (fp BK671 rfl) Try.underlying48 rfl (by kernel_rfl)) rfl ?_
  exact ⟨_, by first | rfl | (simp [e0_, e1_] <;> rfl) | (simp [*, e0_, e1_] <;> rfl), Kd.R_mv (Kd.R_mono (ok' := fun k_ => True) (Kd.R_far (p := ⟨gb671, 2, none⟩) (Kd.R_far (p := ⟨gb671, 1, none⟩) (Kd.R_far (p := ⟨gb671, 0, none⟩) (Kd.R_types HO677.out BK671.out (by decide)) (fun _ hk => hk.2) (.int .i64 a0_0)) (fun _ hk => hk.2) (.int .i64 a0_1)) (fun _ hk => hk.2) (.slice Ao9 y675.length co9)) (fun _ hk => trivial)), bm HB⟩
 ·rw [if_neg c2] at H
  exact absurd H (by simp)

/-! ### impl_GoesTo: function 134 -/
mutual
def impl_GoesTo.j0 : Nat → Int → Bool → Int → Int → Option (Int × Bool)
 | 0, _, _, _, _ => none
 | k + 1, x1, x21, x679000, x679001 => if x21 = true then (some (0, false)) else (if x679000 = 1 then (some ((-1), true)) else (if x679000 = 2 then (some (1, true)) else (if x679000 = 3 then (impl_GoesTo.j1 k x1 x679000 (x679000 == 3) x679000 x679001) else (impl_GoesTo.j1 k x1 x679000 (x679000 == 6) x679000 x679001))))
def impl_GoesTo.j1 : Nat → Int → Int → Bool → Int → Int → Option (Int × Bool)
 | 0, _, _, _, _, _ => none
 | k + 1, x1, x23, x28, x679000, x679001 => if x28 = true then (some (wrap64 ((wrap64 (2 * x679001)) - 1), true)) else (if x23 = 4 then (some (wrap64 (-x1), true)) else (some (0, true)))
end
def impl_GoesTo.f (k : Nat) (a0_0 : Int) (a0_1 : Int) (a1 : Int) : Option (Int × Bool) := (impl_IsCell.f a0_0 a0_1).bind fun t679 => (if t679 = true then (if a1 < (-1) then (impl_GoesTo.j0 k a1 true a0_0 a0_1) else (if a1 > 1 then (impl_GoesTo.j0 k a1 true a0_0 a0_1) else (impl_GoesTo.j0 k a1 (a0_0 == 5) a0_0 a0_1))) else (impl_GoesTo.j0 k a1 true a0_0 a0_1))
set_option maxHeartbeats 8000000 in
set_option maxRecDepth 100000 in
theorem impl_GoesTo.calls (k : Nat) (a0_0 : Int) (a0_1 : Int) (a1 : Int) (r1 : Int) (r2 : Bool) (w : World) (h : impl_GoesTo.f k a0_0 a0_1 a1 = some (r1, r2)) :
  Calls Try.prog 134 #[.agg #[.int .i64 a0_0, .int .i64 a0_1], .int .i64 a1] w fun e w' => e = .returned (.tuple #[.int .i64 r1, .bool r2]) ∧ Below w.heap.size w w' := by
 have HB := Aside0.mk (Below.refl w.heap.size w)
 have H : ((impl_IsCell.f a0_0 a0_1).bind fun t679 => (if t679 = true then (if a1 < (-1) then (impl_GoesTo.j0 k a1 true a0_0 a0_1) else (if a1 > 1 then (impl_GoesTo.j0 k a1 true a0_0 a0_1) else (impl_GoesTo.j0 k a1 (a0_0 == 5) a0_0 a0_1))) else (impl_GoesTo.j0 k a1 true a0_0 a0_1))) = some (r1, r2) := h
 clear h
 have HC3 := Aside0.mk H
 clear H
 go_enter Try.func134, Try.ntmps134
 go_upto_region 1 with (first | ((with_reducible refine gate_dst (N := 2) rfl ?_); refine box_event ?hg (N := 2) ?hd (cs := #[.int .i64 a0_0, .int .i64 a0_1]) (t := 78) ?hr ?_; (case hd => rfl); (case hg => rfl); (case hr => first | (go_simp; done) | (go_simp; rfl)); intro gb678 hg w4 hbox hb; refine ev4 (bs HB hb) (hbox) (gle hg HB) (gle hg HB) ?_; clear HB; intro HB BK678 GW678 GE678; clear hb hbox hg))
 (try simp only [Act.put, za_, zb_, zc_])
 go_cut [21] (fun v21 wc => ∃ (kq : Nat) (x21_2 : Bool), v21 = .bool x21_2 ∧ Aside0 (impl_GoesTo.j0 kq a1 x21_2 a0_0 a0_1 = some (r1, r2)) ∧ Aside0 (kq ≤ k) ∧ Aside0 (wc.heap[gb678]? = some (.cells #[.int .i64 a0_0, .int .i64 a0_1] 78 (0, 0))) ∧ Aside0 (Below w.heap.size w wc))
 case first =>
  have H := HC3.out
  clear HC3
  replace H := Option.bind_eq_some_iff.mp H
  obtain ⟨t679, A50, H⟩ := H
  replace H : (if t679 = true then (if a1 < (-1) then (impl_GoesTo.j0 k a1 true a0_0 a0_1) else (if a1 > 1 then (impl_GoesTo.j0 k a1 true a0_0 a0_1) else (impl_GoesTo.j0 k a1 (a0_0 == 5) a0_0 a0_1))) else (impl_GoesTo.j0 k a1 true a0_0 a0_1)) = some (r1, r2) := H
  have A5 := Aside0.mk A50
  clear A50
  by_cases c6 : t679 = true
  ·subst c6
   have H1 : (if a1 < (-1) then (impl_GoesTo.j0 k a1 true a0_0 a0_1) else (if a1 > 1 then (impl_GoesTo.j0 k a1 true a0_0 a0_1) else (impl_GoesTo.j0 k a1 (a0_0 == 5) a0_0 a0_1))) = some (r1, r2) := by rw [if_pos rfl] at H; exact H
   clear H
   have H := H1
   clear H1
   by_cases c7 : a1 < (-1)
   ·rw [if_pos c7] at H
    have c7b0 : decide (a1 < (-1)) = true := decide_eq_true c7
    clear c7
    (first | rw [c7b0] | (simp only [i64_w, i32_w]; rw [c7b0]) | skip)
    have H' := Aside0.mk H
    clear H
    obtain ⟨hcz8_0, hcz8_1, hfz8_0, hfz8_1⟩ := bt2 BK678
    go_wp2_with (first | ((with_reducible refine gate_callee (f := 63) rfl ?_); refine goesL_ (some 7) rfl rfl Try.func63 (by kernel_rfl) rfl #[.agg #[.int .i64 a0_0, .int .i64 a0_1]] rfl (by (try simp only [ma_, mb_, mc_]); first | done | rfl | (simp only [List.length_drop, List.length_take]; rfl)) ?_; (with_reducible refine (impl_IsCell.calls a0_0 a0_1 true _ A5.out).mono ?_); rintro e w9 ⟨rfl, hb⟩; refine ⟨_, rfl, ?_⟩; refine ev2 (kb BK678 hb) (bs HB hb) ?_; clear BK678 HB; intro BK678 HB; (try clear hb); (try clear hb2); (try clear hk); (try clear hi)))
    go_meet
    case rel => exact ⟨_, (true), (by first | rfl | (simp; done) | (simp [*]; done)), H', ⟨by first | omega | exact Nat.le_refl _⟩, ⟨km_ BK678⟩, ⟨bm HB⟩⟩
   ·rw [if_neg c7] at H
    have c7b0 : decide (a1 < (-1)) = false := decide_eq_false c7
    clear c7
    (first | rw [c7b0] | (simp only [i64_w, i32_w]; rw [c7b0]) | skip)
    by_cases c10 : a1 > 1
    ·rw [if_pos c10] at H
     have c10b0 : decide (1 < a1) = true := decide_eq_true c10
     clear c10
     have H' := Aside0.mk H
     clear H
     obtain ⟨hcz11_0, hcz11_1, hfz11_0, hfz11_1⟩ := bt2 BK678
     go_wp2_with (first | ((with_reducible refine gate_callee (f := 63) rfl ?_); refine goesL_ (some 7) rfl rfl Try.func63 (by kernel_rfl) rfl #[.agg #[.int .i64 a0_0, .int .i64 a0_1]] rfl (by (try simp only [ma_, mb_, mc_]); first | done | rfl | (simp only [List.length_drop, List.length_take]; rfl)) ?_; (with_reducible refine (impl_IsCell.calls a0_0 a0_1 true _ A5.out).mono ?_); rintro e w12 ⟨rfl, hb⟩; refine ⟨_, rfl, ?_⟩; refine ev2 (kb BK678 hb) (bs HB hb) ?_; clear BK678 HB; intro BK678 HB; (try clear hb); (try clear hb2); (try clear hk); (try clear hi)))
     go_meet
     case rel => exact ⟨_, (true), (by first | rfl | (simp; done) | (simp [*]; done)), H', ⟨by first | omega | exact Nat.le_refl _⟩, ⟨km_ BK678⟩, ⟨bm HB⟩⟩
    ·rw [if_neg c10] at H
     have c10b0 : decide (1 < a1) = false := decide_eq_false c10
     clear c10
     have H' := Aside0.mk H
     clear H
     obtain ⟨hcz13_0, hcz13_1, hfz13_0, hfz13_1⟩ := bt2 BK678
     go_wp2_with (first | ((with_reducible refine gate_callee (f := 63) rfl ?_); refine goesL_ (some 7) rfl rfl Try.func63 (by kernel_rfl) rfl #[.agg #[.int .i64 a0_0, .int .i64 a0_1]] rfl (by (try simp only [ma_, mb_, mc_]); first | done | rfl | (simp only [List.length_drop, List.length_take]; rfl)) ?_; (with_reducible refine (impl_IsCell.calls a0_0 a0_1 true _ A5.out).mono ?_); rintro e w14 ⟨rfl, hb⟩; refine ⟨_, rfl, ?_⟩; refine ev2 (kb BK678 hb) (bs HB hb) ?_; clear BK678 HB; intro BK678 HB; (try clear hb); (try clear hb2); (try clear hk); (try clear hi); obtain ⟨hcz15_0, hcz15_1, hfz15_0, hfz15_1⟩ := bt2 BK678))
     go_meet
     case rel => exact ⟨_, ((a0_0 == 5)), (by first | rfl | (simp; done) | (simp [*]; done)), H', ⟨by first | omega | exact Nat.le_refl _⟩, ⟨km_ BK678⟩, ⟨bm HB⟩⟩
  ·replace c6 := Bool.eq_false_iff.mpr c6
   subst c6
   have H1 : (impl_GoesTo.j0 k a1 true a0_0 a0_1) = some (r1, r2) := by rw [if_neg (show ¬ (false = true) by decide)] at H; exact H
   clear H
   have H := H1
   clear H1
   have H' := Aside0.mk H
   clear H
   obtain ⟨hcz16_0, hcz16_1, hfz16_0, hfz16_1⟩ := bt2 BK678
   go_wp2_with (first | ((with_reducible refine gate_callee (f := 63) rfl ?_); refine goesL_ (some 7) rfl rfl Try.func63 (by kernel_rfl) rfl #[.agg #[.int .i64 a0_0, .int .i64 a0_1]] rfl (by (try simp only [ma_, mb_, mc_]); first | done | rfl | (simp only [List.length_drop, List.length_take]; rfl)) ?_; (with_reducible refine (impl_IsCell.calls a0_0 a0_1 false _ A5.out).mono ?_); rintro e w17 ⟨rfl, hb⟩; refine ⟨_, rfl, ?_⟩; refine ev2 (kb BK678 hb) (bs HB hb) ?_; clear BK678 HB; intro BK678 HB; (try clear hb); (try clear hb2); (try clear hk); (try clear hi)))
   go_meet
   case rel => exact ⟨_, (true), (by first | rfl | (simp; done) | (simp [*]; done)), H', ⟨by first | omega | exact Nat.le_refl _⟩, ⟨km_ BK678⟩, ⟨bm HB⟩⟩
 case rest =>
  clear HC3
  try clear c1
  try clear c13
  obtain ⟨kq, x21_2, rfl, HA, HJ2, BK678, HB⟩ := hcut
  cases kq with
  | zero => exact absurd HA.out (by simp [impl_GoesTo.j0])
  | succ kj2 =>
   have H := HA.out
   clear HA
   simp only [impl_GoesTo.j0] at H
   by_cases c18 : x21_2 = true
   ·subst c18
    have H1 : (some (0, false)) = some (r1, r2) := by rw [if_pos rfl] at H; exact H
    clear H
    have H := H1
    clear H1
    simp only [Option.some.injEq, Prod.mk.injEq] at H
    obtain ⟨rfl, rfl⟩ := H
    go_wp2
    go_ret2
    exact ⟨by first | rfl | (simp [e0_, e1_] <;> rfl) | (simp [*, e0_, e1_] <;> rfl), bm HB⟩
   ·replace c18 := Bool.eq_false_iff.mpr c18
    subst c18
    have H1 : (if a0_0 = 1 then (some ((-1), true)) else (if a0_0 = 2 then (some (1, true)) else (if a0_0 = 3 then (impl_GoesTo.j1 kj2 a1 a0_0 (a0_0 == 3) a0_0 a0_1) else (impl_GoesTo.j1 kj2 a1 a0_0 (a0_0 == 6) a0_0 a0_1)))) = some (r1, r2) := by rw [if_neg (show ¬ (false = true) by decide)] at H; exact H
    clear H
    have H := H1
    clear H1
    by_cases c19 : a0_0 = 1
    ·rw [if_pos c19] at H
     have c19b0 : (a0_0 == 1) = true := beq_iff_eq.mpr c19
     have c19b1 : (a0_0 != 1) = false := bne_eq_false_iff_eq.mpr c19
     clear c19
     simp only [Option.some.injEq, Prod.mk.injEq] at H
     obtain ⟨rfl, rfl⟩ := H
     obtain ⟨hcz20_0, hcz20_1, hfz20_0, hfz20_1⟩ := bt2 BK678
     go_wp2
     go_ret2
     exact ⟨by first | rfl | (simp [e0_, e1_] <;> rfl) | (simp [*, e0_, e1_] <;> rfl), bm HB⟩
    ·rw [if_neg c19] at H
     have c19b0 : (a0_0 == 1) = false := beq_eq_false_iff_ne.mpr c19
     have c19b1 : (a0_0 != 1) = true := bne_iff_ne.mpr c19
     by_cases c21 : a0_0 = 2
     ·rw [if_pos c21] at H
      have c21b0 : (a0_0 == 2) = true := beq_iff_eq.mpr c21
      have c21b1 : (a0_0 != 2) = false := bne_eq_false_iff_eq.mpr c21
      clear c21
      simp only [Option.some.injEq, Prod.mk.injEq] at H
      obtain ⟨rfl, rfl⟩ := H
      obtain ⟨hcz22_0, hcz22_1, hfz22_0, hfz22_1⟩ := bt2 BK678
      go_wp2
      go_ret2
      exact ⟨by first | rfl | (simp [e0_, e1_] <;> rfl) | (simp [*, e0_, e1_] <;> rfl), bm HB⟩
     ·rw [if_neg c21] at H
      have c21b0 : (a0_0 == 2) = false := beq_eq_false_iff_ne.mpr c21
      have c21b1 : (a0_0 != 2) = true := bne_iff_ne.mpr c21
      have HC23 := Aside0.mk H
      clear H
      obtain ⟨hcz24_0, hcz24_1, hfz24_0, hfz24_1⟩ := bt2 BK678
      go_upto_if 28 with (fail)
      go_cut [28] (fun v28 wc => ∃ (kq : Nat) (x28_22 : Bool), v28 = .bool x28_22 ∧ Aside0 (impl_GoesTo.j1 kq a1 a0_0 x28_22 a0_0 a0_1 = some (r1, r2)) ∧ Aside0 (kq ≤ kj2) ∧ Aside0 (wc.heap[gb678]? = some (.cells #[.int .i64 a0_0, .int .i64 a0_1] 78 (0, 0))) ∧ Aside0 (Below w.heap.size w wc))
      case first =>
       have H := HC23.out
       clear HC23
       by_cases c25 : a0_0 = 3
       ·rw [if_pos c25] at H
        have c25b0 : (a0_0 == 3) = true := beq_iff_eq.mpr c25
        have c25b1 : (a0_0 != 3) = false := bne_eq_false_iff_eq.mpr c25
        clear c25
        (first | rw [c25b0] | (simp only [i64_w, i32_w]; rw [c25b0]) | skip)
        have H' := Aside0.mk H
        clear H
        go_wp2
        go_meet
        case rel => exact ⟨_, ((a0_0 == 3)), (by first | rfl | (simp; done) | (simp [*]; done)), H', ⟨by have := HJ2.out; first | omega | exact Nat.le_refl _⟩, ⟨km_ BK678⟩, ⟨bm HB⟩⟩
       ·rw [if_neg c25] at H
        have c25b0 : (a0_0 == 3) = false := beq_eq_false_iff_ne.mpr c25
        have c25b1 : (a0_0 != 3) = true := bne_iff_ne.mpr c25
        (first | rw [c25b0] | (simp only [i64_w, i32_w]; rw [c25b0]) | skip)
        have H' := Aside0.mk H
        clear H
        go_wp2
        go_meet
        case rel => exact ⟨_, ((a0_0 == 6)), (by first | rfl | (simp; done) | (simp [*]; done)), H', ⟨by have := HJ2.out; first | omega | exact Nat.le_refl _⟩, ⟨km_ BK678⟩, ⟨bm HB⟩⟩
      case rest =>
       clear HC23
       try clear c1
       try clear c2
       try clear c13
       try clear c18
       try clear c19
       try clear c19b0
       try clear c19b1
       try clear c21
       try clear c21b0
       try clear c21b1
       try clear hcz24_0
       try clear hcz24_1
       try clear hfz24_0
       try clear hfz24_1
       obtain ⟨kq, x28_22, rfl, HA, HJ22, BK678, HB⟩ := hcut
       cases kq with
       | zero => exact absurd HA.out (by simp [impl_GoesTo.j1])
       | succ kj22 =>
        have H := HA.out
        clear HA
        simp only [impl_GoesTo.j1] at H
        by_cases c26 : x28_22 = true
        ·subst c26
         have H1 : (some (wrap64 ((wrap64 (2 * a0_1)) - 1), true)) = some (r1, r2) := by rw [if_pos rfl] at H; exact H
         clear H
         have H := H1
         clear H1
         simp only [Option.some.injEq, Prod.mk.injEq] at H
         obtain ⟨rfl, rfl⟩ := H
         obtain ⟨hcz27_0, hcz27_1, hfz27_0, hfz27_1⟩ := bt2 BK678
         go_wp2
         go_ret2
         exact ⟨by first | rfl | (simp [e0_, e1_] <;> rfl) | (simp [*, e0_, e1_] <;> rfl), bm HB⟩
        ·replace c26 := Bool.eq_false_iff.mpr c26
         subst c26
         have H1 : (if a0_0 = 4 then (some (wrap64 (-a1), true)) else (some (0, true))) = some (r1, r2) := by rw [if_neg (show ¬ (false = true) by decide)] at H; exact H
         clear H
         have H := H1
         clear H1
         by_cases c28 : a0_0 = 4
         ·rw [if_pos c28] at H
          have c28b0 : (a0_0 == 4) = true := beq_iff_eq.mpr c28
          have c28b1 : (a0_0 != 4) = false := bne_eq_false_iff_eq.mpr c28
          clear c28
          simp only [Option.some.injEq, Prod.mk.injEq] at H
          obtain ⟨rfl, rfl⟩ := H
          go_wp2
          go_ret2
          exact ⟨by first | rfl | (simp [e0_, e1_] <;> rfl) | (simp [*, e0_, e1_] <;> rfl), bm HB⟩
         ·rw [if_neg c28] at H
          have c28b0 : (a0_0 == 4) = false := beq_eq_false_iff_ne.mpr c28
          have c28b1 : (a0_0 != 4) = true := bne_iff_ne.mpr c28
          simp only [Option.some.injEq, Prod.mk.injEq] at H
          obtain ⟨rfl, rfl⟩ := H
          go_wp2
          go_ret2
          exact ⟨by first | rfl | (simp [e0_, e1_] <;> rfl) | (simp [*, e0_, e1_] <;> rfl), bm HB⟩

/-! ### impl_turnGroup: function 135 -/
def impl_turnGroup.l0 : Nat → List Int → Int → Int → Int → Int → Int → List (S78) → Option ((List (S78)))
 | 0, _, _, _, _, _, _, _ => none
 | k + 1, x1, x2, x9, x10, x681000, x681001, x681002 => if x10 < x9 then (if 0 ≤ x10 then (if x10 < (x681002.length : Int) then (if ((rd_T78 x681002 x10).f0) = 6 then (if x10 < (x1.length : Int) then (if 0 ≤ x2 then (if x2 < (x1.length : Int) then (if (rd x1 x10) = (rd x1 x2) then (impl_turnGroup.l0 k x1 x2 x9 (wrap64 (x10 + 1)) x681000 x681001 (x681002.set (x10 : Int).toNat (⟨(rd_T78 x681002 x10).f0, wrap64 (1 - ((rd_T78 x681002 x10).f1))⟩ : S78))) else (impl_turnGroup.l0 k x1 x2 x9 (wrap64 (x10 + 1)) x681000 x681001 x681002)) else (none)) else (none)) else (none)) else (impl_turnGroup.l0 k x1 x2 x9 (wrap64 (x10 + 1)) x681000 x681001 x681002)) else (none)) else (none)) else (some x681002)
def impl_turnGroup.f (k : Nat) (a0_0 : Int) (a0_1 : Int) (l0_2 : List (S78)) (l1 : List Int) (a2 : Int) : Option ((List (S78))) := impl_turnGroup.l0 k l1 a2 (l0_2.length : Int) 0 a0_0 a0_1 l0_2
def impl_turnGroup.T4 : Bool × List (List Nat × List Nat) := (true, [([], []), ([0], [0]), ([], []), ([1, 2], [1, 2]), ([3], [3]), ([4], [4]), ([5], [5]), ([6], [6]), ([7], [7]), ([7], [7]), ([8, 9, 7], [7, 8, 9]), ([10, 7], [7, 10]), ([7], [7]), ([7], [7]), ([12, 13, 7], [7, 12, 13]), ([14, 7], [7, 14]), ([11, 15, 7], [7, 11, 15]), ([7, 16], [7, 16])])
def impl_turnGroup.B4 : List Nat := [0, 1, 0, 7, 15, 31, 63, 127, 255, 255, 1023, 2047, 255, 255, 12543, 28927, 65535, 131071]
theorem impl_turnGroup.tab4 : rtab .any (opsOf Try.f135 4) = impl_turnGroup.T4 := by kernel_rfl
theorem impl_turnGroup.bits4 : waitsOk impl_turnGroup.T4.2 impl_turnGroup.B4 = true := by kernel_rfl
def impl_turnGroup.T5 : Bool × List (List Nat × List Nat) := (true, [([], []), ([0], [0]), ([], []), ([], []), ([3], [3]), ([], []), ([4, 5], [4, 5]), ([6], [6]), ([7], [7]), ([8], [8]), ([1, 2, 0, 1, 2, 3, 4, 5, 6, 7, 8, 9], [1, 2]), ([10, 0, 1, 2, 3, 4, 5, 6, 7, 8, 9], [10]), ([11, 9, 0, 1, 2, 3, 4, 5, 6, 7, 8, 9], [9, 11])])
def impl_turnGroup.B5 : List Nat := [0, 1, 0, 0, 8, 0, 56, 120, 248, 504, 1023, 2047, 4095]
theorem impl_turnGroup.tab5 : rtab .any (opsOf Try.f135 5) = impl_turnGroup.T5 := by kernel_rfl
theorem impl_turnGroup.bits5 : waitsOk impl_turnGroup.T5.2 impl_turnGroup.B5 = true := by kernel_rfl
set_option maxHeartbeats 8000000 in
set_option maxRecDepth 100000 in
theorem impl_turnGroup.calls (k : Nat) (a0_0 : Int) (a0_1 : Int) (P0_2_ : Nat → Prop) (u9000_ : Value) (l0_2 : List (S78)) (A1 : Option Addr) (c1 : Nat) (l1 : List Int) (a2 : Int) (r : List (S78)) (w0 w : World) (hB : Below w0.heap.size w0 w) (ho0_2 : Kd.R k78 78 w w0.heap.size P0_2_ u9000_ l0_2) (hr1 : ∀ W_, Kept w W_ (fun k_ => P0_2_ k_) → Kd.C (Kd.int .i64) W_ A1 l1.length l1) (hc1 : l1.length ≤ c1) (h : impl_turnGroup.f k a0_0 a0_1 l0_2 l1 a2 = some r) :
  Calls Try.prog 135 #[.agg #[.int .i64 a0_0, .int .i64 a0_1, u9000_], .slice A1 l1.length c1, .int .i64 a2] w fun e w' => e = .returned (.tuple #[]) ∧ Kd.R k78 78 w' w0.heap.size (fun k_ => (P0_2_ k_ ∨ w.heap.size ≤ k_)) u9000_ r ∧ Below w0.heap.size w0 w' ∧ Kept w w' (fun k_ => P0_2_ k_) := by
 have HO0_2 := Aside0.mk (show Kd.R k78 78 w w0.heap.size (fun k_ => (P0_2_ k_ ∨ w.heap.size ≤ k_)) u9000_ l0_2 from Kd.R_mono ho0_2 (fun k_ hk => (.inl hk)))
 have HR1 := Aside0.mk hr1
 have HC1 := Aside0.mk hc1
 clear hr1 hc1
 have HK := Aside0.mk (Kept.refl w (fun k_ => P0_2_ k_))
 have HW0 := Aside0.mk hB.size
 have HB := Aside0.mk hB
 clear hB
 have H : (impl_turnGroup.l0 k l1 a2 (l0_2.length : Int) 0 a0_0 a0_1 l0_2) = some r := h
 clear h
 have H' := Aside0.mk H
 clear H
 obtain ⟨Ao4, co4, eo4⟩ := Kd.R_slice HO0_2.out
 subst eo4
 go_enter Try.func135, Try.ntmps135
 go_wp2_with (first | ((with_reducible refine gate_dst (N := 3) rfl ?_); refine box_event ?hg (N := 3) ?hd (cs := #[.int .i64 a0_0, .int .i64 a0_1, .slice Ao4 l0_2.length co4]) (t := 48) ?hr ?_; (case hd => rfl); (case hg => rfl); (case hr => first | (go_simp; done) | (go_simp; rfl)); intro gb680 hg w5 hbox hb; refine ev6 (Kd.R_below (Kd.R_mv HO0_2.out) hb) (Kept.below (S := (fun k_ => P0_2_ k_)) (km HK) hb) (bs HB hb) (hbox) ((by rw [hg]; exact (by first | exact HK.out.1 | exact (show Kept w _ (fun k_ => P0_2_ k_) from km HK).1) : w.heap.size ≤ gb680)) (gle hg HB) ?_; clear HO0_2 HK HB; intro HO0_2 HK HB BK680 GW680 GE680; clear hb hbox hg; obtain ⟨hcz6_0, hcz6_1, hcz6_2, hfz6_0, hfz6_1, hfz6_2⟩ := bt3 BK680))
 go_loopg [10] k (fun kq v10 w' => ∃ (x10_1 : Int) (x681002_1 : List (S78)), v10 = .int .i64 x10_1 ∧ Aside0 (impl_turnGroup.l0 kq l1 a2 (l0_2.length : Int) x10_1 a0_0 a0_1 x681002_1 = some r) ∧ Aside0 (kq ≤ k) ∧ Aside0 (Kd.R k78 78 w' w0.heap.size (fun k_ => (P0_2_ k_ ∨ w.heap.size ≤ k_)) (.slice Ao4 l0_2.length co4) x681002_1) ∧ Aside0 (w'.heap[gb680]? = some (.cells #[.int .i64 a0_0, .int .i64 a0_1, (.slice Ao4 l0_2.length co4)] 48 (0, 0))) ∧ Aside0 (Kept w w' (fun k_ => P0_2_ k_)) ∧ Aside0 (Below w0.heap.size w0 w'))
 case atStart => exact ⟨(0), (l0_2), (by first | rfl | (simp; done) | (simp [*]; done)), H', ⟨Nat.le_refl _⟩, ⟨Kd.R_mv HO0_2.out⟩, ⟨km_ BK680⟩, ⟨km HK⟩, ⟨bm HB⟩⟩
 case round =>
  clear H'
  try clear c1
  try clear p2
  try clear hcz6_0
  try clear hcz6_1
  try clear hcz6_2
  try clear hfz6_0
  try clear hfz6_1
  try clear hfz6_2
  obtain ⟨x10_1, x681002_1, rfl, HA, HK1, HO_681002, BK680, HK, HB⟩ := hrel
  have hl681002_1 := (Kd.R_reads' HO_681002.out).1
  rw [hl681002_1] at HO_681002
  (try simp only [hl681002_1])
  (try simp only [hl681002_1] at BK680)
  cases gk with
  | zero => exact absurd HA.out (by simp [impl_turnGroup.l0])
  | succ k1 =>
   have H := HA.out
   clear HA
   simp only [impl_turnGroup.l0] at H
   by_cases c7 : x10_1 < (l0_2.length : Int)
   ·rw [if_pos c7] at H
    have c7b0 : decide (x10_1 < (l0_2.length : Int)) = true := decide_eq_true c7
    (try simp only [hl681002_1] at c7b0)
    clear c7
    by_cases c8 : 0 ≤ x10_1
    ·rw [if_pos c8] at H
     have c8b0 : decide (0 ≤ x10_1) = true := decide_eq_true c8
     clear c8
     by_cases c9 : x10_1 < (x681002_1.length : Int)
     ·rw [if_pos c9] at H
      have c9b0 : decide (x10_1 < (x681002_1.length : Int)) = true := decide_eq_true c9
      (try simp only [hl681002_1] at c9b0)
      clear c9
      by_cases c10 : ((rd_T78 x681002_1 x10_1).f0) = 6
      ·rw [if_pos c10] at H
       have c10b0 : (((rd_T78 x681002_1 x10_1).f0) == 6) = true := beq_iff_eq.mpr c10
       have c10b1 : (((rd_T78 x681002_1 x10_1).f0) != 6) = false := bne_eq_false_iff_eq.mpr c10
       clear c10
       by_cases c11 : x10_1 < (l1.length : Int)
       ·rw [if_pos c11] at H
        have c11b0 : decide (x10_1 < (l1.length : Int)) = true := decide_eq_true c11
        (try simp only [hl681002_1] at c11b0)
        clear c11
        by_cases c12 : 0 ≤ a2
        ·rw [if_pos c12] at H
         have c12b0 : decide (0 ≤ a2) = true := decide_eq_true c12
         clear c12
         by_cases c13 : a2 < (l1.length : Int)
         ·rw [if_pos c13] at H
          have c13b0 : decide (a2 < (l1.length : Int)) = true := decide_eq_true c13
          (try simp only [hl681002_1] at c13b0)
          clear c13
          by_cases c14 : (rd l1 x10_1) = (rd l1 a2)
          ·rw [if_pos c14] at H
           have c14b0 : ((rd l1 x10_1) == (rd l1 a2)) = true := beq_iff_eq.mpr c14
           have c14b1 : ((rd l1 x10_1) != (rd l1 a2)) = false := bne_eq_false_iff_eq.mpr c14
           clear c14
           obtain ⟨y685, hy685⟩ : ∃ y_ : List (S78), y_ = (x681002_1.set (x10_1 : Int).toNat (⟨(rd_T78 x681002_1 x10_1).f0, wrap64 (1 - ((rd_T78 x681002_1 x10_1).f1))⟩ : S78)) := ⟨_, rfl⟩
           replace H : (impl_turnGroup.l0 k1 l1 a2 (l0_2.length : Int) (wrap64 (x10_1 + 1)) a0_0 a0_1 y685) = some r := by first | (rw [hy685]; with_reducible exact H) | (have H2_ := (Option.bind_some _ _).symm.trans H; rw [hy685]; with_reducible exact H2_) | (have H2_ := (Option.bind_some _ _).symm.trans H; with_reducible exact H2_) | with_reducible exact H | (rw [hy685]; exact H) | exact H
           have Ny685 := Aside0.mk hy685
           clear hy685
           have H' := Aside0.mk H
           clear H
           try go_wp2
           refine ev4 (Kd.R_drew HO_681002.out) (blk_drew BK680.out) (Kept.drew HK.out) (below_drew1 HB.out) ?_
           clear HO_681002 BK680 HK HB
           intro HO_681002 BK680 HK HB
           have p681 : 0 ≤ (x10_1 : Int) := of_decide_eq_true (by first | (with_reducible assumption) | assumption)
           have q681 : x10_1 < (x681002_1.length : Int) := of_decide_eq_true (by first | (with_reducible assumption) | assumption)
           obtain ⟨ad681, e681, hx681_0, hx681_1⟩ := at_T78 (Kd.R_reads' HO_681002.out).2.2 x10_1 p681 q681
           cases e681
           replace p681 := eq_true p681
           replace q681 := eq_true q681
           have p682 : 0 ≤ (x10_1 : Int) := of_decide_eq_true (by first | (with_reducible assumption) | assumption)
           have q682 : x10_1 < (l1.length : Int) := of_decide_eq_true (by first | (with_reducible assumption) | assumption)
           obtain ⟨ad682, e682, hx682_0⟩ := Kd.at_int (Kd.C_kept_now HR1.out HK.out) x10_1 p682 q682
           have hw682_0 := hx682_0
           cases e682
           replace p682 := eq_true p682
           replace q682 := eq_true q682
           have p683 : 0 ≤ (a2 : Int) := of_decide_eq_true (by first | (with_reducible assumption) | assumption)
           have q683 : a2 < (l1.length : Int) := of_decide_eq_true (by first | (with_reducible assumption) | assumption)
           obtain ⟨ad683, e683, hx683_0⟩ := Kd.at_int (Kd.C_kept_now HR1.out HK.out) a2 p683 q683
           have hw683_0 := hx683_0
           obtain rfl : ad682 = ad683 := (by injection e683)
           replace p683 := eq_true p683
           replace q683 := eq_true q683
           refine start_ (n := 18) (S := fun w' => w'.cell? ⟨gb680, 0, none⟩ = some (.int .i64 a0_0) ∧ w'.cell? ⟨gb680, 1, none⟩ = some (.int .i64 a0_1) ∧ w'.cell? ⟨gb680, 2, none⟩ = some (.slice (some ad681) x681002_1.length co4) ∧ w'.cell? (ad681.add ((x10_1).toNat * 2)) = some (.int .i64 ((rd_T78 x681002_1 x10_1).f0)) ∧ w'.cell? ⟨(ad681.add ((x10_1).toNat * 2)).block, (ad681.add ((x10_1).toNat * 2)).off + 1, none⟩ = some (.int .i64 ((rd_T78 x681002_1 x10_1).f1)) ∧ w'.cell? (ad682.add (x10_1).toNat) = some (.int .i64 (rd l1 x10_1)) ∧ w'.cell? (ad682.add (a2).toNat) = some (.int .i64 (rd l1 a2))) (ds := []) #[false, false, false, false, false, false, false, false, false, false, false, false, false, false, false, false, false, false] (by kernel_rfl) rfl rfl ⟨(blk_cell BK680.out 0).trans rfl, (blk_cell BK680.out 1).trans rfl, (blk_cell BK680.out 2).trans rfl, hx681_0, hx681_1, (Kd.foot_int (HR1.out _ (by repeat (first | exact HK.out | apply Kept.alloc | apply Kept.drewN | apply Kept.drew))) x10_1 (of_eq_true p682) (of_eq_true q682)), (Kd.foot_int (HR1.out _ (by repeat (first | exact HK.out | apply Kept.alloc | apply Kept.drewN | apply Kept.drew))) a2 (of_eq_true p683) (of_eq_true q683))⟩ (fun hHeld => ?_); refine with_tabW impl_turnGroup.tab4 impl_turnGroup.bits4 (fun HT_ HW_ => ?_)
           generalize wr.drew = w16 at HO_681002 BK680 HK HB hx681_0 hx681_1 hx682_0 hx683_0 hHeld ⊢
           refine pure_ (i := 0) (N := some 13) (v := ?_) (a' := ?_) #[true, false, false, false, false, false, false, false, false, false, false, false, false, false, false, false, false, false] rfl rfl (any_of HT_.out (by kernel_rfl)) (fun _ _ _ h => h) (Or.inl ⟨by rfl, ?_⟩) ?_ ?_
           rotate_left
           ·intro w'
            go_simp
            with_reducible rfl
           rotate_left
           ·simp only [Act.put, za_, zb_, zc_, i64_w, i32_w]
            rfl
           refine pure_ (i := 2) (N := some 15) (v := ?_) (a' := ?_) #[true, false, true, false, false, false, false, false, false, false, false, false, false, false, false, false, false, false] rfl rfl (any_of HT_.out (by kernel_rfl)) (fun _ _ _ h => h) (Or.inl ⟨by rfl, ?_⟩) ?_ ?_
           rotate_left
           ·intro w'
            go_simp
            with_reducible rfl
           rotate_left
           ·simp only [Act.put, za_, zb_, zc_, i64_w, i32_w]
            rfl
           refine take_ (i := 1) (N := some 14) (v := ?_) (a' := ?_) #[true, true, true, false, false, false, false, false, false, false, false, false, false, false, false, false, false, false] rfl rfl (take_ofW HT_.out HW_.out (by kernel_rfl)) (fun _ _ _ h => h) (Or.inl ⟨by rfl, ?_⟩) hHeld ?_ ?_
           rotate_left
           ·rintro w' ⟨s0, s1, s2, s3, s4, s5, s6⟩
            go_simp
            with_reducible rfl
           rotate_left
           ·simp only [Act.put, za_, zb_, zc_, i64_w, i32_w]
            rfl
           refine pure_ (i := 3) (N := some 16) (v := ?_) (a' := ?_) #[true, true, true, true, false, false, false, false, false, false, false, false, false, false, false, false, false, false] rfl rfl (any_of HT_.out (by kernel_rfl)) (fun _ _ _ h => h) (Or.inl ⟨by rfl, ?_⟩) ?_ ?_
           rotate_left
           ·intro w'
            go_simp
            with_reducible rfl
           rotate_left
           ·simp only [Act.put, za_, zb_, zc_, i64_w, i32_w]
            rfl
           refine pure_ (i := 4) (N := some 17) (v := ?_) (a' := ?_) #[true, true, true, true, true, false, false, false, false, false, false, false, false, false, false, false, false, false] rfl rfl (any_of HT_.out (by kernel_rfl)) (fun _ _ _ h => h) (Or.inl ⟨by rfl, ?_⟩) ?_ ?_
           rotate_left
           ·intro w'
            go_simp
            with_reducible rfl
           rotate_left
           ·simp only [Act.put, za_, zb_, zc_, i64_w, i32_w]
            rfl
           refine take_ (i := 5) (N := some 18) (v := ?_) (a' := ?_) #[true, true, true, true, true, true, false, false, false, false, false, false, false, false, false, false, false, false] rfl rfl (take_ofW HT_.out HW_.out (by kernel_rfl)) (fun _ _ _ h => h) (Or.inl ⟨by rfl, ?_⟩) hHeld ?_ ?_
           rotate_left
           ·rintro w' ⟨s0, s1, s2, s3, s4, s5, s6⟩
            go_simp
            with_reducible rfl
           rotate_left
           ·simp only [Act.put, za_, zb_, zc_, i64_w, i32_w]
            rfl
           refine pure_ (i := 6) (N := some 19) (v := ?_) (a' := ?_) #[true, true, true, true, true, true, true, false, false, false, false, false, false, false, false, false, false, false] rfl rfl (any_of HT_.out (by kernel_rfl)) (fun _ _ _ h => h) (Or.inl ⟨by rfl, ?_⟩) ?_ ?_
           rotate_left
           ·intro w'
            go_simp
            with_reducible rfl
           rotate_left
           ·simp only [Act.put, za_, zb_, zc_, i64_w, i32_w]
            rfl
           refine pure_ (i := 7) (N := some 20) (v := ?_) (a' := ?_) #[true, true, true, true, true, true, true, true, false, false, false, false, false, false, false, false, false, false] rfl rfl (any_of HT_.out (by kernel_rfl)) (fun _ _ _ h => h) (Or.inl ⟨by rfl, ?_⟩) ?_ ?_
           rotate_left
           ·intro w'
            go_simp
            with_reducible rfl
           rotate_left
           ·simp only [Act.put, za_, zb_, zc_, i64_w, i32_w]
            rfl
           refine pure_ (i := 8) (N := some 21) (v := ?_) (a' := ?_) #[true, true, true, true, true, true, true, true, true, false, false, false, false, false, false, false, false, false] rfl rfl (any_of HT_.out (by kernel_rfl)) (fun _ _ _ h => h) (Or.inl ⟨by rfl, ?_⟩) ?_ ?_
           rotate_left
           ·intro w'
            go_simp
            with_reducible rfl
           rotate_left
           ·simp only [Act.put, za_, zb_, zc_, i64_w, i32_w]
            rfl
           refine pure_ (i := 9) (N := some 22) (v := ?_) (a' := ?_) #[true, true, true, true, true, true, true, true, true, true, false, false, false, false, false, false, false, false] rfl rfl (any_of HT_.out (by kernel_rfl)) (fun _ _ _ h => h) (Or.inl ⟨by rfl, ?_⟩) ?_ ?_
           rotate_left
           ·intro w'
            go_simp
            with_reducible rfl
           rotate_left
           ·simp only [Act.put, za_, zb_, zc_, i64_w, i32_w]
            rfl
           refine pure_ (i := 10) (N := some 23) (v := ?_) (a' := ?_) #[true, true, true, true, true, true, true, true, true, true, true, false, false, false, false, false, false, false] rfl rfl (any_of HT_.out (by kernel_rfl)) (fun _ _ _ h => h) (Or.inl ⟨by rfl, ?_⟩) ?_ ?_
           rotate_left
           ·intro w'
            go_simp
            with_reducible rfl
           rotate_left
           ·simp only [Act.put, za_, zb_, zc_, i64_w, i32_w]
            rfl
           refine pure_ (i := 12) (N := some 25) (v := ?_) (a' := ?_) #[true, true, true, true, true, true, true, true, true, true, true, false, true, false, false, false, false, false] rfl rfl (any_of HT_.out (by kernel_rfl)) (fun _ _ _ h => h) (Or.inl ⟨by rfl, ?_⟩) ?_ ?_
           rotate_left
           ·intro w'
            go_simp
            with_reducible rfl
           rotate_left
           ·simp only [Act.put, za_, zb_, zc_, i64_w, i32_w]
            rfl
           refine pure_ (i := 13) (N := some 26) (v := ?_) (a' := ?_) #[true, true, true, true, true, true, true, true, true, true, true, false, true, true, false, false, false, false] rfl rfl (any_of HT_.out (by kernel_rfl)) (fun _ _ _ h => h) (Or.inl ⟨by rfl, ?_⟩) ?_ ?_
           rotate_left
           ·intro w'
            go_simp
            with_reducible rfl
           rotate_left
           ·simp only [Act.put, za_, zb_, zc_, i64_w, i32_w]
            rfl
           refine pure_ (i := 14) (N := some 27) (v := ?_) (a' := ?_) #[true, true, true, true, true, true, true, true, true, true, true, false, true, true, true, false, false, false] rfl rfl (any_of HT_.out (by kernel_rfl)) (fun _ _ _ h => h) (Or.inl ⟨by rfl, ?_⟩) ?_ ?_
           rotate_left
           ·intro w'
            go_simp
            with_reducible rfl
           rotate_left
           ·simp only [Act.put, za_, zb_, zc_, i64_w, i32_w]
            rfl
           refine take_ (i := 11) (N := some 24) (v := ?_) (a' := ?_) #[true, true, true, true, true, true, true, true, true, true, true, true, true, true, true, false, false, false] rfl rfl (take_ofW HT_.out HW_.out (by kernel_rfl)) (fun _ _ _ h => h) (Or.inl ⟨by rfl, ?_⟩) hHeld ?_ ?_
           rotate_left
           ·rintro w' ⟨s0, s1, s2, s3, s4, s5, s6⟩
            go_simp
            with_reducible rfl
           rotate_left
           ·simp only [Act.put, za_, zb_, zc_, i64_w, i32_w]
            rfl
           refine take_ (i := 15) (N := some 28) (v := ?_) (a' := ?_) #[true, true, true, true, true, true, true, true, true, true, true, true, true, true, true, true, false, false] rfl rfl (take_ofW HT_.out HW_.out (by kernel_rfl)) (fun _ _ _ h => h) (Or.inl ⟨by rfl, ?_⟩) hHeld ?_ ?_
           rotate_left
           ·rintro w' ⟨s0, s1, s2, s3, s4, s5, s6⟩
            go_simp
            with_reducible rfl
           rotate_left
           ·simp only [Act.put, za_, zb_, zc_, i64_w, i32_w]
            rfl
           refine pure_ (i := 16) (N := some 29) (v := ?_) (a' := ?_) #[true, true, true, true, true, true, true, true, true, true, true, true, true, true, true, true, true, false] rfl rfl (any_of HT_.out (by kernel_rfl)) (fun _ _ _ h => h) (Or.inl ⟨by rfl, ?_⟩) ?_ ?_
           rotate_left
           ·intro w'
            go_simp
            with_reducible rfl
           rotate_left
           ·simp only [Act.put, za_, zb_, zc_, i64_w, i32_w]
            rfl
           refine pure_ (i := 17) (N := some 30) (v := ?_) (a' := ?_) #[true, true, true, true, true, true, true, true, true, true, true, true, true, true, true, true, true, true] rfl rfl (any_of HT_.out (by kernel_rfl)) (fun _ _ _ h => h) (Or.inl ⟨by rfl, ?_⟩) ?_ ?_
           rotate_left
           ·intro w'
            go_simp
            with_reducible rfl
           rotate_left
           ·simp only [Act.put, za_, zb_, zc_, i64_w, i32_w]
            rfl
           refine done_ (done_of HT_.out (by kernel_rfl)) ?_
           try go_wp2
           refine ev4 (Kd.R_drew HO_681002.out) (blk_drew BK680.out) (Kept.drew HK.out) (below_drew1 HB.out) ?_
           clear HO_681002 BK680 HK HB
           intro HO_681002 BK680 HK HB
           have p684 : 0 ≤ (x10_1 : Int) := of_decide_eq_true (by first | (with_reducible assumption) | assumption)
           have q684 : x10_1 < (x681002_1.length : Int) := of_decide_eq_true (by first | (with_reducible assumption) | assumption)
           obtain ⟨ad684, e684, hx684_0, hx684_1⟩ := at_T78 (Kd.R_reads' HO_681002.out).2.2 x10_1 p684 q684
           obtain rfl : ad681 = ad684 := (by injection e684)
           replace p684 := eq_true p684
           replace q684 := eq_true q684
           have p15 : 0 ≤ (x10_1 : Int) := of_decide_eq_true (by first | (with_reducible assumption) | assumption)
           have q15 : (x10_1 : Int) < ((x681002_1.length : Int) : Int) := of_decide_eq_true (by first | (with_reducible assumption) | assumption)
           obtain ⟨go15, co15, eo15, gb15, gl15, cl15, HG15⟩ := Kd.R_form HO_681002.out (by omega)
           (first | cases eo15 | (injection eo15 with ea_ en_ ec_; (first | subst ea_ | (injection ea_ with ea_; subst ea_)); subst ec_; clear en_))
           have GB15 := Aside0.mk gb15
           have GG15 := Aside0.mk HG15
           clear gb15 gl15 HG15
           have HMgo15 := Aside0.mk (show (P0_2_ go15 ∨ w.heap.size ≤ go15) from (HO_681002.out.1 _ rfl))
           (first | simp only [add_plain] at hx681_0 | skip)
           (first | simp only [add_plain] at hx681_1 | skip)
           (first | simp only [add_plain] at hx684_0 | skip)
           (first | simp only [add_plain] at hx684_1 | skip)
           obtain ⟨ce15, hcl15, hM15, hcc15, hfr15⟩ := Kd.R_elem HO_681002.out z78 (x10_1 : Int) p15 q15
           obtain rfl := k78_openM hM15
           have hx15_0 : World.cell? _ ⟨go15, (x10_1 : Int).toNat * 2, none⟩ = some (.int .i64 ((rd_T78 x681002_1 x10_1).f0)) := hcc15 0 _ rfl
           have hx15_1 : World.cell? _ ⟨go15, (x10_1 : Int).toNat * 2 + 1, none⟩ = some (.int .i64 ((rd_T78 x681002_1 x10_1).f1)) := hcc15 1 _ rfl
           have hf15_0 : World.frozen? _ ⟨go15, (x10_1 : Int).toNat * 2, none⟩ = false := hfr15 0
           have hf15_1 : World.frozen? _ ⟨go15, (x10_1 : Int).toNat * 2 + 1, none⟩ = false := hfr15 1
           clear hcl15 hcc15 hfr15 hM15
           replace p15 := eq_true p15
           replace q15 := eq_true q15
           obtain ⟨ce18, hcl18, hM18, hcc18, hfr18⟩ := Kd.R_elem HO_681002.out z78 (x10_1 : Int) (of_decide_eq_true (by first | (with_reducible assumption) | assumption)) (by have h_ : (x10_1 : Int) < ((x681002_1.length : Int) : Int) := of_decide_eq_true (by first | (with_reducible assumption) | assumption); first | exact h_ | (have e_ := (Kd.R_reads' HO_681002.out).1; omega) | simpa using h_)
           obtain rfl := k78_openM hM18
           have HP18 := (Kd.R_seg HO_681002.out (x10_1 : Int) (of_decide_eq_true (by first | (with_reducible assumption) | assumption)) (by have h_ : (x10_1 : Int) < ((x681002_1.length : Int) : Int) := of_decide_eq_true (by first | (with_reducible assumption) | assumption); first | exact h_ | (have e_ := (Kd.R_reads' HO_681002.out).1; omega) | simpa using h_) (seg := [.int .i64 (wrap64 (1 - ((rd_T78 x681002_1 x10_1).f1)))]) (j := 1) hcl18 hcc18 (show 2 ≤ 2 from by decide) (x' := (⟨(rd_T78 x681002_1 x10_1).f0, wrap64 (1 - ((rd_T78 x681002_1 x10_1).f1))⟩ : S78)) (k78_mkM _ _ _ (⟨(rd_T78 x681002_1 x10_1).f0, wrap64 (1 - ((rd_T78 x681002_1 x10_1).f1))⟩ : S78) ) (fun _ hk => hk)).1
           rw [← Ny685.out] at HP18
           have HQ18 := Aside0.mk HP18
           clear hcl18 hcc18 hfr18 hM18 HP18
           refine start_ (n := 13) (S := fun w' => w'.cell? ⟨gb680, 0, none⟩ = some (.int .i64 a0_0) ∧ w'.cell? ⟨gb680, 1, none⟩ = some (.int .i64 a0_1) ∧ w'.cell? ⟨gb680, 2, none⟩ = some (.slice (some ⟨go15, 0, none⟩) x681002_1.length co4) ∧ w'.cell? ⟨go15, ((x10_1).toNat * 2), none⟩ = some (.int .i64 ((rd_T78 x681002_1 x10_1).f0)) ∧ w'.cell? ⟨go15, ((x10_1).toNat * 2) + 1, none⟩ = some (.int .i64 ((rd_T78 x681002_1 x10_1).f1))) (ds := [12]) #[false, false, false, false, false, false, false, false, false, false, false, false, false] (by kernel_rfl) rfl rfl ⟨(blk_cell BK680.out 0).trans rfl, (blk_cell BK680.out 1).trans rfl, (blk_cell BK680.out 2).trans rfl, hx684_0, hx684_1⟩ (fun hHeld => ?_); refine with_tabW impl_turnGroup.tab5 impl_turnGroup.bits5 (fun HT_ HW_ => ?_)
           generalize w16.drew = w17 at HO_681002 BK680 HK HB GG15 HQ18 hf15_0 hf15_1 hx15_0 hx15_1 hx681_0 hx681_1 hx684_0 hx684_1 hHeld ⊢
           refine pure_ (i := 0) (N := some 31) (v := ?_) (a' := ?_) #[true, false, false, false, false, false, false, false, false, false, false, false, false] rfl rfl (any_of HT_.out (by kernel_rfl)) (fun _ _ _ h => h) (Or.inl ⟨by rfl, ?_⟩) ?_ ?_
           rotate_left
           ·intro w'
            go_simp
            with_reducible rfl
           rotate_left
           ·simp only [Act.put, za_, zb_, zc_, i64_w, i32_w]
            rfl
           refine pure_ (i := 2) (N := some 33) (v := ?_) (a' := ?_) #[true, false, true, false, false, false, false, false, false, false, false, false, false] rfl rfl (any_of HT_.out (by kernel_rfl)) (fun _ _ _ h => h) (Or.inl ⟨by rfl, ?_⟩) ?_ ?_
           rotate_left
           ·intro w'
            go_simp
            with_reducible rfl
           rotate_left
           ·simp only [Act.put, za_, zb_, zc_, i64_w, i32_w]
            rfl
           refine pure_ (i := 3) (N := some 34) (v := ?_) (a' := ?_) #[true, false, true, true, false, false, false, false, false, false, false, false, false] rfl rfl (any_of HT_.out (by kernel_rfl)) (fun _ _ _ h => h) (Or.inl ⟨by rfl, ?_⟩) ?_ ?_
           rotate_left
           ·intro w'
            go_simp
            with_reducible rfl
           rotate_left
           ·simp only [Act.put, za_, zb_, zc_, i64_w, i32_w]
            rfl
           refine pure_ (i := 5) (N := some 36) (v := ?_) (a' := ?_) #[true, false, true, true, false, true, false, false, false, false, false, false, false] rfl rfl (any_of HT_.out (by kernel_rfl)) (fun _ _ _ h => h) (Or.inl ⟨by rfl, ?_⟩) ?_ ?_
           rotate_left
           ·intro w'
            go_simp
            with_reducible rfl
           rotate_left
           ·simp only [Act.put, za_, zb_, zc_, i64_w, i32_w]
            rfl
           refine take_ (i := 1) (N := some 32) (v := ?_) (a' := ?_) #[true, true, true, true, false, true, false, false, false, false, false, false, false] rfl rfl (take_ofW HT_.out HW_.out (by kernel_rfl)) (fun _ _ _ h => h) (Or.inl ⟨by rfl, ?_⟩) hHeld ?_ ?_
           rotate_left
           ·rintro w' ⟨s0, s1, s2, s3, s4⟩
            go_simp
            with_reducible rfl
           rotate_left
           ·simp only [Act.put, za_, zb_, zc_, i64_w, i32_w]
            rfl
           refine take_ (i := 4) (N := some 35) (v := ?_) (a' := ?_) #[true, true, true, true, true, true, false, false, false, false, false, false, false] rfl rfl (take_ofW HT_.out HW_.out (by kernel_rfl)) (fun _ _ _ h => h) (Or.inl ⟨by rfl, ?_⟩) hHeld ?_ ?_
           rotate_left
           ·rintro w' ⟨s0, s1, s2, s3, s4⟩
            go_simp
            with_reducible rfl
           rotate_left
           ·simp only [Act.put, za_, zb_, zc_, i64_w, i32_w]
            rfl
           refine pure_ (i := 6) (N := some 37) (v := ?_) (a' := ?_) #[true, true, true, true, true, true, true, false, false, false, false, false, false] rfl rfl (any_of HT_.out (by kernel_rfl)) (fun _ _ _ h => h) (Or.inl ⟨by rfl, ?_⟩) ?_ ?_
           rotate_left
           ·intro w'
            go_simp
            with_reducible rfl
           rotate_left
           ·simp only [Act.put, za_, zb_, zc_, i64_w, i32_w]
            rfl
           refine pure_ (i := 7) (N := some 38) (v := ?_) (a' := ?_) #[true, true, true, true, true, true, true, true, false, false, false, false, false] rfl rfl (any_of HT_.out (by kernel_rfl)) (fun _ _ _ h => h) (Or.inl ⟨by rfl, ?_⟩) ?_ ?_
           rotate_left
           ·intro w'
            go_simp
            with_reducible rfl
           rotate_left
           ·simp only [Act.put, za_, zb_, zc_, i64_w, i32_w]
            rfl
           refine take_ (i := 8) (N := some 39) (v := ?_) (a' := ?_) #[true, true, true, true, true, true, true, true, true, false, false, false, false] rfl rfl (take_ofW HT_.out HW_.out (by kernel_rfl)) (fun _ _ _ h => h) (Or.inl ⟨by rfl, ?_⟩) hHeld ?_ ?_
           rotate_left
           ·rintro w' ⟨s0, s1, s2, s3, s4⟩
            go_simp
            with_reducible rfl
           rotate_left
           ·simp only [Act.put, za_, zb_, zc_, i64_w, i32_w]
            rfl
           refine pure_ (i := 9) (N := some 40) (v := ?_) (a' := ?_) #[true, true, true, true, true, true, true, true, true, true, false, false, false] rfl rfl (any_of HT_.out (by kernel_rfl)) (fun _ _ _ h => h) (Or.inl ⟨by rfl, ?_⟩) ?_ ?_
           rotate_left
           ·intro w'
            go_simp
            with_reducible rfl
           rotate_left
           ·simp only [Act.put, za_, zb_, zc_, i64_w, i32_w]
            rfl
           refine pure_ (i := 10) (N := some 41) (v := ?_) (a' := ?_) #[true, true, true, true, true, true, true, true, true, true, true, false, false] rfl rfl (any_of HT_.out (by kernel_rfl)) (fun _ _ _ h => h) (Or.inl ⟨by rfl, ?_⟩) ?_ ?_
           rotate_left
           ·intro w'
            go_simp
            with_reducible rfl
           rotate_left
           ·simp only [Act.put, za_, zb_, zc_, i64_w, i32_w]
            rfl
           refine pure_ (i := 11) (N := some 42) (v := ?_) (a' := ?_) #[true, true, true, true, true, true, true, true, true, true, true, true, false] rfl rfl (any_of HT_.out (by kernel_rfl)) (fun _ _ _ h => h) (Or.inl ⟨by rfl, ?_⟩) ?_ ?_
           rotate_left
           ·intro w'
            go_simp
            with_reducible rfl
           rotate_left
           ·simp only [Act.put, za_, zb_, zc_, i64_w, i32_w]
            rfl
           refine last_ (i := 12) (N := none) #[true, true, true, true, true, true, true, true, true, true, true, true, true] rfl rfl (one_of HT_.out (by kernel_rfl)) (by decide) (fun K hK => ?_)
           refine skip_ (w1 := ?_) (by rfl) rfl ?_ ?_
           rotate_left
           ·go_simp
            rfl
           refine hK.out _ _ ?_
           clear hK K
           refine done_ (done_of HT_.out (by kernel_rfl)) ?_
           try go_wp2
           (try simp only [← hl681002_1])
           go_roundg k1
           case measure => have := HK1.out; omega
           case rel => exact ⟨(wrap64 (x10_1 + 1)), (y685), (by first | rfl | (simp; done) | (simp [*]; done)), H', ⟨by have := HK1.out; omega⟩, ⟨by (try simp only [hl681002_1]); (with_reducible repeat (first | apply Kd.R_alloc | apply Kd.R_drewN | apply Kd.R_drew)); exact HQ18.out⟩, ⟨by (try simp only [hl681002_1]); (with_reducible repeat (first | refine blk_drewN ?_ _ | refine blk_drew ?_ | refine blk_alloc ?_ _)); refine blk_far ?_ (by have h_ := Kd.R_ne HO_681002.out BK680.out (by decide); intro e_; exact h_ (by rw [e_]; rfl)) _; (with_reducible repeat (first | refine blk_drewN ?_ _ | refine blk_drew ?_ | refine blk_alloc ?_ _)); exact BK680.out⟩, ⟨by repeat (first | (with_reducible first | exact HK.out | apply Kept.alloc | apply Kept.drewN | apply Kept.drew | refine Kept.setCell ?_ HMgo15.out _ | refine Kept.setCell ?_ (.inr GW680.out) _) | exact HK.out)⟩, ⟨by repeat (first | (with_reducible first | exact HB.out | apply below_alloc | apply pw_below_drewN | apply below_drew1 | refine below_set ?_ GB15.out | refine below_set ?_ GE680.out) | exact HB.out)⟩⟩
          ·rw [if_neg c14] at H
           have c14b0 : ((rd l1 x10_1) == (rd l1 a2)) = false := beq_eq_false_iff_ne.mpr c14
           have c14b1 : ((rd l1 x10_1) != (rd l1 a2)) = true := bne_iff_ne.mpr c14
           have H' := Aside0.mk H
           clear H
           try go_wp2
           refine ev4 (Kd.R_drew HO_681002.out) (blk_drew BK680.out) (Kept.drew HK.out) (below_drew1 HB.out) ?_
           clear HO_681002 BK680 HK HB
           intro HO_681002 BK680 HK HB
           have p681 : 0 ≤ (x10_1 : Int) := of_decide_eq_true (by first | (with_reducible assumption) | assumption)
           have q681 : x10_1 < (x681002_1.length : Int) := of_decide_eq_true (by first | (with_reducible assumption) | assumption)
           obtain ⟨ad681, e681, hx681_0, hx681_1⟩ := at_T78 (Kd.R_reads' HO_681002.out).2.2 x10_1 p681 q681
           cases e681
           replace p681 := eq_true p681
           replace q681 := eq_true q681
           have p682 : 0 ≤ (x10_1 : Int) := of_decide_eq_true (by first | (with_reducible assumption) | assumption)
           have q682 : x10_1 < (l1.length : Int) := of_decide_eq_true (by first | (with_reducible assumption) | assumption)
           obtain ⟨ad682, e682, hx682_0⟩ := Kd.at_int (Kd.C_kept_now HR1.out HK.out) x10_1 p682 q682
           have hw682_0 := hx682_0
           cases e682
           replace p682 := eq_true p682
           replace q682 := eq_true q682
           have p683 : 0 ≤ (a2 : Int) := of_decide_eq_true (by first | (with_reducible assumption) | assumption)
           have q683 : a2 < (l1.length : Int) := of_decide_eq_true (by first | (with_reducible assumption) | assumption)
           obtain ⟨ad683, e683, hx683_0⟩ := Kd.at_int (Kd.C_kept_now HR1.out HK.out) a2 p683 q683
           have hw683_0 := hx683_0
           obtain rfl : ad682 = ad683 := (by injection e683)
           replace p683 := eq_true p683
           replace q683 := eq_true q683
           refine start_ (n := 18) (S := fun w' => w'.cell? ⟨gb680, 0, none⟩ = some (.int .i64 a0_0) ∧ w'.cell? ⟨gb680, 1, none⟩ = some (.int .i64 a0_1) ∧ w'.cell? ⟨gb680, 2, none⟩ = some (.slice (some ad681) x681002_1.length co4) ∧ w'.cell? (ad681.add ((x10_1).toNat * 2)) = some (.int .i64 ((rd_T78 x681002_1 x10_1).f0)) ∧ w'.cell? ⟨(ad681.add ((x10_1).toNat * 2)).block, (ad681.add ((x10_1).toNat * 2)).off + 1, none⟩ = some (.int .i64 ((rd_T78 x681002_1 x10_1).f1)) ∧ w'.cell? (ad682.add (x10_1).toNat) = some (.int .i64 (rd l1 x10_1)) ∧ w'.cell? (ad682.add (a2).toNat) = some (.int .i64 (rd l1 a2))) (ds := []) #[false, false, false, false, false, false, false, false, false, false, false, false, false, false, false, false, false, false] (by kernel_rfl) rfl rfl ⟨(blk_cell BK680.out 0).trans rfl, (blk_cell BK680.out 1).trans rfl, (blk_cell BK680.out 2).trans rfl, hx681_0, hx681_1, (Kd.foot_int (HR1.out _ (by repeat (first | exact HK.out | apply Kept.alloc | apply Kept.drewN | apply Kept.drew))) x10_1 (of_eq_true p682) (of_eq_true q682)), (Kd.foot_int (HR1.out _ (by repeat (first | exact HK.out | apply Kept.alloc | apply Kept.drewN | apply Kept.drew))) a2 (of_eq_true p683) (of_eq_true q683))⟩ (fun hHeld => ?_); refine with_tabW impl_turnGroup.tab4 impl_turnGroup.bits4 (fun HT_ HW_ => ?_)
           generalize wr.drew = w19 at HO_681002 BK680 HK HB hx681_0 hx681_1 hx682_0 hx683_0 hHeld ⊢
           refine pure_ (i := 0) (N := some 13) (v := ?_) (a' := ?_) #[true, false, false, false, false, false, false, false, false, false, false, false, false, false, false, false, false, false] rfl rfl (any_of HT_.out (by kernel_rfl)) (fun _ _ _ h => h) (Or.inl ⟨by rfl, ?_⟩) ?_ ?_
           rotate_left
           ·intro w'
            go_simp
            with_reducible rfl
           rotate_left
           ·simp only [Act.put, za_, zb_, zc_, i64_w, i32_w]
            rfl
           refine pure_ (i := 2) (N := some 15) (v := ?_) (a' := ?_) #[true, false, true, false, false, false, false, false, false, false, false, false, false, false, false, false, false, false] rfl rfl (any_of HT_.out (by kernel_rfl)) (fun _ _ _ h => h) (Or.inl ⟨by rfl, ?_⟩) ?_ ?_
           rotate_left
           ·intro w'
            go_simp
            with_reducible rfl
           rotate_left
           ·simp only [Act.put, za_, zb_, zc_, i64_w, i32_w]
            rfl
           refine take_ (i := 1) (N := some 14) (v := ?_) (a' := ?_) #[true, true, true, false, false, false, false, false, false, false, false, false, false, false, false, false, false, false] rfl rfl (take_ofW HT_.out HW_.out (by kernel_rfl)) (fun _ _ _ h => h) (Or.inl ⟨by rfl, ?_⟩) hHeld ?_ ?_
           rotate_left
           ·rintro w' ⟨s0, s1, s2, s3, s4, s5, s6⟩
            go_simp
            with_reducible rfl
           rotate_left
           ·simp only [Act.put, za_, zb_, zc_, i64_w, i32_w]
            rfl
           refine pure_ (i := 3) (N := some 16) (v := ?_) (a' := ?_) #[true, true, true, true, false, false, false, false, false, false, false, false, false, false, false, false, false, false] rfl rfl (any_of HT_.out (by kernel_rfl)) (fun _ _ _ h => h) (Or.inl ⟨by rfl, ?_⟩) ?_ ?_
           rotate_left
           ·intro w'
            go_simp
            with_reducible rfl
           rotate_left
           ·simp only [Act.put, za_, zb_, zc_, i64_w, i32_w]
            rfl
           refine pure_ (i := 4) (N := some 17) (v := ?_) (a' := ?_) #[true, true, true, true, true, false, false, false, false, false, false, false, false, false, false, false, false, false] rfl rfl (any_of HT_.out (by kernel_rfl)) (fun _ _ _ h => h) (Or.inl ⟨by rfl, ?_⟩) ?_ ?_
           rotate_left
           ·intro w'
            go_simp
            with_reducible rfl
           rotate_left
           ·simp only [Act.put, za_, zb_, zc_, i64_w, i32_w]
            rfl
           refine take_ (i := 5) (N := some 18) (v := ?_) (a' := ?_) #[true, true, true, true, true, true, false, false, false, false, false, false, false, false, false, false, false, false] rfl rfl (take_ofW HT_.out HW_.out (by kernel_rfl)) (fun _ _ _ h => h) (Or.inl ⟨by rfl, ?_⟩) hHeld ?_ ?_
           rotate_left
           ·rintro w' ⟨s0, s1, s2, s3, s4, s5, s6⟩
            go_simp
            with_reducible rfl
           rotate_left
           ·simp only [Act.put, za_, zb_, zc_, i64_w, i32_w]
            rfl
           refine pure_ (i := 6) (N := some 19) (v := ?_) (a' := ?_) #[true, true, true, true, true, true, true, false, false, false, false, false, false, false, false, false, false, false] rfl rfl (any_of HT_.out (by kernel_rfl)) (fun _ _ _ h => h) (Or.inl ⟨by rfl, ?_⟩) ?_ ?_
           rotate_left
           ·intro w'
            go_simp
            with_reducible rfl
           rotate_left
           ·simp only [Act.put, za_, zb_, zc_, i64_w, i32_w]
            rfl
           refine pure_ (i := 7) (N := some 20) (v := ?_) (a' := ?_) #[true, true, true, true, true, true, true, true, false, false, false, false, false, false, false, false, false, false] rfl rfl (any_of HT_.out (by kernel_rfl)) (fun _ _ _ h => h) (Or.inl ⟨by rfl, ?_⟩) ?_ ?_
           rotate_left
           ·intro w'
            go_simp
            with_reducible rfl
           rotate_left
           ·simp only [Act.put, za_, zb_, zc_, i64_w, i32_w]
            rfl
           refine pure_ (i := 8) (N := some 21) (v := ?_) (a' := ?_) #[true, true, true, true, true, true, true, true, true, false, false, false, false, false, false, false, false, false] rfl rfl (any_of HT_.out (by kernel_rfl)) (fun _ _ _ h => h) (Or.inl ⟨by rfl, ?_⟩) ?_ ?_
           rotate_left
           ·intro w'
            go_simp
            with_reducible rfl
           rotate_left
           ·simp only [Act.put, za_, zb_, zc_, i64_w, i32_w]
            rfl
           refine pure_ (i := 9) (N := some 22) (v := ?_) (a' := ?_) #[true, true, true, true, true, true, true, true, true, true, false, false, false, false, false, false, false, false] rfl rfl (any_of HT_.out (by kernel_rfl)) (fun _ _ _ h => h) (Or.inl ⟨by rfl, ?_⟩) ?_ ?_
           rotate_left
           ·intro w'
            go_simp
            with_reducible rfl
           rotate_left
           ·simp only [Act.put, za_, zb_, zc_, i64_w, i32_w]
            rfl
           refine pure_ (i := 10) (N := some 23) (v := ?_) (a' := ?_) #[true, true, true, true, true, true, true, true, true, true, true, false, false, false, false, false, false, false] rfl rfl (any_of HT_.out (by kernel_rfl)) (fun _ _ _ h => h) (Or.inl ⟨by rfl, ?_⟩) ?_ ?_
           rotate_left
           ·intro w'
            go_simp
            with_reducible rfl
           rotate_left
           ·simp only [Act.put, za_, zb_, zc_, i64_w, i32_w]
            rfl
           refine pure_ (i := 12) (N := some 25) (v := ?_) (a' := ?_) #[true, true, true, true, true, true, true, true, true, true, true, false, true, false, false, false, false, false] rfl rfl (any_of HT_.out (by kernel_rfl)) (fun _ _ _ h => h) (Or.inl ⟨by rfl, ?_⟩) ?_ ?_
           rotate_left
           ·intro w'
            go_simp
            with_reducible rfl
           rotate_left
           ·simp only [Act.put, za_, zb_, zc_, i64_w, i32_w]
            rfl
           refine pure_ (i := 13) (N := some 26) (v := ?_) (a' := ?_) #[true, true, true, true, true, true, true, true, true, true, true, false, true, true, false, false, false, false] rfl rfl (any_of HT_.out (by kernel_rfl)) (fun _ _ _ h => h) (Or.inl ⟨by rfl, ?_⟩) ?_ ?_
           rotate_left
           ·intro w'
            go_simp
            with_reducible rfl
           rotate_left
           ·simp only [Act.put, za_, zb_, zc_, i64_w, i32_w]
            rfl
           refine pure_ (i := 14) (N := some 27) (v := ?_) (a' := ?_) #[true, true, true, true, true, true, true, true, true, true, true, false, true, true, true, false, false, false] rfl rfl (any_of HT_.out (by kernel_rfl)) (fun _ _ _ h => h) (Or.inl ⟨by rfl, ?_⟩) ?_ ?_
           rotate_left
           ·intro w'
            go_simp
            with_reducible rfl
           rotate_left
           ·simp only [Act.put, za_, zb_, zc_, i64_w, i32_w]
            rfl
           refine take_ (i := 11) (N := some 24) (v := ?_) (a' := ?_) #[true, true, true, true, true, true, true, true, true, true, true, true, true, true, true, false, false, false] rfl rfl (take_ofW HT_.out HW_.out (by kernel_rfl)) (fun _ _ _ h => h) (Or.inl ⟨by rfl, ?_⟩) hHeld ?_ ?_
           rotate_left
           ·rintro w' ⟨s0, s1, s2, s3, s4, s5, s6⟩
            go_simp
            with_reducible rfl
           rotate_left
           ·simp only [Act.put, za_, zb_, zc_, i64_w, i32_w]
            rfl
           refine take_ (i := 15) (N := some 28) (v := ?_) (a' := ?_) #[true, true, true, true, true, true, true, true, true, true, true, true, true, true, true, true, false, false] rfl rfl (take_ofW HT_.out HW_.out (by kernel_rfl)) (fun _ _ _ h => h) (Or.inl ⟨by rfl, ?_⟩) hHeld ?_ ?_
           rotate_left
           ·rintro w' ⟨s0, s1, s2, s3, s4, s5, s6⟩
            go_simp
            with_reducible rfl
           rotate_left
           ·simp only [Act.put, za_, zb_, zc_, i64_w, i32_w]
            rfl
           refine pure_ (i := 16) (N := some 29) (v := ?_) (a' := ?_) #[true, true, true, true, true, true, true, true, true, true, true, true, true, true, true, true, true, false] rfl rfl (any_of HT_.out (by kernel_rfl)) (fun _ _ _ h => h) (Or.inl ⟨by rfl, ?_⟩) ?_ ?_
           rotate_left
           ·intro w'
            go_simp
            with_reducible rfl
           rotate_left
           ·simp only [Act.put, za_, zb_, zc_, i64_w, i32_w]
            rfl
           refine pure_ (i := 17) (N := some 30) (v := ?_) (a' := ?_) #[true, true, true, true, true, true, true, true, true, true, true, true, true, true, true, true, true, true] rfl rfl (any_of HT_.out (by kernel_rfl)) (fun _ _ _ h => h) (Or.inl ⟨by rfl, ?_⟩) ?_ ?_
           rotate_left
           ·intro w'
            go_simp
            with_reducible rfl
           rotate_left
           ·simp only [Act.put, za_, zb_, zc_, i64_w, i32_w]
            rfl
           refine done_ (done_of HT_.out (by kernel_rfl)) ?_
           try go_wp2
           (try simp only [← hl681002_1])
           go_roundg k1
           case measure => have := HK1.out; omega
           case rel => exact ⟨(wrap64 (x10_1 + 1)), (x681002_1), (by first | rfl | (simp; done) | (simp [*]; done)), H', ⟨by have := HK1.out; omega⟩, ⟨by (try simp only [hl681002_1]); exact Kd.R_mv HO_681002.out⟩, ⟨by (try simp only [hl681002_1]); exact km_ BK680⟩, ⟨km HK⟩, ⟨bm HB⟩⟩
         ·rw [if_neg c13] at H
          exact absurd H (by simp)
        ·rw [if_neg c12] at H
         exact absurd H (by simp)
       ·rw [if_neg c11] at H
        exact absurd H (by simp)
      ·rw [if_neg c10] at H
       have c10b0 : (((rd_T78 x681002_1 x10_1).f0) == 6) = false := beq_eq_false_iff_ne.mpr c10
       have c10b1 : (((rd_T78 x681002_1 x10_1).f0) != 6) = true := bne_iff_ne.mpr c10
       have H' := Aside0.mk H
       clear H
       try go_wp2
       refine ev4 (Kd.R_drew HO_681002.out) (blk_drew BK680.out) (Kept.drew HK.out) (below_drew1 HB.out) ?_
       clear HO_681002 BK680 HK HB
       intro HO_681002 BK680 HK HB
       have p681 : 0 ≤ (x10_1 : Int) := of_decide_eq_true (by first | (with_reducible assumption) | assumption)
       have q681 : x10_1 < (x681002_1.length : Int) := of_decide_eq_true (by first | (with_reducible assumption) | assumption)
       obtain ⟨ad681, e681, hx681_0, hx681_1⟩ := at_T78 (Kd.R_reads' HO_681002.out).2.2 x10_1 p681 q681
       cases e681
       replace p681 := eq_true p681
       replace q681 := eq_true q681
       refine start_ (n := 18) (S := fun w' => w'.cell? ⟨gb680, 0, none⟩ = some (.int .i64 a0_0) ∧ w'.cell? ⟨gb680, 1, none⟩ = some (.int .i64 a0_1) ∧ w'.cell? ⟨gb680, 2, none⟩ = some (.slice (some ad681) x681002_1.length co4) ∧ w'.cell? (ad681.add ((x10_1).toNat * 2)) = some (.int .i64 ((rd_T78 x681002_1 x10_1).f0)) ∧ w'.cell? ⟨(ad681.add ((x10_1).toNat * 2)).block, (ad681.add ((x10_1).toNat * 2)).off + 1, none⟩ = some (.int .i64 ((rd_T78 x681002_1 x10_1).f1))) (ds := []) #[false, false, false, false, false, false, false, false, false, false, false, false, false, false, false, false, false, false] (by kernel_rfl) rfl rfl ⟨(blk_cell BK680.out 0).trans rfl, (blk_cell BK680.out 1).trans rfl, (blk_cell BK680.out 2).trans rfl, hx681_0, hx681_1⟩ (fun hHeld => ?_); refine with_tabW impl_turnGroup.tab4 impl_turnGroup.bits4 (fun HT_ HW_ => ?_)
       generalize wr.drew = w20 at HO_681002 BK680 HK HB hx681_0 hx681_1 hHeld ⊢
       refine pure_ (i := 0) (N := some 13) (v := ?_) (a' := ?_) #[true, false, false, false, false, false, false, false, false, false, false, false, false, false, false, false, false, false] rfl rfl (any_of HT_.out (by kernel_rfl)) (fun _ _ _ h => h) (Or.inl ⟨by rfl, ?_⟩) ?_ ?_
       rotate_left
       ·intro w'
        go_simp
        with_reducible rfl
       rotate_left
       ·simp only [Act.put, za_, zb_, zc_, i64_w, i32_w]
        rfl
       refine pure_ (i := 2) (N := some 15) (v := ?_) (a' := ?_) #[true, false, true, false, false, false, false, false, false, false, false, false, false, false, false, false, false, false] rfl rfl (any_of HT_.out (by kernel_rfl)) (fun _ _ _ h => h) (Or.inl ⟨by rfl, ?_⟩) ?_ ?_
       rotate_left
       ·intro w'
        go_simp
        with_reducible rfl
       rotate_left
       ·simp only [Act.put, za_, zb_, zc_, i64_w, i32_w]
        rfl
       refine take_ (i := 1) (N := some 14) (v := ?_) (a' := ?_) #[true, true, true, false, false, false, false, false, false, false, false, false, false, false, false, false, false, false] rfl rfl (take_ofW HT_.out HW_.out (by kernel_rfl)) (fun _ _ _ h => h) (Or.inl ⟨by rfl, ?_⟩) hHeld ?_ ?_
       rotate_left
       ·rintro w' ⟨s0, s1, s2, s3, s4⟩
        go_simp
        with_reducible rfl
       rotate_left
       ·simp only [Act.put, za_, zb_, zc_, i64_w, i32_w]
        rfl
       refine pure_ (i := 3) (N := some 16) (v := ?_) (a' := ?_) #[true, true, true, true, false, false, false, false, false, false, false, false, false, false, false, false, false, false] rfl rfl (any_of HT_.out (by kernel_rfl)) (fun _ _ _ h => h) (Or.inl ⟨by rfl, ?_⟩) ?_ ?_
       rotate_left
       ·intro w'
        go_simp
        with_reducible rfl
       rotate_left
       ·simp only [Act.put, za_, zb_, zc_, i64_w, i32_w]
        rfl
       refine pure_ (i := 4) (N := some 17) (v := ?_) (a' := ?_) #[true, true, true, true, true, false, false, false, false, false, false, false, false, false, false, false, false, false] rfl rfl (any_of HT_.out (by kernel_rfl)) (fun _ _ _ h => h) (Or.inl ⟨by rfl, ?_⟩) ?_ ?_
       rotate_left
       ·intro w'
        go_simp
        with_reducible rfl
       rotate_left
       ·simp only [Act.put, za_, zb_, zc_, i64_w, i32_w]
        rfl
       refine take_ (i := 5) (N := some 18) (v := ?_) (a' := ?_) #[true, true, true, true, true, true, false, false, false, false, false, false, false, false, false, false, false, false] rfl rfl (take_ofW HT_.out HW_.out (by kernel_rfl)) (fun _ _ _ h => h) (Or.inl ⟨by rfl, ?_⟩) hHeld ?_ ?_
       rotate_left
       ·rintro w' ⟨s0, s1, s2, s3, s4⟩
        go_simp
        with_reducible rfl
       rotate_left
       ·simp only [Act.put, za_, zb_, zc_, i64_w, i32_w]
        rfl
       refine pure_ (i := 6) (N := some 19) (v := ?_) (a' := ?_) #[true, true, true, true, true, true, true, false, false, false, false, false, false, false, false, false, false, false] rfl rfl (any_of HT_.out (by kernel_rfl)) (fun _ _ _ h => h) (Or.inl ⟨by rfl, ?_⟩) ?_ ?_
       rotate_left
       ·intro w'
        go_simp
        with_reducible rfl
       rotate_left
       ·simp only [Act.put, za_, zb_, zc_, i64_w, i32_w]
        rfl
       refine pure_ (i := 7) (N := some 20) (v := ?_) (a' := ?_) #[true, true, true, true, true, true, true, true, false, false, false, false, false, false, false, false, false, false] rfl rfl (any_of HT_.out (by kernel_rfl)) (fun _ _ _ h => h) (Or.inl ⟨by rfl, ?_⟩) ?_ ?_
       rotate_left
       ·intro w'
        go_simp
        with_reducible rfl
       rotate_left
       ·simp only [Act.put, za_, zb_, zc_, i64_w, i32_w]
        rfl
       refine pure_ (i := 8) (N := some 21) (v := undef) (a' := ?_) #[true, true, true, true, true, true, true, true, true, false, false, false, false, false, false, false, false, false] rfl rfl (any_of HT_.out (by kernel_rfl)) (fun _ _ _ h => h) (Or.inr ⟨by rfl, rfl⟩) ?_ ?_
       rotate_left
       ·simp only [Act.put, za_, zb_, zc_, i64_w, i32_w]
        rfl
       refine pure_ (i := 9) (N := some 22) (v := undef) (a' := ?_) #[true, true, true, true, true, true, true, true, true, true, false, false, false, false, false, false, false, false] rfl rfl (any_of HT_.out (by kernel_rfl)) (fun _ _ _ h => h) (Or.inr ⟨by rfl, rfl⟩) ?_ ?_
       rotate_left
       ·simp only [Act.put, za_, zb_, zc_, i64_w, i32_w]
        rfl
       refine pure_ (i := 10) (N := some 23) (v := undef) (a' := ?_) #[true, true, true, true, true, true, true, true, true, true, true, false, false, false, false, false, false, false] rfl rfl (any_of HT_.out (by kernel_rfl)) (fun _ _ _ h => h) (Or.inr ⟨by rfl, rfl⟩) ?_ ?_
       rotate_left
       ·simp only [Act.put, za_, zb_, zc_, i64_w, i32_w]
        rfl
       refine pure_ (i := 11) (N := some 24) (v := undef) (a' := ?_) #[true, true, true, true, true, true, true, true, true, true, true, true, false, false, false, false, false, false] rfl rfl (any_of HT_.out (by kernel_rfl)) (fun _ _ _ h => h) (Or.inr ⟨by rfl, rfl⟩) ?_ ?_
       rotate_left
       ·simp only [Act.put, za_, zb_, zc_, i64_w, i32_w]
        rfl
       refine pure_ (i := 12) (N := some 25) (v := undef) (a' := ?_) #[true, true, true, true, true, true, true, true, true, true, true, true, true, false, false, false, false, false] rfl rfl (any_of HT_.out (by kernel_rfl)) (fun _ _ _ h => h) (Or.inr ⟨by rfl, rfl⟩) ?_ ?_
       rotate_left
       ·simp only [Act.put, za_, zb_, zc_, i64_w, i32_w]
        rfl
       refine pure_ (i := 13) (N := some 26) (v := undef) (a' := ?_) #[true, true, true, true, true, true, true, true, true, true, true, true, true, true, false, false, false, false] rfl rfl (any_of HT_.out (by kernel_rfl)) (fun _ _ _ h => h) (Or.inr ⟨by rfl, rfl⟩) ?_ ?_
       rotate_left
       ·simp only [Act.put, za_, zb_, zc_, i64_w, i32_w]
        rfl
       refine pure_ (i := 14) (N := some 27) (v := undef) (a' := ?_) #[true, true, true, true, true, true, true, true, true, true, true, true, true, true, true, false, false, false] rfl rfl (any_of HT_.out (by kernel_rfl)) (fun _ _ _ h => h) (Or.inr ⟨by rfl, rfl⟩) ?_ ?_
       rotate_left
       ·simp only [Act.put, za_, zb_, zc_, i64_w, i32_w]
        rfl
       refine pure_ (i := 15) (N := some 28) (v := undef) (a' := ?_) #[true, true, true, true, true, true, true, true, true, true, true, true, true, true, true, true, false, false] rfl rfl (any_of HT_.out (by kernel_rfl)) (fun _ _ _ h => h) (Or.inr ⟨by rfl, rfl⟩) ?_ ?_
       rotate_left
       ·simp only [Act.put, za_, zb_, zc_, i64_w, i32_w]
        rfl
       refine pure_ (i := 16) (N := some 29) (v := undef) (a' := ?_) #[true, true, true, true, true, true, true, true, true, true, true, true, true, true, true, true, true, false] rfl rfl (any_of HT_.out (by kernel_rfl)) (fun _ _ _ h => h) (Or.inr ⟨by rfl, rfl⟩) ?_ ?_
       rotate_left
       ·simp only [Act.put, za_, zb_, zc_, i64_w, i32_w]
        rfl
       refine pure_ (i := 17) (N := some 30) (v := ?_) (a' := ?_) #[true, true, true, true, true, true, true, true, true, true, true, true, true, true, true, true, true, true] rfl rfl (any_of HT_.out (by kernel_rfl)) (fun _ _ _ h => h) (Or.inl ⟨by rfl, ?_⟩) ?_ ?_
       rotate_left
       ·intro w'
        go_simp
        with_reducible rfl
       rotate_left
       ·simp only [Act.put, za_, zb_, zc_, i64_w, i32_w]
        rfl
       refine done_ (done_of HT_.out (by kernel_rfl)) ?_
       try go_wp2
       (try simp only [← hl681002_1])
       go_roundg k1
       case measure => have := HK1.out; omega
       case rel => exact ⟨(wrap64 (x10_1 + 1)), (x681002_1), (by first | rfl | (simp; done) | (simp [*]; done)), H', ⟨by have := HK1.out; omega⟩, ⟨by (try simp only [hl681002_1]); exact Kd.R_mv HO_681002.out⟩, ⟨by (try simp only [hl681002_1]); exact km_ BK680⟩, ⟨km HK⟩, ⟨bm HB⟩⟩
     ·rw [if_neg c9] at H
      exact absurd H (by simp)
    ·rw [if_neg c8] at H
     exact absurd H (by simp)
   ·rw [if_neg c7] at H
    have c7b0 : decide (x10_1 < (l0_2.length : Int)) = false := decide_eq_false c7
    (try simp only [hl681002_1] at c7b0)
    clear c7
    obtain rfl := Option.some.inj H
    go_wp2
    first | go_end0 | ((try simp only [Exit.inBlock, Exit.then]); refine bodyPost_ret (results_none rfl _ _ _) rfl ?_)
    exact ⟨by first | rfl | (simp [e0_, e1_] <;> rfl) | (simp [*, e0_, e1_] <;> rfl), (by first | exact (Kd.R_mv HO_681002.out) | (simp only [hl681002_1]; exact (Kd.R_mv HO_681002.out))), bm HB, km HK⟩

/-! ### impl_drop: function 115 -/
mutual
def impl_drop.l0 : Nat → List Int → Int → List Int → Int → Int → Int → Int → List (S78) → Option (Int × Int × Int × List Int × (List (S78)))
 | 0, _, _, _, _, _, _, _, _ => none
 | k + 1, x1, x2, x8, x9, x10, x687000, x687001, x687002 => if x10 < x687000 then (if x8.length < 17592186044416 then ((some (x8 ++ [wrap64 ((wrap64 (x10 * x687001)) + x2)] : List Int)).bind fun y691 => (if 0 ≤ (wrap64 ((wrap64 (x10 * x687001)) + x2)) then (if (wrap64 ((wrap64 (x10 * x687001)) + x2)) < (x687002.length : Int) then ((impl_GoesTo.f k ((rd_T78 x687002 (wrap64 ((wrap64 (x10 * x687001)) + x2))).f0) ((rd_T78 x687002 (wrap64 ((wrap64 (x10 * x687001)) + x2))).f1) x9).bind fun bt696 => (if bt696.2 = true then (if ((rd_T78 x687002 (wrap64 ((wrap64 (x10 * x687001)) + x2))).f0) = 3 then (impl_drop.j1 k x1 x2 y691 x10 (wrap64 ((wrap64 (x10 * x687001)) + x2)) bt696.1 x687000 x687001 (x687002.set ((wrap64 ((wrap64 (x10 * x687001)) + x2)) : Int).toNat (⟨(rd_T78 x687002 (wrap64 ((wrap64 (x10 * x687001)) + x2))).f0, wrap64 (1 - ((rd_T78 x687002 (wrap64 ((wrap64 (x10 * x687001)) + x2))).f1))⟩ : S78)) ((rd_T78 x687002 (wrap64 ((wrap64 (x10 * x687001)) + x2))).f0) ((rd_T78 x687002 (wrap64 ((wrap64 (x10 * x687001)) + x2))).f1)) else (impl_drop.j1 k x1 x2 y691 x10 (wrap64 ((wrap64 (x10 * x687001)) + x2)) bt696.1 x687000 x687001 x687002 ((rd_T78 x687002 (wrap64 ((wrap64 (x10 * x687001)) + x2))).f0) ((rd_T78 x687002 (wrap64 ((wrap64 (x10 * x687001)) + x2))).f1))) else (some (2, x10, x2, y691, x687002)))) else (none)) else (none))) else (none)) else (some (1, x687000, x2, x8, x687002))
def impl_drop.j1 : Nat → List Int → Int → List Int → Int → Int → Int → Int → Int → List (S78) → Int → Int → Option (Int × Int × Int × List Int × (List (S78)))
 | 0, _, _, _, _, _, _, _, _, _, _, _ => none
 | k + 1, x1, x2, x8, x10, x11, x13, x687000, x687001, x687002, x696000, x696001 => if x696000 = 6 then ((impl_turnGroup.f k x687000 x687001 x687002 x1 x11).bind fun t699 => (if (wrap64 (x2 + x13)) < 0 then (some (3, x10, wrap64 (x2 + x13), x8, t699)) else (if (wrap64 (x2 + x13)) ≥ x687001 then (some (3, x10, wrap64 (x2 + x13), x8, t699)) else (impl_drop.l0 k x1 (wrap64 (x2 + x13)) x8 (wrap64 (-x13)) (wrap64 (x10 + 1)) x687000 x687001 t699)))) else (if (wrap64 (x2 + x13)) < 0 then (some (3, x10, wrap64 (x2 + x13), x8, x687002)) else (if (wrap64 (x2 + x13)) ≥ x687001 then (some (3, x10, wrap64 (x2 + x13), x8, x687002)) else (impl_drop.l0 k x1 (wrap64 (x2 + x13)) x8 (wrap64 (-x13)) (wrap64 (x10 + 1)) x687000 x687001 x687002)))
end
def impl_drop.f (k : Nat) (a0_0 : Int) (a0_1 : Int) (l0_2 : List (S78)) (l1 : List Int) (a2 : Int) : Option (Int × Int × Int × List Int × (List (S78))) := impl_drop.l0 k l1 a2 (([] : List Int)) 0 0 a0_0 a0_1 l0_2
set_option maxHeartbeats 8000000 in
set_option maxRecDepth 100000 in
theorem impl_drop.calls (k : Nat) (a0_0 : Int) (a0_1 : Int) (P0_2_ : Nat → Prop) (u9000_ : Value) (l0_2 : List (S78)) (A1 : Option Addr) (c1 : Nat) (l1 : List Int) (a2 : Int) (r1 : Int) (r2 : Int) (r3 : Int) (r4 : List Int) (r5 : List (S78)) (w0 w : World) (hB : Below w0.heap.size w0 w) (ho0_2 : Kd.R k78 78 w w0.heap.size P0_2_ u9000_ l0_2) (hr1 : ∀ W_, Kept w W_ (fun k_ => P0_2_ k_) → Kd.C (Kd.int .i64) W_ A1 l1.length l1) (hc1 : l1.length ≤ c1) (h : impl_drop.f k a0_0 a0_1 l0_2 l1 a2 = some (r1, r2, r3, r4, r5)) :
  Calls Try.prog 115 #[.agg #[.int .i64 a0_0, .int .i64 a0_1, u9000_], .slice A1 l1.length c1, .int .i64 a2] w fun e w' => ∃ v3_ : Value, e = .returned (.tuple #[.agg #[.int .i64 r1, .int .i64 r2, .int .i64 r3], v3_]) ∧ Kd.R (Kd.int .i64) 3 w' w0.heap.size (fun k_ => (P0_2_ k_ ∨ w.heap.size ≤ k_)) v3_ r4 ∧ Kd.R k78 78 w' w0.heap.size (fun k_ => (P0_2_ k_ ∨ w.heap.size ≤ k_)) u9000_ r5 ∧ Below w0.heap.size w0 w' ∧ Kept w w' (fun k_ => P0_2_ k_) := by
 have HO0_2 := Aside0.mk (show Kd.R k78 78 w w0.heap.size (fun k_ => (P0_2_ k_ ∨ w.heap.size ≤ k_)) u9000_ l0_2 from Kd.R_mono ho0_2 (fun k_ hk => (.inl hk)))
 have HR1 := Aside0.mk hr1
 have HC1 := Aside0.mk hc1
 clear hr1 hc1
 have HK := Aside0.mk (Kept.refl w (fun k_ => P0_2_ k_))
 have HW0 := Aside0.mk hB.size
 have HB := Aside0.mk hB
 clear hB
 have H : (impl_drop.l0 k l1 a2 (([] : List Int)) 0 0 a0_0 a0_1 l0_2) = some (r1, r2, r3, r4, r5) := h
 clear h
 obtain ⟨y688, hy688⟩ : ∃ y_ : List Int, y_ = (([] : List Int)) := ⟨_, rfl⟩
 replace H : (impl_drop.l0 k l1 a2 y688 0 0 a0_0 a0_1 l0_2) = some (r1, r2, r3, r4, r5) := by first | (rw [hy688]; with_reducible exact H) | (have H2_ := (Option.bind_some _ _).symm.trans H; rw [hy688]; with_reducible exact H2_) | (have H2_ := (Option.bind_some _ _).symm.trans H; with_reducible exact H2_) | with_reducible exact H | (rw [hy688]; exact H) | exact H
 have Ny688 := Aside0.mk hy688
 clear hy688
 have H' := Aside0.mk H
 clear H
 obtain ⟨Ao4, co4, eo4⟩ := Kd.R_slice HO0_2.out
 subst eo4
 go_enter Try.func115, Try.ntmps115
 go_wp2_with (first | ((with_reducible refine gate_dst (N := 3) rfl ?_); refine box_event ?hg (N := 3) ?hd (cs := #[.int .i64 a0_0, .int .i64 a0_1, .slice Ao4 l0_2.length co4]) (t := 48) ?hr ?_; (case hd => rfl); (case hg => rfl); (case hr => first | (go_simp; done) | (go_simp; rfl)); intro gb686 hg w5 hbox hb; refine ev6 (Kd.R_below (Kd.R_mv HO0_2.out) hb) (Kept.below (S := (fun k_ => P0_2_ k_)) (km HK) hb) (bs HB hb) (hbox) ((by rw [hg]; exact (by first | exact HK.out.1 | exact (show Kept w _ (fun k_ => P0_2_ k_) from km HK).1) : w.heap.size ≤ gb686)) (gle hg HB) ?_; clear HO0_2 HK HB; intro HO0_2 HK HB BK686 GW686 GE686; clear hb hbox hg) | ((with_reducible refine gate_dst (N := 6) rfl ?_); refine box_event ?hg (N := 6) ?hd (cs := #[.int .i64 0, .int .i64 0, .int .i64 0]) (t := 90) ?hr ?_; (case hd => rfl); (case hg => rfl); (case hr => first | (go_simp; done) | (go_simp; rfl)); intro gb687 hg w6 hbox hb; refine ev9 (Kd.R_below (Kd.R_mv HO0_2.out) hb) (kb BK686 hb) (Kept.below (S := (fun k_ => P0_2_ k_)) (km HK) hb) (bs HB hb) (hbox) ((by rw [hg]; exact (by first | exact HK.out.1 | exact (show Kept w _ (fun k_ => P0_2_ k_) from km HK).1) : w.heap.size ≤ gb687)) (gle hg HB) (gnf hg BK686) (gne hg BK686) ?_; clear HO0_2 BK686 HK HB; intro HO0_2 BK686 HK HB BK687 GW687 GE687 NB686_687 NB687_686; clear hb hbox hg) | ((with_reducible refine gate_dst (N := 15) rfl ?_); refine Kd.R_lit (Kd.int .i64) _ 3 ?hg (N := 15) ?hd (xs := ([] : List Int)) (inner := []) (ok := fun _ => True) (okp := fun _ => True) ?hr ?hp (fun _ hk => hk) trivial (Below.refl _ _) (Nat.le_refl _) (by simp) ?_; (case hd => rfl); (case hg => rfl); (case hr => first | (go_simp; done) | (go_simp; rfl)); (case hp => exact (Reps.none _ _)); intro v689 w7 ho8 hb hg_ hnew_; clear hg_ hnew_; (first | rw [← Ny688.out] at ho8 | (simp only [Int.reduceToNat] at ho8; rw [← Ny688.out] at ho8)); refine ev6 (Kd.R_below (Kd.R_mv HO0_2.out) hb) (Kd.R_lower (Kd.R_newM (M := fun k_ => (P0_2_ k_ ∨ w.heap.size ≤ k_)) ho8 (by first | exact HK.out.1 | exact (show Kept w _ (fun k_ => P0_2_ k_) from km HK).1) (fun k_ h_ => .inr h_)) (below_size (bm HB))) (kb BK686 hb) (kb BK687 hb) (Kept.below (S := (fun k_ => P0_2_ k_)) (km HK) hb) (bs HB hb) ?_; clear HO0_2 BK686 BK687 HK HB; intro HO0_2 HO690 BK686 BK687 HK HB; clear hb ho8))
 go_loopg [2, 8, 9, 10] k (fun kq v2 v8 v9 v10 w' => ∃ (x2_1 : Int) (x8_1 : List Int) (x9_1 : Int) (x10_1 : Int) (x687002_1 : List (S78)) (x688000_1 : Int) (x688001_1 : Int) (x688002_1 : Int), v2 = .int .i64 x2_1 ∧ v9 = .int .i64 x9_1 ∧ v10 = .int .i64 x10_1 ∧ Aside0 (impl_drop.l0 kq l1 x2_1 x8_1 x9_1 x10_1 a0_0 a0_1 x687002_1 = some (r1, r2, r3, r4, r5)) ∧ Aside0 (kq ≤ k) ∧ Aside0 (Kd.R (Kd.int .i64) 3 w' w0.heap.size (fun k_ => (P0_2_ k_ ∨ w.heap.size ≤ k_)) v8 x8_1) ∧ Aside0 (Kd.R k78 78 w' w0.heap.size (fun k_ => (P0_2_ k_ ∨ w.heap.size ≤ k_)) (.slice Ao4 l0_2.length co4) x687002_1) ∧ Aside0 (w'.heap[gb686]? = some (.cells #[.int .i64 a0_0, .int .i64 a0_1, (.slice Ao4 l0_2.length co4)] 48 (0, 0))) ∧ Aside0 (w'.heap[gb687]? = some (.cells #[.int .i64 x688000_1, .int .i64 x688001_1, .int .i64 x688002_1] 90 (0, 0))) ∧ Aside0 (Kept w w' (fun k_ => P0_2_ k_)) ∧ Aside0 (Below w0.heap.size w0 w'))
 case atStart => exact ⟨(a2), (y688), (0), (0), (l0_2), (0), (0), (0), (by first | rfl | (simp; done) | (simp [*]; done)), (by first | rfl | (simp; done) | (simp [*]; done)), (by first | rfl | (simp; done) | (simp [*]; done)), H', ⟨Nat.le_refl _⟩, ⟨Kd.R_mv (Kd.R_mono (ok' := fun k_ => ((P0_2_ k_ ∨ w.heap.size ≤ k_))) HO690.out (fun _ hk => hk.1))⟩, ⟨Kd.R_mv HO0_2.out⟩, ⟨km_ BK686⟩, ⟨km_ BK687⟩, ⟨km HK⟩, ⟨bm HB⟩⟩
 case round =>
  clear H'
  try clear c1
  try clear p2
  obtain ⟨x2_1, x8_1, x9_1, x10_1, x687002_1, x688000_1, x688001_1, x688002_1, rfl, rfl, rfl, HA, HK1, HO_8, HO_687002, BK686, BK687, HK, HB⟩ := hrel
  have hl687002_1 := (Kd.R_reads' HO_687002.out).1
  rw [hl687002_1] at HO_687002
  (try simp only [hl687002_1])
  (try simp only [hl687002_1] at BK686)
  (try simp only [hl687002_1] at BK687)
  (try simp only [hl687002_1] at HO_8)
  cases gk with
  | zero => exact absurd HA.out (by simp [impl_drop.l0])
  | succ k1 =>
   have H := HA.out
   clear HA
   simp only [impl_drop.l0] at H
   by_cases c9 : x10_1 < a0_0
   ·rw [if_pos c9] at H
    have c9b0 : decide (x10_1 < a0_0) = true := decide_eq_true c9
    clear c9
    by_cases c10 : x8_1.length < 17592186044416
    ·rw [if_pos c10] at H
     have LMc10 := Aside0.mk c10
     clear c10
     obtain ⟨y691, hy691⟩ : ∃ y_ : List Int, y_ = (x8_1 ++ [wrap64 ((wrap64 (x10_1 * a0_1)) + x2_1)]) := ⟨_, rfl⟩
     replace H : (if 0 ≤ (wrap64 ((wrap64 (x10_1 * a0_1)) + x2_1)) then (if (wrap64 ((wrap64 (x10_1 * a0_1)) + x2_1)) < (x687002_1.length : Int) then ((impl_GoesTo.f k1 ((rd_T78 x687002_1 (wrap64 ((wrap64 (x10_1 * a0_1)) + x2_1))).f0) ((rd_T78 x687002_1 (wrap64 ((wrap64 (x10_1 * a0_1)) + x2_1))).f1) x9_1).bind fun bt696 => (if bt696.2 = true then (if ((rd_T78 x687002_1 (wrap64 ((wrap64 (x10_1 * a0_1)) + x2_1))).f0) = 3 then (impl_drop.j1 k1 l1 x2_1 y691 x10_1 (wrap64 ((wrap64 (x10_1 * a0_1)) + x2_1)) bt696.1 a0_0 a0_1 (x687002_1.set ((wrap64 ((wrap64 (x10_1 * a0_1)) + x2_1)) : Int).toNat (⟨(rd_T78 x687002_1 (wrap64 ((wrap64 (x10_1 * a0_1)) + x2_1))).f0, wrap64 (1 - ((rd_T78 x687002_1 (wrap64 ((wrap64 (x10_1 * a0_1)) + x2_1))).f1))⟩ : S78)) ((rd_T78 x687002_1 (wrap64 ((wrap64 (x10_1 * a0_1)) + x2_1))).f0) ((rd_T78 x687002_1 (wrap64 ((wrap64 (x10_1 * a0_1)) + x2_1))).f1)) else (impl_drop.j1 k1 l1 x2_1 y691 x10_1 (wrap64 ((wrap64 (x10_1 * a0_1)) + x2_1)) bt696.1 a0_0 a0_1 x687002_1 ((rd_T78 x687002_1 (wrap64 ((wrap64 (x10_1 * a0_1)) + x2_1))).f0) ((rd_T78 x687002_1 (wrap64 ((wrap64 (x10_1 * a0_1)) + x2_1))).f1))) else (some (2, x10_1, x2_1, y691, x687002_1)))) else (none)) else (none)) = some (r1, r2, r3, r4, r5) := by first | (rw [hy691]; with_reducible exact H) | (have H2_ := (Option.bind_some _ _).symm.trans H; rw [hy691]; with_reducible exact H2_) | (have H2_ := (Option.bind_some _ _).symm.trans H; with_reducible exact H2_) | with_reducible exact H | (rw [hy691]; exact H) | exact H
     have Ny691 := Aside0.mk hy691
     clear hy691
     obtain ⟨ji11, hji11⟩ : ∃ j_ : Int, (wrap64 ((wrap64 (x10_1 * a0_1)) + x2_1)) = j_ := ⟨_, rfl⟩
     replace H : (if 0 ≤ (ji11) then (if (ji11) < (x687002_1.length : Int) then ((impl_GoesTo.f k1 ((rd_T78 x687002_1 (ji11)).f0) ((rd_T78 x687002_1 (ji11)).f1) x9_1).bind fun bt696 => (if bt696.2 = true then (if ((rd_T78 x687002_1 (ji11)).f0) = 3 then (impl_drop.j1 k1 l1 x2_1 y691 x10_1 ji11 bt696.1 a0_0 a0_1 (x687002_1.set ((ji11) : Int).toNat (⟨(rd_T78 x687002_1 (ji11)).f0, wrap64 (1 - ((rd_T78 x687002_1 (ji11)).f1))⟩ : S78)) ((rd_T78 x687002_1 (ji11)).f0) ((rd_T78 x687002_1 (ji11)).f1)) else (impl_drop.j1 k1 l1 x2_1 y691 x10_1 ji11 bt696.1 a0_0 a0_1 x687002_1 ((rd_T78 x687002_1 (ji11)).f0) ((rd_T78 x687002_1 (ji11)).f1))) else (some (2, x10_1, x2_1, y691, x687002_1)))) else (none)) else (none)) = some (r1, r2, r3, r4, r5) := by first | (rw [hji11] at H; exact H) | (simp only [hji11] at H ⊢; exact H)
     (try rw [hji11] at Ny691)
     have hji11w : (IntKind.i64.wrap ((wrap64 (x10_1 * a0_1)) + x2_1)) = ji11 := (i64_w _).trans hji11
     by_cases c12 : 0 ≤ (ji11)
     ·rw [if_pos c12] at H
      have c12b0 : decide (0 ≤ (ji11)) = true := decide_eq_true c12
      clear c12
      by_cases c13 : (ji11) < (x687002_1.length : Int)
      ·rw [if_pos c13] at H
       have c13b0 : decide ((ji11) < (x687002_1.length : Int)) = true := decide_eq_true c13
       (try simp only [hl687002_1] at c13b0)
       clear c13
       replace H := Option.bind_eq_some_iff.mp H
       obtain ⟨⟨t696, t697⟩, A140, H⟩ := H
       replace H : (if t697 = true then (if ((rd_T78 x687002_1 (ji11)).f0) = 3 then (impl_drop.j1 k1 l1 x2_1 y691 x10_1 ji11 t696 a0_0 a0_1 (x687002_1.set ((ji11) : Int).toNat (⟨(rd_T78 x687002_1 (ji11)).f0, wrap64 (1 - ((rd_T78 x687002_1 (ji11)).f1))⟩ : S78)) ((rd_T78 x687002_1 (ji11)).f0) ((rd_T78 x687002_1 (ji11)).f1)) else (impl_drop.j1 k1 l1 x2_1 y691 x10_1 ji11 t696 a0_0 a0_1 x687002_1 ((rd_T78 x687002_1 (ji11)).f0) ((rd_T78 x687002_1 (ji11)).f1))) else (some (2, x10_1, x2_1, y691, x687002_1))) = some (r1, r2, r3, r4, r5) := H
       have A14 := Aside0.mk A140
       clear A140
       by_cases c15 : t697 = true
       ·subst c15
        have H1 : (if ((rd_T78 x687002_1 (ji11)).f0) = 3 then (impl_drop.j1 k1 l1 x2_1 y691 x10_1 ji11 t696 a0_0 a0_1 (x687002_1.set ((ji11) : Int).toNat (⟨(rd_T78 x687002_1 (ji11)).f0, wrap64 (1 - ((rd_T78 x687002_1 (ji11)).f1))⟩ : S78)) ((rd_T78 x687002_1 (ji11)).f0) ((rd_T78 x687002_1 (ji11)).f1)) else (impl_drop.j1 k1 l1 x2_1 y691 x10_1 ji11 t696 a0_0 a0_1 x687002_1 ((rd_T78 x687002_1 (ji11)).f0) ((rd_T78 x687002_1 (ji11)).f1))) = some (r1, r2, r3, r4, r5) := by rw [if_pos rfl] at H; exact H
        clear H
        have H := H1
        clear H1
        have HC16 := Aside0.mk H
        clear H
        have hnb17 := NB686_687.out
        have hnc17 := NB687_686.out
        obtain ⟨hcz18_0, hcz18_1, hcz18_2, hfz18_0, hfz18_1, hfz18_2⟩ := bt3 BK686
        go_upto_if 51 with (first | ((with_reducible refine gate_builtin (b := .append) (xs := #[.tmp 28, .tmp 30]) rfl ?_); at_builtin; refine Kd.R_append (Kd.int .i64) (w0 := w0) w0.heap.size rfl (.tmp 28) (.tmp 30) 22 3 (.int .i64 0) 8 rfl Try.underlying22 info3 rfl (by decide) (by omega) u8 x8_1 ji11 [.int .i64 ji11] (fun k_ => (P0_2_ k_ ∨ w.heap.size ≤ k_)) (fun _ => False) rfl rfl ?aP (fun _ hk => hk.elim) ?aF ?aO ?aB ?aS ?aL ?_; (case aP => exact rfl); (case aB => exact (bm HB)); (case aF => exact (fun k_ hk => (.inr (Nat.le_trans (by first | exact HK.out.1 | exact (show Kept w _ (fun k_ => P0_2_ k_) from km HK).1) hk)))); (case aO => exact (Kd.R_mv HO_8.out)); (case aS => exact (below_size (bm HB))); (case aL => have := LMc10.out; omega); intro v692 w19 ho hb hg hat; rw [← Ny691.out] at ho; refine ev6 (Kd.R_over' (Kd.R_mv HO_687002.out) (Kd.R_typed (Kd.R_mv HO_8.out)) (by decide) hg) (blk_grown (km_ BK686) hg (Kd.R_ne HO_8.out BK686.out (by decide))) (blk_grown (km_ BK687) hg (Kd.R_ne HO_8.out BK687.out (by decide))) (hb) (Kept.of_grown (S := (fun k_ => P0_2_ k_)) hg (km HK) (fun k_ e_ => (HO_8.out.1 k_ e_))) (ho) ?_; clear HO_687002 BK686 BK687 HB HK HO_8; intro HO_687002 BK686 BK687 HB HK HO693; clear ho hb hg hat; obtain ⟨hcz20_0, hcz20_1, hcz20_2, hfz20_0, hfz20_1, hfz20_2⟩ := bt3 BK686; have p694 : 0 ≤ ((ji11) : Int) := of_decide_eq_true (by first | (with_reducible assumption) | assumption); have q694 : (ji11) < (x687002_1.length : Int) := of_decide_eq_true (by first | (with_reducible assumption) | assumption); obtain ⟨ad694, e694, hx694_0, hx694_1⟩ := at_T78 (Kd.R_reads' HO_687002.out).2.2 (ji11) p694 q694; cases e694; replace p694 := eq_true p694; replace q694 := eq_true q694) | ((with_reducible refine gate_dst (N := 12) rfl ?_); refine box_event ?hg (N := 12) ?hd (cs := #[.int .i64 0, .int .i64 0]) (t := 78) ?hr ?_; (case hd => rfl); (case hg => rfl); (case hr => first | (go_simp; done) | (go_simp; rfl)); intro gb695 hg w21 hbox hb; refine ev12 (Kd.R_below (Kd.R_elderB (Kd.R_mv HO_687002.out) gb695 (Nat.le_of_eq hg.symm)) hb) (Kd.R_below (Kd.R_mv HO693.out) hb) (kb BK686 hb) (kb BK687 hb) (Kept.below (S := (fun k_ => P0_2_ k_)) (km HK) hb) (bs HB hb) (hbox) ((by rw [hg]; exact (by first | exact HK.out.1 | exact (show Kept w _ (fun k_ => P0_2_ k_) from km HK).1) : w.heap.size ≤ gb695)) (gle hg HB) (gnf hg BK686) (gne hg BK686) (gnf hg BK687) ?_; intro n0_ n1_ n2_ n3_ n4_ n5_ n6_ n7_ n8_ n9_ n10_ n11_; refine ev1 (gne hg BK687) ?_; intro n12_; clear HO_687002 HO693 BK686 BK687 HK HB; revert n0_ n1_ n2_ n3_ n4_ n5_ n6_ n7_ n8_ n9_ n10_ n11_ n12_; intro HO_687002 HO693 BK686 BK687 HK HB BK695 GW695 GE695 NB686_695 NB695_686 NB687_695 NB695_687; clear hb hbox hg; have hnb22 := NB695_686.out; have hnc22 := NB686_695.out; have hnb23 := NB695_687.out; have hnc23 := NB687_695.out; obtain ⟨hcz24_0, hcz24_1, hfz24_0, hfz24_1⟩ := bt2 BK695) | ((with_reducible refine gate_callee (f := 134) rfl ?_); refine goesL_ (some 40) rfl rfl Try.func134 (by kernel_rfl) rfl #[.agg #[.int .i64 ((rd_T78 x687002_1 (ji11)).f0), .int .i64 ((rd_T78 x687002_1 (ji11)).f1)], .int .i64 x9_1] rfl (by (try simp only [ma_, mb_, mc_]); first | done | (simp only [hji11]; rfl) | rfl | (simp only [List.length_drop, List.length_take]; rfl)) ?_; (with_reducible refine (impl_GoesTo.calls k1 ((rd_T78 x687002_1 (ji11)).f0) ((rd_T78 x687002_1 (ji11)).f1) x9_1 t696 true _ A14.out).mono ?_); rintro e w25 ⟨rfl, hb⟩; refine ⟨_, rfl, ?_⟩; refine ev7 (Kd.R_below (Kd.R_mv (Kd.R_mono (Kd.R_far (p := ⟨gb695, 1, none⟩) (Kd.R_far (p := ⟨gb695, 0, none⟩) (Kd.R_mono HO_687002.out (fun k_ hk => (⟨hk, hk.2⟩ : _ ∧ k_ ≠ gb695))) (fun _ hk => hk.2) (.int .i64 ((rd_T78 x687002_1 (ji11)).f0))) (fun _ hk => hk.2) (.int .i64 ((rd_T78 x687002_1 (ji11)).f1))) (fun _ h_ => h_.1))) hb) (Kd.R_below (Kd.R_mv (Kd.R_mono (Kd.R_far (p := ⟨gb695, 1, none⟩) (Kd.R_far (p := ⟨gb695, 0, none⟩) (Kd.R_types HO693.out BK695.out (by decide)) (fun _ hk => hk.2) (.int .i64 ((rd_T78 x687002_1 (ji11)).f0))) (fun _ hk => hk.2) (.int .i64 ((rd_T78 x687002_1 (ji11)).f1))) (fun _ h_ => h_.1))) hb) (blk_below (g := gb686) (o := .cells #[.int .i64 a0_0, .int .i64 a0_1, .slice (some ad694) x687002_1.length co4] 48 (0, 0)) (fp BK686 rfl) hb) (blk_below (g := gb687) (o := .cells #[.int .i64 x688000_1, .int .i64 x688001_1, .int .i64 x688002_1] 90 (0, 0)) (fp BK687 rfl) hb) (blk_below (g := gb695) (o := .cells #[.int .i64 ((rd_T78 x687002_1 (ji11)).f0), .int .i64 ((rd_T78 x687002_1 (ji11)).f1)] 78 (0, 0)) (fp BK695 rfl) hb) (Kept.below (S := (fun k_ => P0_2_ k_)) (km HK) hb) (bs HB hb) ?_; clear HO_687002 HO693 BK686 BK687 BK695 HK HB; intro HO_687002 HO693 BK686 BK687 BK695 HK HB; (try clear hb); (try clear hb2); (try clear hk); (try clear hi); obtain ⟨hcz26_0, hcz26_1, hfz26_0, hfz26_1⟩ := bt2 BK695))
        (try simp only [Act.put, za_, zb_, zc_])
        go_cut [] (fun wc => ∃ (kq : Nat) (x687002_15 : List (S78)) (x696001_15 : Int), Aside0 (impl_drop.j1 kq l1 x2_1 y691 x10_1 ji11 t696 a0_0 a0_1 x687002_15 ((rd_T78 x687002_1 (ji11)).f0) x696001_15 = some (r1, r2, r3, r4, r5)) ∧ Aside0 (kq ≤ k1) ∧ Aside0 (Kd.R (Kd.int .i64) 3 wc w0.heap.size (fun k_ => (P0_2_ k_ ∨ w.heap.size ≤ k_)) v692 y691) ∧ Aside0 (Kd.R k78 78 wc w0.heap.size (fun k_ => (P0_2_ k_ ∨ w.heap.size ≤ k_) ∧ k_ ≠ gb695) (.slice (some ad694) x687002_1.length co4) x687002_15) ∧ Aside0 (wc.heap[gb686]? = some (.cells #[.int .i64 a0_0, .int .i64 a0_1, (.slice (some ad694) x687002_1.length co4)] 48 (0, 0))) ∧ Aside0 (wc.heap[gb687]? = some (.cells #[.int .i64 x688000_1, .int .i64 x688001_1, .int .i64 x688002_1] 90 (0, 0))) ∧ Aside0 (wc.heap[gb695]? = some (.cells #[.int .i64 ((rd_T78 x687002_1 (ji11)).f0), .int .i64 x696001_15] 78 (0, 0))) ∧ Aside0 (Kept w wc (fun k_ => P0_2_ k_)) ∧ Aside0 (Below w0.heap.size w0 wc))
        case first =>
         have H := HC16.out
         clear HC16
         by_cases c27 : ((rd_T78 x687002_1 (ji11)).f0) = 3
         ·rw [if_pos c27] at H
          have c27b0 : (((rd_T78 x687002_1 (ji11)).f0) == 3) = true := beq_iff_eq.mpr c27
          have c27b1 : (((rd_T78 x687002_1 (ji11)).f0) != 3) = false := bne_eq_false_iff_eq.mpr c27
          clear c27
          (first | rw [c27b0] | (simp only [i64_w, i32_w]; rw [c27b0]) | skip)
          obtain ⟨y698, hy698⟩ : ∃ y_ : List (S78), y_ = (x687002_1.set ((ji11) : Int).toNat (⟨(rd_T78 x687002_1 (ji11)).f0, wrap64 (1 - ((rd_T78 x687002_1 (ji11)).f1))⟩ : S78)) := ⟨_, rfl⟩
          replace H : (impl_drop.j1 k1 l1 x2_1 y691 x10_1 ji11 t696 a0_0 a0_1 y698 ((rd_T78 x687002_1 (ji11)).f0) ((rd_T78 x687002_1 (ji11)).f1)) = some (r1, r2, r3, r4, r5) := by first | (rw [hy698]; with_reducible exact H) | (have H2_ := (Option.bind_some _ _).symm.trans H; rw [hy698]; with_reducible exact H2_) | (have H2_ := (Option.bind_some _ _).symm.trans H; with_reducible exact H2_) | with_reducible exact H | (rw [hy698]; exact H) | exact H
          have Ny698 := Aside0.mk hy698
          clear hy698
          have H' := Aside0.mk H
          clear H
          have hnb29 := NB686_687.out
          have hnc29 := NB687_686.out
          have hnb30 := NB686_695.out
          have hnc30 := NB695_686.out
          obtain ⟨hcz31_0, hcz31_1, hcz31_2, hfz31_0, hfz31_1, hfz31_2⟩ := bt3 BK686
          have hnb32 := NB695_687.out
          have hnc32 := NB687_695.out
          obtain ⟨hcz33_0, hcz33_1, hfz33_0, hfz33_1⟩ := bt2 BK695
          have p28 : 0 ≤ ((ji11) : Int) := of_decide_eq_true (by first | (with_reducible assumption) | assumption)
          have q28 : ((ji11) : Int) < ((x687002_1.length : Int) : Int) := of_decide_eq_true (by first | (with_reducible assumption) | assumption)
          obtain ⟨go28, co28, eo28, gb28, gl28, cl28, HG28⟩ := Kd.R_form HO_687002.out (by omega)
          (first | cases eo28 | (injection eo28 with ea_ en_ ec_; (first | subst ea_ | (injection ea_ with ea_; subst ea_)); subst ec_; clear en_))
          have GB28 := Aside0.mk gb28
          have GG28 := Aside0.mk HG28
          clear gb28 gl28 HG28
          have HMgo28 := Aside0.mk (show (P0_2_ go28 ∨ w.heap.size ≤ go28) from (HO_687002.out.1 _ rfl).1)
          (first | simp only [add_plain] at hx694_0 | skip)
          (first | simp only [add_plain] at hx694_1 | skip)
          obtain ⟨ce28, hcl28, hM28, hcc28, hfr28⟩ := Kd.R_elem HO_687002.out z78 ((ji11) : Int) p28 q28
          obtain rfl := k78_openM hM28
          have hx28_0 : w25.cell? ⟨go28, ((ji11) : Int).toNat * 2, none⟩ = some (.int .i64 ((rd_T78 x687002_1 (ji11)).f0)) := hcc28 0 _ rfl
          have hx28_1 : w25.cell? ⟨go28, ((ji11) : Int).toNat * 2 + 1, none⟩ = some (.int .i64 ((rd_T78 x687002_1 (ji11)).f1)) := hcc28 1 _ rfl
          have hf28_0 : w25.frozen? ⟨go28, ((ji11) : Int).toNat * 2, none⟩ = false := hfr28 0
          have hf28_1 : w25.frozen? ⟨go28, ((ji11) : Int).toNat * 2 + 1, none⟩ = false := hfr28 1
          clear hcl28 hcc28 hfr28 hM28
          replace p28 := eq_true p28
          replace q28 := eq_true q28
          have HX34 := Aside0.mk (show Kd.R k78 78 w25 w0.heap.size (fun k_ => (P0_2_ k_ ∨ w.heap.size ≤ k_) ∧ k_ ≠ gb695) (.slice (some ⟨go28, 0, none⟩) x687002_1.length co4) x687002_1 from (Kd.R_mv HO_687002.out))
          obtain ⟨ce34, hcl34, hM34, hcc34, hfr34⟩ := Kd.R_elem HX34.out z78 ((ji11) : Int) (of_decide_eq_true (by first | (with_reducible assumption) | assumption)) (by have h_ : ((ji11) : Int) < ((x687002_1.length : Int) : Int) := of_decide_eq_true (by first | (with_reducible assumption) | assumption); first | exact h_ | (have e_ := (Kd.R_reads' HO_687002.out).1; omega) | simpa using h_)
          obtain rfl := k78_openM hM34
          have HP34 := Kd.R_seg HX34.out ((ji11) : Int) (of_decide_eq_true (by first | (with_reducible assumption) | assumption)) (by have h_ : ((ji11) : Int) < ((x687002_1.length : Int) : Int) := of_decide_eq_true (by first | (with_reducible assumption) | assumption); first | exact h_ | (have e_ := (Kd.R_reads' HO_687002.out).1; omega) | simpa using h_) (seg := [.int .i64 (wrap64 (1 - ((rd_T78 x687002_1 (ji11)).f1)))]) (j := 1) hcl34 hcc34 (show 2 ≤ 2 from by decide) (x' := (⟨(rd_T78 x687002_1 (ji11)).f0, wrap64 (1 - ((rd_T78 x687002_1 (ji11)).f1))⟩ : S78)) (k78_mkM _ _ _ (⟨(rd_T78 x687002_1 (ji11)).f0, wrap64 (1 - ((rd_T78 x687002_1 (ji11)).f1))⟩ : S78) ) (fun _ hk => hk)
          have hx34_1 := hcc34 1 _ rfl
          (try simp only [show (k78).sz = 2 from rfl, Nat.mul_one, Nat.add_zero] at hx34_1)
          have hf34_1 := hfr34 1
          (try simp only [show (k78).sz = 2 from rfl, Nat.mul_one, Nat.add_zero] at hf34_1)
          clear hcl34 hcc34 hfr34 hM34
          go_wp2_with (first | ((with_reducible refine gate_store (t := 3) (p := 59) rfl ?_); refine store_event (t := 3) (p := 59) (v := ?vo_w35) (w1 := (w25.setCell ⟨go28, ((ji11) : Int).toNat * 2 + 1, none⟩ (.int .i64 (wrap64 (1 - ((rd_T78 x687002_1 (ji11)).f1)))))) ?hg ?ho ?hn ?hr ?_; (case ho => rfl); (case hg => rfl); (case hn => rfl); (case hr => first | (go_simp; done) | (go_simp; rfl)); intro w35 hw; have hg : w25.grownBy w35 (some go28) := (by rw [hw]; exact HP34.2); have hp_ : Kd.R k78 78 w35 w0.heap.size (fun k_ => (P0_2_ k_ ∨ w.heap.size ≤ k_) ∧ k_ ≠ gb695) (.slice (some ⟨go28, 0, none⟩) x687002_1.length co4) y698 := (by rw [hw, Ny698.out]; exact HP34.1); clear HP34; refine ev7 (hp_) (blk_grown (km_ BK686) hg (Kd.R_ne HO_687002.out BK686.out (by decide))) (blk_grown (km_ BK687) hg (Kd.R_ne HO_687002.out BK687.out (by decide))) (Kd.R_over' (v := (.slice (some ⟨go28, 0, none⟩) x687002_1.length co4)) (Kd.R_mv HO693.out) (Kd.R_typed HO_687002.out) (by decide) hg) (blk_grown (km_ BK695) hg (Kd.R_away HO_687002.out (fun _ hk => hk.2))) ((by rw [hw]; exact below_set (HB.out) GB28.out : Below w0.heap.size w0 w35)) (Kept.of_grown (S := (fun k_ => P0_2_ k_)) hg (km HK) (fun k_ e_ => (HO_687002.out.1 k_ e_).1)) ?_; clear HO_687002 BK686 BK687 HO693 BK695 HB HK; intro HO_687002 BK686 BK687 HO693 BK695 HB HK; clear hg hw hp_))
          go_meet
          case rel => exact ⟨_, (y698), ((rd_T78 x687002_1 (ji11)).f1), H', ⟨by have := HK1.out; first | omega | exact Nat.le_refl _⟩, ⟨by (try simp only [hl687002_1]); exact Kd.R_mv HO693.out⟩, ⟨by (try simp only [hl687002_1]); exact Kd.R_mv HO_687002.out⟩, ⟨by (try simp only [hl687002_1]); exact km_ BK686⟩, ⟨by (try simp only [hl687002_1]); exact km_ BK687⟩, ⟨by (try simp only [hl687002_1]); exact km_ BK695⟩, ⟨km HK⟩, ⟨bm HB⟩⟩
         ·rw [if_neg c27] at H
          have c27b0 : (((rd_T78 x687002_1 (ji11)).f0) == 3) = false := beq_eq_false_iff_ne.mpr c27
          have c27b1 : (((rd_T78 x687002_1 (ji11)).f0) != 3) = true := bne_iff_ne.mpr c27
          (first | rw [c27b0] | (simp only [i64_w, i32_w]; rw [c27b0]) | skip)
          have H' := Aside0.mk H
          clear H
          go_wp2
          go_meet
          case rel => exact ⟨_, (x687002_1), ((rd_T78 x687002_1 (ji11)).f1), H', ⟨by have := HK1.out; first | omega | exact Nat.le_refl _⟩, ⟨by (try simp only [hl687002_1]); exact Kd.R_mv HO693.out⟩, ⟨by (try simp only [hl687002_1]); exact Kd.R_mv HO_687002.out⟩, ⟨by (try simp only [hl687002_1]); exact km_ BK686⟩, ⟨by (try simp only [hl687002_1]); exact km_ BK687⟩, ⟨by (try simp only [hl687002_1]); exact km_ BK695⟩, ⟨km HK⟩, ⟨bm HB⟩⟩
        case rest =>
         clear HC16
         try clear c1
         try clear c2
         try clear p2
         try clear p6
         try clear q6
         try clear hx6
         try clear c9
         try clear c9b0
         try clear c10
         try clear c11
         try clear c12
         try clear c12b0
         try clear c13
         try clear c13b0
         try clear c15
         try clear c17
         try clear c22
         try clear c23
         try clear hcz18_0
         try clear hcz18_1
         try clear hcz18_2
         try clear hcz20_0
         try clear hcz20_1
         try clear hcz20_2
         try clear hcz24_0
         try clear hcz24_1
         try clear hcz26_0
         try clear hcz26_1
         try clear hfz18_0
         try clear hfz18_1
         try clear hfz18_2
         try clear hfz20_0
         try clear hfz20_1
         try clear hfz20_2
         try clear hfz24_0
         try clear hfz24_1
         try clear hfz26_0
         try clear hfz26_1
         try clear hx694_0
         try clear hx694_1
         try clear p2
         try clear p694
         try clear q694
         obtain ⟨kq, x687002_15, x696001_15, HA, HJ15, HO_8, HO_687002, BK686, BK687, BK695, HK, HB⟩ := hcut
         have hl687002_15 := (Kd.R_reads' HO_687002.out).1
         rw [hl687002_15] at HO_687002
         (try simp only [hl687002_15])
         (try simp only [hl687002_15] at BK686)
         (try simp only [hl687002_15] at BK687)
         (try simp only [hl687002_15] at BK695)
         (try simp only [hl687002_15] at HO_8)
         cases kq with
         | zero => exact absurd HA.out (by simp [impl_drop.j1])
         | succ kj15 =>
          have H := HA.out
          clear HA
          simp only [impl_drop.j1] at H
          by_cases c36 : ((rd_T78 x687002_1 (ji11)).f0) = 6
          ·rw [if_pos c36] at H
           have c36b0 : (((rd_T78 x687002_1 (ji11)).f0) == 6) = true := beq_iff_eq.mpr c36
           have c36b1 : (((rd_T78 x687002_1 (ji11)).f0) != 6) = false := bne_eq_false_iff_eq.mpr c36
           clear c36
           replace H := Option.bind_eq_some_iff.mp H
           obtain ⟨t699, A370, H⟩ := H
           replace H : (if (wrap64 (x2_1 + t696)) < 0 then (some (3, x10_1, wrap64 (x2_1 + t696), y691, t699)) else (if (wrap64 (x2_1 + t696)) ≥ a0_1 then (some (3, x10_1, wrap64 (x2_1 + t696), y691, t699)) else (impl_drop.l0 kj15 l1 (wrap64 (x2_1 + t696)) y691 (wrap64 (-t696)) (wrap64 (x10_1 + 1)) a0_0 a0_1 t699))) = some (r1, r2, r3, r4, r5) := H
           have A37 := Aside0.mk A370
           clear A370
           by_cases c38 : (wrap64 (x2_1 + t696)) < 0
           ·rw [if_pos c38] at H
            have c38b0 : decide ((wrap64 (x2_1 + t696)) < 0) = true := decide_eq_true c38
            clear c38
            simp only [Option.some.injEq, Prod.mk.injEq] at H
            obtain ⟨rfl, rfl, rfl, rfl, rfl⟩ := H
            have hnb39 := NB695_686.out
            have hnc39 := NB686_695.out
            have hnb40 := NB695_687.out
            have hnc40 := NB687_695.out
            obtain ⟨hcz41_0, hcz41_1, hfz41_0, hfz41_1⟩ := bt2 BK695
            have hnb42 := NB686_687.out
            have hnc42 := NB687_686.out
            obtain ⟨hcz43_0, hcz43_1, hcz43_2, hfz43_0, hfz43_1, hfz43_2⟩ := bt3 BK686
            go_wp2_with (first | ((with_reducible refine gate_callee (f := 135) rfl ?_); refine goesL_ (some 66) rfl rfl Try.func135 (by kernel_rfl) rfl #[.agg #[.int .i64 a0_0, .int .i64 a0_1, .slice (some ad694) x687002_15.length co4], .slice A1 l1.length c1, .int .i64 ji11] rfl (by (try simp only [ma_, mb_, mc_]); first | done | (simp only [hji11]; rfl) | rfl | (simp only [List.length_drop, List.length_take]; rfl)) ?_; (with_reducible refine (impl_turnGroup.calls kj15 a0_0 a0_1 (fun k_ => some k_ = (.slice (some ad694) x687002_15.length co4 : Value).ownBlock) (.slice (some ad694) x687002_15.length co4) x687002_15 _ _ l1 ji11 t699 w0 _ (bm HB) ?side2 ?side3 HC1.out A37.out).mono ?_); (case side2 => exact Kd.R_tight rfl HO_687002.out); (case side3 => exact Kd.C_kept_call HR1.out (km HK) (fun k_ hs_ => (fun e_ => (HO_687002.out.1 k_ e_.symm).1) hs_)); rintro e w44 ⟨rfl, hy0, hb, hkp⟩; refine ⟨_, rfl, ?_⟩; refine ev7 (Kd.R_mono (ok' := fun k_ => (P0_2_ k_ ∨ w.heap.size ≤ k_)) (Kd.R_keptB ((Kd.R_apart' HO_8.out (Kd.R_typed HO_687002.out) (by decide))) hkp (fun k_ hk_ hs_ => (hk_.2) hs_)) (fun k_ hk_ => hk_.1.1)) (Kd.R_reok rfl hy0 (fun k_ e_ => HO_687002.out.1 k_ e_)) (blk_kept (km_ BK686) hkp (fun hs_ => (fun e_ => (Kd.R_ne HO_687002.out BK686.out (by decide)) e_) hs_)) (blk_kept (km_ BK687) hkp (fun hs_ => (fun e_ => (Kd.R_ne HO_687002.out BK687.out (by decide)) e_) hs_)) (blk_kept (km_ BK695) hkp (fun hs_ => (fun e_ => (Kd.R_away HO_687002.out (fun _ hk => hk.2)) e_) hs_)) (Kept.then_ (S := (fun k_ => P0_2_ k_)) (km HK) hkp (fun k_ hs_ => (fun e_ => (HO_687002.out.1 k_ e_.symm).1) hs_)) (hb) ?_; clear HO_8 HO_687002 BK686 BK687 BK695 HK HB; intro HO_8 HO_687002 BK686 BK687 BK695 HK HB; (try clear hb); (try clear hkp); (try clear hy0); obtain ⟨hcz45_0, hcz45_1, hcz45_2, hfz45_0, hfz45_1, hfz45_2⟩ := bt3 BK687))
            refine bodyPost_ret (results_ct rfl _ _ gb687 90 #[.int .i64 3, .int .i64 x10_1, .int .i64 (wrap64 (x2_1 + t696))] (0, 0) _ rfl (fp BK687 rfl) Try.underlying90 rfl (by kernel_rfl)) rfl ?_
            exact ⟨_, by first | rfl | (simp [e0_, e1_] <;> rfl) | (simp only [← hji11]; first | rfl | (simp [e0_, e1_] <;> rfl)) | (simp [*, e0_, e1_] <;> rfl), Kd.R_mv (Kd.R_mono (ok' := fun k_ => ((P0_2_ k_ ∨ w.heap.size ≤ k_))) (Kd.R_far (p := ⟨gb687, 2, none⟩) (Kd.R_far (p := ⟨gb687, 1, none⟩) (Kd.R_far (p := ⟨gb687, 0, none⟩) (Kd.R_types HO_8.out BK687.out (by decide)) (fun _ hk => hk.2) (.int .i64 3)) (fun _ hk => hk.2) (.int .i64 x10_1)) (fun _ hk => hk.2) (.int .i64 (wrap64 (x2_1 + t696)))) (fun _ hk => hk.1)), (by first | exact (Kd.R_mv (Kd.R_mono (ok' := fun k_ => ((P0_2_ k_ ∨ w.heap.size ≤ k_))) (Kd.R_far (p := ⟨gb687, 2, none⟩) (Kd.R_far (p := ⟨gb687, 1, none⟩) (Kd.R_far (p := ⟨gb687, 0, none⟩) (Kd.R_types HO_687002.out BK687.out (by decide)) (fun _ hk => hk.2) (.int .i64 3)) (fun _ hk => hk.2) (.int .i64 x10_1)) (fun _ hk => hk.2) (.int .i64 (wrap64 (x2_1 + t696)))) (fun _ hk => hk.1.1))) | (simp only [hl687002_1, hl687002_15]; exact (Kd.R_mv (Kd.R_mono (ok' := fun k_ => ((P0_2_ k_ ∨ w.heap.size ≤ k_))) (Kd.R_far (p := ⟨gb687, 2, none⟩) (Kd.R_far (p := ⟨gb687, 1, none⟩) (Kd.R_far (p := ⟨gb687, 0, none⟩) (Kd.R_types HO_687002.out BK687.out (by decide)) (fun _ hk => hk.2) (.int .i64 3)) (fun _ hk => hk.2) (.int .i64 x10_1)) (fun _ hk => hk.2) (.int .i64 (wrap64 (x2_1 + t696)))) (fun _ hk => hk.1.1))))), bm HB, km HK⟩
           ·rw [if_neg c38] at H
            have c38b0 : decide ((wrap64 (x2_1 + t696)) < 0) = false := decide_eq_false c38
            clear c38
            by_cases c46 : (wrap64 (x2_1 + t696)) ≥ a0_1
            ·rw [if_pos c46] at H
             have c46b0 : decide (a0_1 ≤ (wrap64 (x2_1 + t696))) = true := decide_eq_true c46
             clear c46
             simp only [Option.some.injEq, Prod.mk.injEq] at H
             obtain ⟨rfl, rfl, rfl, rfl, rfl⟩ := H
             have hnb47 := NB695_686.out
             have hnc47 := NB686_695.out
             have hnb48 := NB695_687.out
             have hnc48 := NB687_695.out
             obtain ⟨hcz49_0, hcz49_1, hfz49_0, hfz49_1⟩ := bt2 BK695
             have hnb50 := NB686_687.out
             have hnc50 := NB687_686.out
             obtain ⟨hcz51_0, hcz51_1, hcz51_2, hfz51_0, hfz51_1, hfz51_2⟩ := bt3 BK686
             go_wp2_with (first | ((with_reducible refine gate_callee (f := 135) rfl ?_); refine goesL_ (some 66) rfl rfl Try.func135 (by kernel_rfl) rfl #[.agg #[.int .i64 a0_0, .int .i64 a0_1, .slice (some ad694) x687002_15.length co4], .slice A1 l1.length c1, .int .i64 ji11] rfl (by (try simp only [ma_, mb_, mc_]); first | done | (simp only [hji11]; rfl) | rfl | (simp only [List.length_drop, List.length_take]; rfl)) ?_; (with_reducible refine (impl_turnGroup.calls kj15 a0_0 a0_1 (fun k_ => some k_ = (.slice (some ad694) x687002_15.length co4 : Value).ownBlock) (.slice (some ad694) x687002_15.length co4) x687002_15 _ _ l1 ji11 t699 w0 _ (bm HB) ?side2 ?side3 HC1.out A37.out).mono ?_); (case side2 => exact Kd.R_tight rfl HO_687002.out); (case side3 => exact Kd.C_kept_call HR1.out (km HK) (fun k_ hs_ => (fun e_ => (HO_687002.out.1 k_ e_.symm).1) hs_)); rintro e w52 ⟨rfl, hy0, hb, hkp⟩; refine ⟨_, rfl, ?_⟩; refine ev7 (Kd.R_mono (ok' := fun k_ => (P0_2_ k_ ∨ w.heap.size ≤ k_)) (Kd.R_keptB ((Kd.R_apart' HO_8.out (Kd.R_typed HO_687002.out) (by decide))) hkp (fun k_ hk_ hs_ => (hk_.2) hs_)) (fun k_ hk_ => hk_.1.1)) (Kd.R_reok rfl hy0 (fun k_ e_ => HO_687002.out.1 k_ e_)) (blk_kept (km_ BK686) hkp (fun hs_ => (fun e_ => (Kd.R_ne HO_687002.out BK686.out (by decide)) e_) hs_)) (blk_kept (km_ BK687) hkp (fun hs_ => (fun e_ => (Kd.R_ne HO_687002.out BK687.out (by decide)) e_) hs_)) (blk_kept (km_ BK695) hkp (fun hs_ => (fun e_ => (Kd.R_away HO_687002.out (fun _ hk => hk.2)) e_) hs_)) (Kept.then_ (S := (fun k_ => P0_2_ k_)) (km HK) hkp (fun k_ hs_ => (fun e_ => (HO_687002.out.1 k_ e_.symm).1) hs_)) (hb) ?_; clear HO_8 HO_687002 BK686 BK687 BK695 HK HB; intro HO_8 HO_687002 BK686 BK687 BK695 HK HB; (try clear hb); (try clear hkp); (try clear hy0); obtain ⟨hcz53_0, hcz53_1, hcz53_2, hfz53_0, hfz53_1, hfz53_2⟩ := bt3 BK686; obtain ⟨hcz54_0, hcz54_1, hcz54_2, hfz54_0, hfz54_1, hfz54_2⟩ := bt3 BK687))
             refine bodyPost_ret (results_ct rfl _ _ gb687 90 #[.int .i64 3, .int .i64 x10_1, .int .i64 (wrap64 (x2_1 + t696))] (0, 0) _ rfl (fp BK687 rfl) Try.underlying90 rfl (by kernel_rfl)) rfl ?_
             exact ⟨_, by first | rfl | (simp [e0_, e1_] <;> rfl) | (simp only [← hji11]; first | rfl | (simp [e0_, e1_] <;> rfl)) | (simp [*, e0_, e1_] <;> rfl), Kd.R_mv (Kd.R_mono (ok' := fun k_ => ((P0_2_ k_ ∨ w.heap.size ≤ k_))) (Kd.R_far (p := ⟨gb687, 2, none⟩) (Kd.R_far (p := ⟨gb687, 1, none⟩) (Kd.R_far (p := ⟨gb687, 0, none⟩) (Kd.R_types HO_8.out BK687.out (by decide)) (fun _ hk => hk.2) (.int .i64 3)) (fun _ hk => hk.2) (.int .i64 x10_1)) (fun _ hk => hk.2) (.int .i64 (wrap64 (x2_1 + t696)))) (fun _ hk => hk.1)), (by first | exact (Kd.R_mv (Kd.R_mono (ok' := fun k_ => ((P0_2_ k_ ∨ w.heap.size ≤ k_))) (Kd.R_far (p := ⟨gb687, 2, none⟩) (Kd.R_far (p := ⟨gb687, 1, none⟩) (Kd.R_far (p := ⟨gb687, 0, none⟩) (Kd.R_types HO_687002.out BK687.out (by decide)) (fun _ hk => hk.2) (.int .i64 3)) (fun _ hk => hk.2) (.int .i64 x10_1)) (fun _ hk => hk.2) (.int .i64 (wrap64 (x2_1 + t696)))) (fun _ hk => hk.1.1))) | (simp only [hl687002_1, hl687002_15]; exact (Kd.R_mv (Kd.R_mono (ok' := fun k_ => ((P0_2_ k_ ∨ w.heap.size ≤ k_))) (Kd.R_far (p := ⟨gb687, 2, none⟩) (Kd.R_far (p := ⟨gb687, 1, none⟩) (Kd.R_far (p := ⟨gb687, 0, none⟩) (Kd.R_types HO_687002.out BK687.out (by decide)) (fun _ hk => hk.2) (.int .i64 3)) (fun _ hk => hk.2) (.int .i64 x10_1)) (fun _ hk => hk.2) (.int .i64 (wrap64 (x2_1 + t696)))) (fun _ hk => hk.1.1))))), bm HB, km HK⟩
            ·rw [if_neg c46] at H
             have c46b0 : decide (a0_1 ≤ (wrap64 (x2_1 + t696))) = false := decide_eq_false c46
             clear c46
             have H' := Aside0.mk H
             clear H
             have hnb55 := NB695_686.out
             have hnc55 := NB686_695.out
             have hnb56 := NB695_687.out
             have hnc56 := NB687_695.out
             obtain ⟨hcz57_0, hcz57_1, hfz57_0, hfz57_1⟩ := bt2 BK695
             have hnb58 := NB686_687.out
             have hnc58 := NB687_686.out
             obtain ⟨hcz59_0, hcz59_1, hcz59_2, hfz59_0, hfz59_1, hfz59_2⟩ := bt3 BK686
             go_wp2_with (first | ((with_reducible refine gate_callee (f := 135) rfl ?_); refine goesL_ (some 66) rfl rfl Try.func135 (by kernel_rfl) rfl #[.agg #[.int .i64 a0_0, .int .i64 a0_1, .slice (some ad694) x687002_15.length co4], .slice A1 l1.length c1, .int .i64 ji11] rfl (by (try simp only [ma_, mb_, mc_]); first | done | (simp only [hji11]; rfl) | rfl | (simp only [List.length_drop, List.length_take]; rfl)) ?_; (with_reducible refine (impl_turnGroup.calls kj15 a0_0 a0_1 (fun k_ => some k_ = (.slice (some ad694) x687002_15.length co4 : Value).ownBlock) (.slice (some ad694) x687002_15.length co4) x687002_15 _ _ l1 ji11 t699 w0 _ (bm HB) ?side2 ?side3 HC1.out A37.out).mono ?_); (case side2 => exact Kd.R_tight rfl HO_687002.out); (case side3 => exact Kd.C_kept_call HR1.out (km HK) (fun k_ hs_ => (fun e_ => (HO_687002.out.1 k_ e_.symm).1) hs_)); rintro e w60 ⟨rfl, hy0, hb, hkp⟩; refine ⟨_, rfl, ?_⟩; refine ev7 (Kd.R_mono (ok' := fun k_ => (P0_2_ k_ ∨ w.heap.size ≤ k_)) (Kd.R_keptB ((Kd.R_apart' HO_8.out (Kd.R_typed HO_687002.out) (by decide))) hkp (fun k_ hk_ hs_ => (hk_.2) hs_)) (fun k_ hk_ => hk_.1.1)) (Kd.R_reok rfl hy0 (fun k_ e_ => HO_687002.out.1 k_ e_)) (blk_kept (km_ BK686) hkp (fun hs_ => (fun e_ => (Kd.R_ne HO_687002.out BK686.out (by decide)) e_) hs_)) (blk_kept (km_ BK687) hkp (fun hs_ => (fun e_ => (Kd.R_ne HO_687002.out BK687.out (by decide)) e_) hs_)) (blk_kept (km_ BK695) hkp (fun hs_ => (fun e_ => (Kd.R_away HO_687002.out (fun _ hk => hk.2)) e_) hs_)) (Kept.then_ (S := (fun k_ => P0_2_ k_)) (km HK) hkp (fun k_ hs_ => (fun e_ => (HO_687002.out.1 k_ e_.symm).1) hs_)) (hb) ?_; clear HO_8 HO_687002 BK686 BK687 BK695 HK HB; intro HO_8 HO_687002 BK686 BK687 BK695 HK HB; (try clear hb); (try clear hkp); (try clear hy0); obtain ⟨hcz61_0, hcz61_1, hcz61_2, hfz61_0, hfz61_1, hfz61_2⟩ := bt3 BK686))
             (try simp only [← hl687002_1, ← hl687002_15])
             go_roundg kj15
             case measure => have := HK1.out; have := HJ15.out; omega
             case rel => exact ⟨(wrap64 (x2_1 + t696)), (y691), (wrap64 (-t696)), (wrap64 (x10_1 + 1)), (t699), (x688000_1), (x688001_1), (x688002_1), (by first | rfl | (simp; done) | (simp [*]; done)), (by first | rfl | (simp; done) | (simp [*]; done)), (by first | rfl | (simp; done) | (simp [*]; done)), H', ⟨by have := HK1.out; have := HJ15.out; omega⟩, ⟨by (try simp only [hl687002_1]); (try simp only [hl687002_15]); exact Kd.R_mv HO_8.out⟩, ⟨by (try simp only [hl687002_1]); (try simp only [hl687002_15]); exact Kd.R_mv (Kd.R_mono (ok' := fun k_ => ((P0_2_ k_ ∨ w.heap.size ≤ k_))) HO_687002.out (fun _ hk => hk.1))⟩, ⟨by (try simp only [hl687002_1]); (try simp only [hl687002_15]); exact km_ BK686⟩, ⟨by (try simp only [hl687002_1]); (try simp only [hl687002_15]); exact km_ BK687⟩, ⟨km HK⟩, ⟨bm HB⟩⟩
          ·rw [if_neg c36] at H
           have c36b0 : (((rd_T78 x687002_1 (ji11)).f0) == 6) = false := beq_eq_false_iff_ne.mpr c36
           have c36b1 : (((rd_T78 x687002_1 (ji11)).f0) != 6) = true := bne_iff_ne.mpr c36
           by_cases c62 : (wrap64 (x2_1 + t696)) < 0
           ·rw [if_pos c62] at H
            have c62b0 : decide ((wrap64 (x2_1 + t696)) < 0) = true := decide_eq_true c62
            clear c62
            simp only [Option.some.injEq, Prod.mk.injEq] at H
            obtain ⟨rfl, rfl, rfl, rfl, rfl⟩ := H
            have hnb63 := NB695_686.out
            have hnc63 := NB686_695.out
            have hnb64 := NB695_687.out
            have hnc64 := NB687_695.out
            obtain ⟨hcz65_0, hcz65_1, hfz65_0, hfz65_1⟩ := bt2 BK695
            have hnb66 := NB687_686.out
            have hnc66 := NB686_687.out
            obtain ⟨hcz67_0, hcz67_1, hcz67_2, hfz67_0, hfz67_1, hfz67_2⟩ := bt3 BK687
            go_wp2
            refine bodyPost_ret (results_ct rfl _ _ gb687 90 #[.int .i64 3, .int .i64 x10_1, .int .i64 (wrap64 (x2_1 + t696))] (0, 0) _ rfl (fp BK687 rfl) Try.underlying90 rfl (by kernel_rfl)) rfl ?_
            exact ⟨_, by first | rfl | (simp [e0_, e1_] <;> rfl) | (simp only [← hji11]; first | rfl | (simp [e0_, e1_] <;> rfl)) | (simp [*, e0_, e1_] <;> rfl), Kd.R_mv (Kd.R_mono (ok' := fun k_ => ((P0_2_ k_ ∨ w.heap.size ≤ k_))) (Kd.R_far (p := ⟨gb687, 2, none⟩) (Kd.R_far (p := ⟨gb687, 1, none⟩) (Kd.R_far (p := ⟨gb687, 0, none⟩) (Kd.R_types HO_8.out BK687.out (by decide)) (fun _ hk => hk.2) (.int .i64 3)) (fun _ hk => hk.2) (.int .i64 x10_1)) (fun _ hk => hk.2) (.int .i64 (wrap64 (x2_1 + t696)))) (fun _ hk => hk.1)), (by first | exact (Kd.R_mv (Kd.R_mono (ok' := fun k_ => ((P0_2_ k_ ∨ w.heap.size ≤ k_))) (Kd.R_far (p := ⟨gb687, 2, none⟩) (Kd.R_far (p := ⟨gb687, 1, none⟩) (Kd.R_far (p := ⟨gb687, 0, none⟩) (Kd.R_types HO_687002.out BK687.out (by decide)) (fun _ hk => hk.2) (.int .i64 3)) (fun _ hk => hk.2) (.int .i64 x10_1)) (fun _ hk => hk.2) (.int .i64 (wrap64 (x2_1 + t696)))) (fun _ hk => hk.1.1))) | (simp only [hl687002_1, hl687002_15]; exact (Kd.R_mv (Kd.R_mono (ok' := fun k_ => ((P0_2_ k_ ∨ w.heap.size ≤ k_))) (Kd.R_far (p := ⟨gb687, 2, none⟩) (Kd.R_far (p := ⟨gb687, 1, none⟩) (Kd.R_far (p := ⟨gb687, 0, none⟩) (Kd.R_types HO_687002.out BK687.out (by decide)) (fun _ hk => hk.2) (.int .i64 3)) (fun _ hk => hk.2) (.int .i64 x10_1)) (fun _ hk => hk.2) (.int .i64 (wrap64 (x2_1 + t696)))) (fun _ hk => hk.1.1))))), bm HB, km HK⟩
           ·rw [if_neg c62] at H
            have c62b0 : decide ((wrap64 (x2_1 + t696)) < 0) = false := decide_eq_false c62
            clear c62
            by_cases c68 : (wrap64 (x2_1 + t696)) ≥ a0_1
            ·rw [if_pos c68] at H
             have c68b0 : decide (a0_1 ≤ (wrap64 (x2_1 + t696))) = true := decide_eq_true c68
             clear c68
             simp only [Option.some.injEq, Prod.mk.injEq] at H
             obtain ⟨rfl, rfl, rfl, rfl, rfl⟩ := H
             have hnb69 := NB695_686.out
             have hnc69 := NB686_695.out
             have hnb70 := NB695_687.out
             have hnc70 := NB687_695.out
             obtain ⟨hcz71_0, hcz71_1, hfz71_0, hfz71_1⟩ := bt2 BK695
             have hnb72 := NB686_687.out
             have hnc72 := NB687_686.out
             obtain ⟨hcz73_0, hcz73_1, hcz73_2, hfz73_0, hfz73_1, hfz73_2⟩ := bt3 BK686
             obtain ⟨hcz74_0, hcz74_1, hcz74_2, hfz74_0, hfz74_1, hfz74_2⟩ := bt3 BK687
             go_wp2
             refine bodyPost_ret (results_ct rfl _ _ gb687 90 #[.int .i64 3, .int .i64 x10_1, .int .i64 (wrap64 (x2_1 + t696))] (0, 0) _ rfl (fp BK687 rfl) Try.underlying90 rfl (by kernel_rfl)) rfl ?_
             exact ⟨_, by first | rfl | (simp [e0_, e1_] <;> rfl) | (simp only [← hji11]; first | rfl | (simp [e0_, e1_] <;> rfl)) | (simp [*, e0_, e1_] <;> rfl), Kd.R_mv (Kd.R_mono (ok' := fun k_ => ((P0_2_ k_ ∨ w.heap.size ≤ k_))) (Kd.R_far (p := ⟨gb687, 2, none⟩) (Kd.R_far (p := ⟨gb687, 1, none⟩) (Kd.R_far (p := ⟨gb687, 0, none⟩) (Kd.R_types HO_8.out BK687.out (by decide)) (fun _ hk => hk.2) (.int .i64 3)) (fun _ hk => hk.2) (.int .i64 x10_1)) (fun _ hk => hk.2) (.int .i64 (wrap64 (x2_1 + t696)))) (fun _ hk => hk.1)), (by first | exact (Kd.R_mv (Kd.R_mono (ok' := fun k_ => ((P0_2_ k_ ∨ w.heap.size ≤ k_))) (Kd.R_far (p := ⟨gb687, 2, none⟩) (Kd.R_far (p := ⟨gb687, 1, none⟩) (Kd.R_far (p := ⟨gb687, 0, none⟩) (Kd.R_types HO_687002.out BK687.out (by decide)) (fun _ hk => hk.2) (.int .i64 3)) (fun _ hk => hk.2) (.int .i64 x10_1)) (fun _ hk => hk.2) (.int .i64 (wrap64 (x2_1 + t696)))) (fun _ hk => hk.1.1))) | (simp only [hl687002_1, hl687002_15]; exact (Kd.R_mv (Kd.R_mono (ok' := fun k_ => ((P0_2_ k_ ∨ w.heap.size ≤ k_))) (Kd.R_far (p := ⟨gb687, 2, none⟩) (Kd.R_far (p := ⟨gb687, 1, none⟩) (Kd.R_far (p := ⟨gb687, 0, none⟩) (Kd.R_types HO_687002.out BK687.out (by decide)) (fun _ hk => hk.2) (.int .i64 3)) (fun _ hk => hk.2) (.int .i64 x10_1)) (fun _ hk => hk.2) (.int .i64 (wrap64 (x2_1 + t696)))) (fun _ hk => hk.1.1))))), bm HB, km HK⟩
            ·rw [if_neg c68] at H
             have c68b0 : decide (a0_1 ≤ (wrap64 (x2_1 + t696))) = false := decide_eq_false c68
             clear c68
             have H' := Aside0.mk H
             clear H
             have hnb75 := NB695_686.out
             have hnc75 := NB686_695.out
             have hnb76 := NB695_687.out
             have hnc76 := NB687_695.out
             obtain ⟨hcz77_0, hcz77_1, hfz77_0, hfz77_1⟩ := bt2 BK695
             have hnb78 := NB686_687.out
             have hnc78 := NB687_686.out
             obtain ⟨hcz79_0, hcz79_1, hcz79_2, hfz79_0, hfz79_1, hfz79_2⟩ := bt3 BK686
             go_wp2
             (try simp only [← hl687002_1, ← hl687002_15])
             go_roundg kj15
             case measure => have := HK1.out; have := HJ15.out; omega
             case rel => exact ⟨(wrap64 (x2_1 + t696)), (y691), (wrap64 (-t696)), (wrap64 (x10_1 + 1)), (x687002_15), (x688000_1), (x688001_1), (x688002_1), (by first | rfl | (simp; done) | (simp [*]; done)), (by first | rfl | (simp; done) | (simp [*]; done)), (by first | rfl | (simp; done) | (simp [*]; done)), H', ⟨by have := HK1.out; have := HJ15.out; omega⟩, ⟨by (try simp only [hl687002_1]); (try simp only [hl687002_15]); exact Kd.R_mv HO_8.out⟩, ⟨by (try simp only [hl687002_1]); (try simp only [hl687002_15]); exact Kd.R_mv (Kd.R_mono (ok' := fun k_ => ((P0_2_ k_ ∨ w.heap.size ≤ k_))) HO_687002.out (fun _ hk => hk.1))⟩, ⟨by (try simp only [hl687002_1]); (try simp only [hl687002_15]); exact km_ BK686⟩, ⟨by (try simp only [hl687002_1]); (try simp only [hl687002_15]); exact km_ BK687⟩, ⟨km HK⟩, ⟨bm HB⟩⟩
       ·replace c15 := Bool.eq_false_iff.mpr c15
        subst c15
        have H1 : (some (2, x10_1, x2_1, y691, x687002_1)) = some (r1, r2, r3, r4, r5) := by rw [if_neg (show ¬ (false = true) by decide)] at H; exact H
        clear H
        have H := H1
        clear H1
        simp only [Option.some.injEq, Prod.mk.injEq] at H
        obtain ⟨rfl, rfl, rfl, rfl, rfl⟩ := H
        have hnb80 := NB686_687.out
        have hnc80 := NB687_686.out
        obtain ⟨hcz81_0, hcz81_1, hcz81_2, hfz81_0, hfz81_1, hfz81_2⟩ := bt3 BK686
        go_wp2_with (first | ((with_reducible refine gate_builtin (b := .append) (xs := #[.tmp 28, .tmp 30]) rfl ?_); at_builtin; refine Kd.R_append (Kd.int .i64) (w0 := w0) w0.heap.size rfl (.tmp 28) (.tmp 30) 22 3 (.int .i64 0) 8 rfl Try.underlying22 info3 rfl (by decide) (by omega) u8 x8_1 ji11 [.int .i64 ji11] (fun k_ => (P0_2_ k_ ∨ w.heap.size ≤ k_)) (fun _ => False) rfl rfl ?aP (fun _ hk => hk.elim) ?aF ?aO ?aB ?aS ?aL ?_; (case aP => exact rfl); (case aB => exact (bm HB)); (case aF => exact (fun k_ hk => (.inr (Nat.le_trans (by first | exact HK.out.1 | exact (show Kept w _ (fun k_ => P0_2_ k_) from km HK).1) hk)))); (case aO => exact (Kd.R_mv HO_8.out)); (case aS => exact (below_size (bm HB))); (case aL => have := LMc10.out; omega); intro v692 w82 ho hb hg hat; rw [← Ny691.out] at ho; refine ev6 (Kd.R_over' (Kd.R_mv HO_687002.out) (Kd.R_typed (Kd.R_mv HO_8.out)) (by decide) hg) (blk_grown (km_ BK686) hg (Kd.R_ne HO_8.out BK686.out (by decide))) (blk_grown (km_ BK687) hg (Kd.R_ne HO_8.out BK687.out (by decide))) (hb) (Kept.of_grown (S := (fun k_ => P0_2_ k_)) hg (km HK) (fun k_ e_ => (HO_8.out.1 k_ e_))) (ho) ?_; clear HO_687002 BK686 BK687 HB HK HO_8; intro HO_687002 BK686 BK687 HB HK HO693; clear ho hb hg hat; obtain ⟨hcz83_0, hcz83_1, hcz83_2, hfz83_0, hfz83_1, hfz83_2⟩ := bt3 BK686; have p694 : 0 ≤ ((ji11) : Int) := of_decide_eq_true (by first | (with_reducible assumption) | assumption); have q694 : (ji11) < (x687002_1.length : Int) := of_decide_eq_true (by first | (with_reducible assumption) | assumption); obtain ⟨ad694, e694, hx694_0, hx694_1⟩ := at_T78 (Kd.R_reads' HO_687002.out).2.2 (ji11) p694 q694; cases e694; replace p694 := eq_true p694; replace q694 := eq_true q694) | ((with_reducible refine gate_dst (N := 12) rfl ?_); refine box_event ?hg (N := 12) ?hd (cs := #[.int .i64 0, .int .i64 0]) (t := 78) ?hr ?_; (case hd => rfl); (case hg => rfl); (case hr => first | (go_simp; done) | (go_simp; rfl)); intro gb695 hg w84 hbox hb; refine ev12 (Kd.R_below (Kd.R_elderB (Kd.R_mv HO_687002.out) gb695 (Nat.le_of_eq hg.symm)) hb) (Kd.R_below (Kd.R_mv HO693.out) hb) (kb BK686 hb) (kb BK687 hb) (Kept.below (S := (fun k_ => P0_2_ k_)) (km HK) hb) (bs HB hb) (hbox) ((by rw [hg]; exact (by first | exact HK.out.1 | exact (show Kept w _ (fun k_ => P0_2_ k_) from km HK).1) : w.heap.size ≤ gb695)) (gle hg HB) (gnf hg BK686) (gne hg BK686) (gnf hg BK687) ?_; intro n0_ n1_ n2_ n3_ n4_ n5_ n6_ n7_ n8_ n9_ n10_ n11_; refine ev1 (gne hg BK687) ?_; intro n12_; clear HO_687002 HO693 BK686 BK687 HK HB; revert n0_ n1_ n2_ n3_ n4_ n5_ n6_ n7_ n8_ n9_ n10_ n11_ n12_; intro HO_687002 HO693 BK686 BK687 HK HB BK695 GW695 GE695 NB686_695 NB695_686 NB687_695 NB695_687; clear hb hbox hg; have hnb85 := NB695_686.out; have hnc85 := NB686_695.out; have hnb86 := NB695_687.out; have hnc86 := NB687_695.out; obtain ⟨hcz87_0, hcz87_1, hfz87_0, hfz87_1⟩ := bt2 BK695) | ((with_reducible refine gate_callee (f := 134) rfl ?_); refine goesL_ (some 40) rfl rfl Try.func134 (by kernel_rfl) rfl #[.agg #[.int .i64 ((rd_T78 x687002_1 (ji11)).f0), .int .i64 ((rd_T78 x687002_1 (ji11)).f1)], .int .i64 x9_1] rfl (by (try simp only [ma_, mb_, mc_]); first | done | (simp only [hji11]; rfl) | rfl | (simp only [List.length_drop, List.length_take]; rfl)) ?_; (with_reducible refine (impl_GoesTo.calls k1 ((rd_T78 x687002_1 (ji11)).f0) ((rd_T78 x687002_1 (ji11)).f1) x9_1 t696 false _ A14.out).mono ?_); rintro e w88 ⟨rfl, hb⟩; refine ⟨_, rfl, ?_⟩; refine ev7 (Kd.R_below (Kd.R_mv (Kd.R_mono (Kd.R_far (p := ⟨gb695, 1, none⟩) (Kd.R_far (p := ⟨gb695, 0, none⟩) (Kd.R_mono HO_687002.out (fun k_ hk => (⟨hk, hk.2⟩ : _ ∧ k_ ≠ gb695))) (fun _ hk => hk.2) (.int .i64 ((rd_T78 x687002_1 (ji11)).f0))) (fun _ hk => hk.2) (.int .i64 ((rd_T78 x687002_1 (ji11)).f1))) (fun _ h_ => h_.1))) hb) (Kd.R_below (Kd.R_mv (Kd.R_mono (Kd.R_far (p := ⟨gb695, 1, none⟩) (Kd.R_far (p := ⟨gb695, 0, none⟩) (Kd.R_types HO693.out BK695.out (by decide)) (fun _ hk => hk.2) (.int .i64 ((rd_T78 x687002_1 (ji11)).f0))) (fun _ hk => hk.2) (.int .i64 ((rd_T78 x687002_1 (ji11)).f1))) (fun _ h_ => h_.1))) hb) (blk_below (g := gb686) (o := .cells #[.int .i64 a0_0, .int .i64 a0_1, .slice (some ad694) x687002_1.length co4] 48 (0, 0)) (fp BK686 rfl) hb) (blk_below (g := gb687) (o := .cells #[.int .i64 x688000_1, .int .i64 x688001_1, .int .i64 x688002_1] 90 (0, 0)) (fp BK687 rfl) hb) (blk_below (g := gb695) (o := .cells #[.int .i64 ((rd_T78 x687002_1 (ji11)).f0), .int .i64 ((rd_T78 x687002_1 (ji11)).f1)] 78 (0, 0)) (fp BK695 rfl) hb) (Kept.below (S := (fun k_ => P0_2_ k_)) (km HK) hb) (bs HB hb) ?_; clear HO_687002 HO693 BK686 BK687 BK695 HK HB; intro HO_687002 HO693 BK686 BK687 BK695 HK HB; (try clear hb); (try clear hb2); (try clear hk); (try clear hi); obtain ⟨hcz89_0, hcz89_1, hcz89_2, hfz89_0, hfz89_1, hfz89_2⟩ := bt3 BK687))
        refine bodyPost_ret (results_ct rfl _ _ gb687 90 #[.int .i64 2, .int .i64 x10_1, .int .i64 x2_1] (0, 0) _ rfl (fp BK687 rfl) Try.underlying90 rfl (by kernel_rfl)) rfl ?_
        exact ⟨_, by first | rfl | (simp [e0_, e1_] <;> rfl) | (simp only [← hji11]; first | rfl | (simp [e0_, e1_] <;> rfl)) | (simp [*, e0_, e1_] <;> rfl), Kd.R_mv (Kd.R_mono (ok' := fun k_ => ((P0_2_ k_ ∨ w.heap.size ≤ k_))) (Kd.R_far (p := ⟨gb687, 2, none⟩) (Kd.R_far (p := ⟨gb687, 1, none⟩) (Kd.R_far (p := ⟨gb687, 0, none⟩) (Kd.R_types HO693.out BK687.out (by decide)) (fun _ hk => hk.2) (.int .i64 2)) (fun _ hk => hk.2) (.int .i64 x10_1)) (fun _ hk => hk.2) (.int .i64 x2_1)) (fun _ hk => hk.1)), (by first | exact (Kd.R_mv (Kd.R_mono (ok' := fun k_ => ((P0_2_ k_ ∨ w.heap.size ≤ k_))) (Kd.R_far (p := ⟨gb687, 2, none⟩) (Kd.R_far (p := ⟨gb687, 1, none⟩) (Kd.R_far (p := ⟨gb687, 0, none⟩) (Kd.R_types HO_687002.out BK687.out (by decide)) (fun _ hk => hk.2) (.int .i64 2)) (fun _ hk => hk.2) (.int .i64 x10_1)) (fun _ hk => hk.2) (.int .i64 x2_1)) (fun _ hk => hk.1.1))) | (simp only [hl687002_1]; exact (Kd.R_mv (Kd.R_mono (ok' := fun k_ => ((P0_2_ k_ ∨ w.heap.size ≤ k_))) (Kd.R_far (p := ⟨gb687, 2, none⟩) (Kd.R_far (p := ⟨gb687, 1, none⟩) (Kd.R_far (p := ⟨gb687, 0, none⟩) (Kd.R_types HO_687002.out BK687.out (by decide)) (fun _ hk => hk.2) (.int .i64 2)) (fun _ hk => hk.2) (.int .i64 x10_1)) (fun _ hk => hk.2) (.int .i64 x2_1)) (fun _ hk => hk.1.1))))), bm HB, km HK⟩
      ·rw [if_neg c13] at H
       exact absurd H (by simp)
     ·rw [if_neg c12] at H
      exact absurd H (by simp)
    ·rw [if_neg c10] at H
     exact absurd H (by simp)
   ·rw [if_neg c9] at H
    have c9b0 : decide (x10_1 < a0_0) = false := decide_eq_false c9
    clear c9
    simp only [Option.some.injEq, Prod.mk.injEq] at H
    obtain ⟨rfl, rfl, rfl, rfl, rfl⟩ := H
    have hnb90 := NB686_687.out
    have hnc90 := NB687_686.out
    obtain ⟨hcz91_0, hcz91_1, hcz91_2, hfz91_0, hfz91_1, hfz91_2⟩ := bt3 BK686
    obtain ⟨hcz92_0, hcz92_1, hcz92_2, hfz92_0, hfz92_1, hfz92_2⟩ := bt3 BK687
    go_wp2
    refine bodyPost_ret (results_ct rfl _ _ gb687 90 #[.int .i64 1, .int .i64 a0_0, .int .i64 x2_1] (0, 0) _ rfl (fp BK687 rfl) Try.underlying90 rfl (by kernel_rfl)) rfl ?_
    exact ⟨_, by first | rfl | (simp [e0_, e1_] <;> rfl) | (simp [*, e0_, e1_] <;> rfl), Kd.R_mv (Kd.R_mono (ok' := fun k_ => ((P0_2_ k_ ∨ w.heap.size ≤ k_))) (Kd.R_far (p := ⟨gb687, 2, none⟩) (Kd.R_far (p := ⟨gb687, 1, none⟩) (Kd.R_far (p := ⟨gb687, 0, none⟩) (Kd.R_types HO_8.out BK687.out (by decide)) (fun _ hk => hk.2) (.int .i64 1)) (fun _ hk => hk.2) (.int .i64 a0_0)) (fun _ hk => hk.2) (.int .i64 x2_1)) (fun _ hk => hk.1)), (by first | exact (Kd.R_mv (Kd.R_mono (ok' := fun k_ => ((P0_2_ k_ ∨ w.heap.size ≤ k_))) (Kd.R_far (p := ⟨gb687, 2, none⟩) (Kd.R_far (p := ⟨gb687, 1, none⟩) (Kd.R_far (p := ⟨gb687, 0, none⟩) (Kd.R_types HO_687002.out BK687.out (by decide)) (fun _ hk => hk.2) (.int .i64 1)) (fun _ hk => hk.2) (.int .i64 a0_0)) (fun _ hk => hk.2) (.int .i64 x2_1)) (fun _ hk => hk.1))) | (simp only [hl687002_1]; exact (Kd.R_mv (Kd.R_mono (ok' := fun k_ => ((P0_2_ k_ ∨ w.heap.size ≤ k_))) (Kd.R_far (p := ⟨gb687, 2, none⟩) (Kd.R_far (p := ⟨gb687, 1, none⟩) (Kd.R_far (p := ⟨gb687, 0, none⟩) (Kd.R_types HO_687002.out BK687.out (by decide)) (fun _ hk => hk.2) (.int .i64 1)) (fun _ hk => hk.2) (.int .i64 a0_0)) (fun _ hk => hk.2) (.int .i64 x2_1)) (fun _ hk => hk.1))))), bm HB, km HK⟩

/-! ### impl_isGeared: function 136 -/
def impl_isGeared.f (a0_0 : Int) (a0_1 : Int) : Option (Bool) := if a0_0 = 6 then (some true) else (some (a0_0 == 7))
set_option maxHeartbeats 8000000 in
set_option maxRecDepth 100000 in
theorem impl_isGeared.calls (a0_0 : Int) (a0_1 : Int) (r : Bool) (w : World) (h : impl_isGeared.f a0_0 a0_1 = some r) :
  Calls Try.prog 136 #[.agg #[.int .i64 a0_0, .int .i64 a0_1]] w fun e w' => e = .returned (.bool r) ∧ Below w.heap.size w w' := by
 have HB := Aside0.mk (Below.refl w.heap.size w)
 have H : (if a0_0 = 6 then (some true) else (some (a0_0 == 7))) = some r := h
 clear h
 by_cases c2 : a0_0 = 6
 ·rw [if_pos c2] at H
  have c2b0 : (a0_0 == 6) = true := beq_iff_eq.mpr c2
  have c2b1 : (a0_0 != 6) = false := bne_eq_false_iff_eq.mpr c2
  clear c2
  obtain rfl := Option.some.inj H
  go_enter Try.func136, Try.ntmps136
  go_wp2_with (first | ((with_reducible refine gate_dst (N := 1) rfl ?_); refine box_event ?hg (N := 1) ?hd (cs := #[.int .i64 a0_0, .int .i64 a0_1]) (t := 78) ?hr ?_; (case hd => rfl); (case hg => rfl); (case hr => first | (go_simp; done) | (go_simp; rfl)); intro gb700 hg w3 hbox hb; refine ev4 (bs HB hb) (hbox) (gle hg HB) (gle hg HB) ?_; clear HB; intro HB BK700 GW700 GE700; clear hb hbox hg; obtain ⟨hcz4_0, hcz4_1, hfz4_0, hfz4_1⟩ := bt2 BK700))
  go_ret
  exact ⟨by first | rfl | (simp [e0_, e1_] <;> rfl) | (simp [*, e0_, e1_] <;> rfl), bm HB⟩
 ·rw [if_neg c2] at H
  have c2b0 : (a0_0 == 6) = false := beq_eq_false_iff_ne.mpr c2
  have c2b1 : (a0_0 != 6) = true := bne_iff_ne.mpr c2
  obtain rfl := Option.some.inj H
  go_enter Try.func136, Try.ntmps136
  go_wp2_with (first | ((with_reducible refine gate_dst (N := 1) rfl ?_); refine box_event ?hg (N := 1) ?hd (cs := #[.int .i64 a0_0, .int .i64 a0_1]) (t := 78) ?hr ?_; (case hd => rfl); (case hg => rfl); (case hr => first | (go_simp; done) | (go_simp; rfl)); intro gb700 hg w5 hbox hb; refine ev4 (bs HB hb) (hbox) (gle hg HB) (gle hg HB) ?_; clear HB; intro HB BK700 GW700 GE700; clear hb hbox hg; obtain ⟨hcz6_0, hcz6_1, hfz6_0, hfz6_1⟩ := bt2 BK700))
  go_ret
  exact ⟨by first | rfl | (simp [e0_, e1_] <;> rfl) | (simp [*, e0_, e1_] <;> rfl), bm HB⟩

/-! ### impl_besideOf: function 137 -/
mutual
def impl_besideOf.j0 : Nat → Int → List Int → Int → Int → Int → Int → List (S78) → Option (List Int)
 | 0, _, _, _, _, _, _, _ => none
 | k + 1, x1, x5, x6, x7, x702000, x702001, x702002 => if x7 > 0 then (if x5.length < 17592186044416 then (impl_besideOf.j1 k x1 (x5 ++ [wrap64 (x1 - 1)]) x6 x7 x702000 x702001 x702002) else (none)) else (impl_besideOf.j1 k x1 x5 x6 x7 x702000 x702001 x702002)
def impl_besideOf.j1 : Nat → Int → List Int → Int → Int → Int → Int → List (S78) → Option (List Int)
 | 0, _, _, _, _, _, _, _ => none
 | k + 1, x1, x5, x6, x7, x702000, x702001, x702002 => if (wrap64 (x7 + 1)) < x702001 then (if x5.length < 17592186044416 then ((some (x5 ++ [wrap64 (x1 + 1)] : List Int)).bind fun y711 => (if (wrap64 (x6 + 1)) < x702000 then (if y711.length < 17592186044416 then (some (y711 ++ [wrap64 (x1 + x702001)])) else (none)) else (some y711))) else (none)) else (if (wrap64 (x6 + 1)) < x702000 then (if x5.length < 17592186044416 then (some (x5 ++ [wrap64 (x1 + x702001)])) else (none)) else (some x5))
end
def impl_besideOf.f (k : Nat) (a0_0 : Int) (a0_1 : Int) (l0_2 : List (S78)) (a1 : Int) : Option (List Int) := (some (([] : List Int) : List Int)).bind fun y702 => (if a0_1 = 0 then (none) else (if (wrap64 (Int.tdiv a1 a0_1)) > 0 then (if y702.length < 17592186044416 then (impl_besideOf.j0 k a1 (y702 ++ [wrap64 (a1 - a0_1)]) (wrap64 (Int.tdiv a1 a0_1)) (Int.tmod a1 a0_1) a0_0 a0_1 l0_2) else (none)) else (impl_besideOf.j0 k a1 y702 (wrap64 (Int.tdiv a1 a0_1)) (Int.tmod a1 a0_1) a0_0 a0_1 l0_2)))
set_option maxHeartbeats 8000000 in
set_option maxRecDepth 100000 in
theorem impl_besideOf.calls (k : Nat) (a0_0 : Int) (a0_1 : Int) (A0_2 : Option Addr) (c0_2 : Nat) (l0_2 : List (S78)) (a1 : Int) (r : List Int) (w : World) (hr0_2 : Kd.C k78 w A0_2 l0_2.length l0_2) (hc0_2 : l0_2.length ≤ c0_2) (h : impl_besideOf.f k a0_0 a0_1 l0_2 a1 = some r) :
  Calls Try.prog 137 #[.agg #[.int .i64 a0_0, .int .i64 a0_1, .slice A0_2 l0_2.length c0_2], .int .i64 a1] w fun e w' => ∃ v0_ : Value, e = .returned (v0_) ∧ Kd.R (Kd.int .i64) 3 w' w.heap.size (fun _ => True) v0_ r ∧ Below w.heap.size w w' := by
 have HR0_2 := Aside0.mk hr0_2
 have HC0_2 := Aside0.mk hc0_2
 clear hr0_2 hc0_2
 have HB := Aside0.mk (Below.refl w.heap.size w)
 have H : ((some (([] : List Int) : List Int)).bind fun y702 => (if a0_1 = 0 then (none) else (if (wrap64 (Int.tdiv a1 a0_1)) > 0 then (if y702.length < 17592186044416 then (impl_besideOf.j0 k a1 (y702 ++ [wrap64 (a1 - a0_1)]) (wrap64 (Int.tdiv a1 a0_1)) (Int.tmod a1 a0_1) a0_0 a0_1 l0_2) else (none)) else (impl_besideOf.j0 k a1 y702 (wrap64 (Int.tdiv a1 a0_1)) (Int.tmod a1 a0_1) a0_0 a0_1 l0_2)))) = some r := h
 clear h
 obtain ⟨y702, hy702⟩ : ∃ y_ : List Int, y_ = (([] : List Int)) := ⟨_, rfl⟩
 replace H : (if a0_1 = 0 then (none) else (if (wrap64 (Int.tdiv a1 a0_1)) > 0 then (if y702.length < 17592186044416 then (impl_besideOf.j0 k a1 (y702 ++ [wrap64 (a1 - a0_1)]) (wrap64 (Int.tdiv a1 a0_1)) (Int.tmod a1 a0_1) a0_0 a0_1 l0_2) else (none)) else (impl_besideOf.j0 k a1 y702 (wrap64 (Int.tdiv a1 a0_1)) (Int.tmod a1 a0_1) a0_0 a0_1 l0_2))) = some r := by first | (rw [hy702]; with_reducible exact H) | (have H2_ := (Option.bind_some _ _).symm.trans H; rw [hy702]; with_reducible exact H2_) | (have H2_ := (Option.bind_some _ _).symm.trans H; with_reducible exact H2_) | with_reducible exact H | (rw [hy702]; exact H) | exact H
 have Ny702 := Aside0.mk hy702
 clear hy702
 by_cases c3 : a0_1 = 0
 ·rw [if_pos c3] at H
  exact absurd H (by simp)
 ·rw [if_neg c3] at H
  have c3b0 : (a0_1 == 0) = false := beq_eq_false_iff_ne.mpr c3
  have c3b1 : (a0_1 != 0) = true := bne_iff_ne.mpr c3
  have HC4 := Aside0.mk H
  clear H
  go_enter Try.func137, Try.ntmps137
  go_upto_if 18 with (first | ((with_reducible refine gate_dst (N := 2) rfl ?_); refine box_event ?hg (N := 2) ?hd (cs := #[.int .i64 a0_0, .int .i64 a0_1, .slice A0_2 l0_2.length c0_2]) (t := 48) ?hr ?_; (case hd => rfl); (case hg => rfl); (case hr => first | (go_simp; done) | (go_simp; rfl)); intro gb701 hg w5 hbox hb; refine ev4 (bs HB hb) (hbox) (gle hg HB) (gle hg HB) ?_; clear HB; intro HB BK701 GW701 GE701; clear hb hbox hg) | ((with_reducible refine gate_dst (N := 8) rfl ?_); refine Kd.R_lit (Kd.int .i64) _ 3 ?hg (N := 8) ?hd (xs := ([] : List Int)) (inner := []) (ok := fun _ => True) (okp := fun _ => True) ?hr ?hp (fun _ hk => hk) trivial (Below.refl _ _) (Nat.le_refl _) (by simp) ?_; (case hd => rfl); (case hg => rfl); (case hr => first | (go_simp; done) | (go_simp; rfl)); (case hp => exact (Reps.none _ _)); intro v703 w6 ho7 hb hg_ hnew_; clear hg_ hnew_; (first | rw [← Ny702.out] at ho7 | (simp only [Int.reduceToNat] at ho7; rw [← Ny702.out] at ho7)); refine ev3 (Kd.R_lower ho7 (below_size (bm HB))) (kb BK701 hb) (bs HB hb) ?_; clear BK701 HB; intro HO704 BK701 HB; clear hb ho7; obtain ⟨hcz8_0, hcz8_1, hcz8_2, hfz8_0, hfz8_1, hfz8_2⟩ := bt3 BK701))
  repeat (go_quiet (first | ((with_reducible refine gate_dst (N := 2) rfl ?_); refine box_event ?hg (N := 2) ?hd (cs := #[.int .i64 a0_0, .int .i64 a0_1, .slice A0_2 l0_2.length c0_2]) (t := 48) ?hr ?_; (case hd => rfl); (case hg => rfl); (case hr => first | (go_simp; done) | (go_simp; rfl)); intro gb701 hg w5 hbox hb; refine ev4 (bs HB hb) (hbox) (gle hg HB) (gle hg HB) ?_; clear HB; intro HB BK701 GW701 GE701; clear hb hbox hg) | ((with_reducible refine gate_dst (N := 8) rfl ?_); refine Kd.R_lit (Kd.int .i64) _ 3 ?hg (N := 8) ?hd (xs := ([] : List Int)) (inner := []) (ok := fun _ => True) (okp := fun _ => True) ?hr ?hp (fun _ hk => hk) trivial (Below.refl _ _) (Nat.le_refl _) (by simp) ?_; (case hd => rfl); (case hg => rfl); (case hr => first | (go_simp; done) | (go_simp; rfl)); (case hp => exact (Reps.none _ _)); intro v703 w6 ho7 hb hg_ hnew_; clear hg_ hnew_; (first | rw [← Ny702.out] at ho7 | (simp only [Int.reduceToNat] at ho7; rw [← Ny702.out] at ho7)); refine ev3 (Kd.R_lower ho7 (below_size (bm HB))) (kb BK701 hb) (bs HB hb) ?_; clear BK701 HB; intro HO704 BK701 HB; clear hb ho7; obtain ⟨hcz8_0, hcz8_1, hcz8_2, hfz8_0, hfz8_1, hfz8_2⟩ := bt3 BK701)); go_upto_if 18 with (first | ((with_reducible refine gate_dst (N := 2) rfl ?_); refine box_event ?hg (N := 2) ?hd (cs := #[.int .i64 a0_0, .int .i64 a0_1, .slice A0_2 l0_2.length c0_2]) (t := 48) ?hr ?_; (case hd => rfl); (case hg => rfl); (case hr => first | (go_simp; done) | (go_simp; rfl)); intro gb701 hg w5 hbox hb; refine ev4 (bs HB hb) (hbox) (gle hg HB) (gle hg HB) ?_; clear HB; intro HB BK701 GW701 GE701; clear hb hbox hg) | ((with_reducible refine gate_dst (N := 8) rfl ?_); refine Kd.R_lit (Kd.int .i64) _ 3 ?hg (N := 8) ?hd (xs := ([] : List Int)) (inner := []) (ok := fun _ => True) (okp := fun _ => True) ?hr ?hp (fun _ hk => hk) trivial (Below.refl _ _) (Nat.le_refl _) (by simp) ?_; (case hd => rfl); (case hg => rfl); (case hr => first | (go_simp; done) | (go_simp; rfl)); (case hp => exact (Reps.none _ _)); intro v703 w6 ho7 hb hg_ hnew_; clear hg_ hnew_; (first | rw [← Ny702.out] at ho7 | (simp only [Int.reduceToNat] at ho7; rw [← Ny702.out] at ho7)); refine ev3 (Kd.R_lower ho7 (below_size (bm HB))) (kb BK701 hb) (bs HB hb) ?_; clear BK701 HB; intro HO704 BK701 HB; clear hb ho7; obtain ⟨hcz8_0, hcz8_1, hcz8_2, hfz8_0, hfz8_1, hfz8_2⟩ := bt3 BK701)))
  (try simp only [Act.put, za_, zb_, zc_])
  go_cut [5] (fun v5 wc => ∃ (kq : Nat) (x5_3 : List Int), Aside0 (impl_besideOf.j0 kq a1 x5_3 (wrap64 (Int.tdiv a1 a0_1)) (Int.tmod a1 a0_1) a0_0 a0_1 l0_2 = some r) ∧ Aside0 (kq ≤ k) ∧ Aside0 (Kd.R (Kd.int .i64) 3 wc w.heap.size (fun _ => True) v5 x5_3) ∧ Aside0 (wc.heap[gb701]? = some (.cells #[.int .i64 a0_0, .int .i64 a0_1, (.slice A0_2 l0_2.length c0_2)] 48 (0, 0))) ∧ Aside0 (Below w.heap.size w wc))
  case first =>
   have H := HC4.out
   clear HC4
   by_cases c9 : (wrap64 (Int.tdiv a1 a0_1)) > 0
   ·rw [if_pos c9] at H
    have c9b0 : decide (0 < (wrap64 (Int.tdiv a1 a0_1))) = true := decide_eq_true c9
    clear c9
    (first | rw [c9b0] | (simp only [i64_w, i32_w]; rw [c9b0]) | skip)
    by_cases c10 : y702.length < 17592186044416
    ·rw [if_pos c10] at H
     have LMc10 := Aside0.mk c10
     clear c10
     obtain ⟨y705, hy705⟩ : ∃ y_ : List Int, y_ = (y702 ++ [wrap64 (a1 - a0_1)]) := ⟨_, rfl⟩
     replace H : (impl_besideOf.j0 k a1 y705 (wrap64 (Int.tdiv a1 a0_1)) (Int.tmod a1 a0_1) a0_0 a0_1 l0_2) = some r := by first | (rw [hy705]; with_reducible exact H) | (have H2_ := (Option.bind_some _ _).symm.trans H; rw [hy705]; with_reducible exact H2_) | (have H2_ := (Option.bind_some _ _).symm.trans H; with_reducible exact H2_) | with_reducible exact H | (rw [hy705]; exact H) | exact H
     have Ny705 := Aside0.mk hy705
     clear hy705
     have H' := Aside0.mk H
     clear H
     obtain ⟨hcz11_0, hcz11_1, hcz11_2, hfz11_0, hfz11_1, hfz11_2⟩ := bt3 BK701
     go_wp2_with (first | ((with_reducible refine gate_builtin (b := .append) (xs := #[.tmp 19, .tmp 24]) rfl ?_); at_builtin; refine Kd.R_append (Kd.int .i64) (w0 := w) w.heap.size rfl (.tmp 19) (.tmp 24) 22 3 (.int .i64 0) 8 rfl Try.underlying22 info3 rfl (by decide) (by omega) v703 y702 (wrap64 (a1 - a0_1)) [.int .i64 (wrap64 (a1 - a0_1))] (fun _ => True) (fun _ => False) rfl rfl ?aP (fun _ hk => hk.elim) ?aF ?aO ?aB ?aS ?aL ?_; (case aP => exact rfl); (case aB => exact (bm HB)); (case aF => exact (fun _ _ => trivial)); (case aO => exact (Kd.R_mv HO704.out)); (case aS => exact (below_size (bm HB))); (case aL => have := LMc10.out; omega); intro v706 w12 ho hb hg hat; rw [← Ny705.out] at ho; refine ev3 (blk_grown (km_ BK701) hg (Kd.R_ne HO704.out BK701.out (by decide))) (hb) (ho) ?_; clear BK701 HB HO704; intro BK701 HB HO707; clear ho hb hg hat))
     repeat (go_quiet (first | ((with_reducible refine gate_builtin (b := .append) (xs := #[.tmp 19, .tmp 24]) rfl ?_); at_builtin; refine Kd.R_append (Kd.int .i64) (w0 := w) w.heap.size rfl (.tmp 19) (.tmp 24) 22 3 (.int .i64 0) 8 rfl Try.underlying22 info3 rfl (by decide) (by omega) v703 y702 (wrap64 (a1 - a0_1)) [.int .i64 (wrap64 (a1 - a0_1))] (fun _ => True) (fun _ => False) rfl rfl ?aP (fun _ hk => hk.elim) ?aF ?aO ?aB ?aS ?aL ?_; (case aP => exact rfl); (case aB => exact (bm HB)); (case aF => exact (fun _ _ => trivial)); (case aO => exact (Kd.R_mv HO704.out)); (case aS => exact (below_size (bm HB))); (case aL => have := LMc10.out; omega); intro v706 w12 ho hb hg hat; rw [← Ny705.out] at ho; refine ev3 (blk_grown (km_ BK701) hg (Kd.R_ne HO704.out BK701.out (by decide))) (hb) (ho) ?_; clear BK701 HB HO704; intro BK701 HB HO707; clear ho hb hg hat)); try go_wp2_with (first | ((with_reducible refine gate_builtin (b := .append) (xs := #[.tmp 19, .tmp 24]) rfl ?_); at_builtin; refine Kd.R_append (Kd.int .i64) (w0 := w) w.heap.size rfl (.tmp 19) (.tmp 24) 22 3 (.int .i64 0) 8 rfl Try.underlying22 info3 rfl (by decide) (by omega) v703 y702 (wrap64 (a1 - a0_1)) [.int .i64 (wrap64 (a1 - a0_1))] (fun _ => True) (fun _ => False) rfl rfl ?aP (fun _ hk => hk.elim) ?aF ?aO ?aB ?aS ?aL ?_; (case aP => exact rfl); (case aB => exact (bm HB)); (case aF => exact (fun _ _ => trivial)); (case aO => exact (Kd.R_mv HO704.out)); (case aS => exact (below_size (bm HB))); (case aL => have := LMc10.out; omega); intro v706 w12 ho hb hg hat; rw [← Ny705.out] at ho; refine ev3 (blk_grown (km_ BK701) hg (Kd.R_ne HO704.out BK701.out (by decide))) (hb) (ho) ?_; clear BK701 HB HO704; intro BK701 HB HO707; clear ho hb hg hat)))
     go_meet
     case rel => exact ⟨_, (y705), H', ⟨by first | omega | exact Nat.le_refl _⟩, ⟨Kd.R_mv HO707.out⟩, ⟨km_ BK701⟩, ⟨bm HB⟩⟩
    ·rw [if_neg c10] at H
     exact absurd H (by simp)
   ·rw [if_neg c9] at H
    have c9b0 : decide (0 < (wrap64 (Int.tdiv a1 a0_1))) = false := decide_eq_false c9
    clear c9
    (first | rw [c9b0] | (simp only [i64_w, i32_w]; rw [c9b0]) | skip)
    have H' := Aside0.mk H
    clear H
    go_wp2
    repeat (go_quiet (fail); try go_wp2)
    go_meet
    case rel => exact ⟨_, (y702), H', ⟨by first | omega | exact Nat.le_refl _⟩, ⟨Kd.R_mv HO704.out⟩, ⟨km_ BK701⟩, ⟨bm HB⟩⟩
  case rest =>
   clear HC4
   try clear c1
   try clear c3
   try clear c3b0
   try clear c3b1
   try clear p6
   try clear hcz8_0
   try clear hcz8_1
   try clear hcz8_2
   try clear hfz8_0
   try clear hfz8_1
   try clear hfz8_2
   obtain ⟨kq, x5_3, HA, HJ3, HO_5, BK701, HB⟩ := hcut
   cases kq with
   | zero => exact absurd HA.out (by simp [impl_besideOf.j0])
   | succ kj3 =>
    have H := HA.out
    clear HA
    simp only [impl_besideOf.j0] at H
    have HC13 := Aside0.mk H
    clear H
    go_upto_if 27 with (fail)
    repeat (go_quiet (fail); go_upto_if 27 with (fail))
    go_cut [5] (fun v5 wc => ∃ (kq : Nat) (x5_12 : List Int), Aside0 (impl_besideOf.j1 kq a1 x5_12 (wrap64 (Int.tdiv a1 a0_1)) (Int.tmod a1 a0_1) a0_0 a0_1 l0_2 = some r) ∧ Aside0 (kq ≤ kj3) ∧ Aside0 (Kd.R (Kd.int .i64) 3 wc w.heap.size (fun _ => True) v5 x5_12) ∧ Aside0 (wc.heap[gb701]? = some (.cells #[.int .i64 a0_0, .int .i64 a0_1, (.slice A0_2 l0_2.length c0_2)] 48 (0, 0))) ∧ Aside0 (Below w.heap.size w wc))
    case first =>
     have H := HC13.out
     clear HC13
     by_cases c14 : (Int.tmod a1 a0_1) > 0
     ·rw [if_pos c14] at H
      have c14b0 : decide (0 < (Int.tmod a1 a0_1)) = true := decide_eq_true c14
      clear c14
      (first | rw [c14b0] | (simp only [i64_w, i32_w]; rw [c14b0]) | skip)
      by_cases c15 : x5_3.length < 17592186044416
      ·rw [if_pos c15] at H
       have LMc15 := Aside0.mk c15
       clear c15
       obtain ⟨y708, hy708⟩ : ∃ y_ : List Int, y_ = (x5_3 ++ [wrap64 (a1 - 1)]) := ⟨_, rfl⟩
       replace H : (impl_besideOf.j1 kj3 a1 y708 (wrap64 (Int.tdiv a1 a0_1)) (Int.tmod a1 a0_1) a0_0 a0_1 l0_2) = some r := by first | (rw [hy708]; with_reducible exact H) | (have H2_ := (Option.bind_some _ _).symm.trans H; rw [hy708]; with_reducible exact H2_) | (have H2_ := (Option.bind_some _ _).symm.trans H; with_reducible exact H2_) | with_reducible exact H | (rw [hy708]; exact H) | exact H
       have Ny708 := Aside0.mk hy708
       clear hy708
       have H' := Aside0.mk H
       clear H
       go_wp2_with (first | ((with_reducible refine gate_builtin (b := .append) (xs := #[.tmp 28, .tmp 31]) rfl ?_); at_builtin; refine Kd.R_append (Kd.int .i64) (w0 := w) w.heap.size rfl (.tmp 28) (.tmp 31) 22 3 (.int .i64 0) 8 rfl Try.underlying22 info3 rfl (by decide) (by omega) u5 x5_3 (wrap64 (a1 - 1)) [.int .i64 (wrap64 (a1 - 1))] (fun _ => True) (fun _ => False) rfl rfl ?aP (fun _ hk => hk.elim) ?aF ?aO ?aB ?aS ?aL ?_; (case aP => exact rfl); (case aB => exact (bm HB)); (case aF => exact (fun _ _ => trivial)); (case aO => exact (Kd.R_mv HO_5.out)); (case aS => exact (below_size (bm HB))); (case aL => have := LMc15.out; omega); intro v709 w16 ho hb hg hat; rw [← Ny708.out] at ho; refine ev3 (blk_grown (km_ BK701) hg (Kd.R_ne HO_5.out BK701.out (by decide))) (hb) (ho) ?_; clear BK701 HB HO_5; intro BK701 HB HO710; clear ho hb hg hat))
       repeat (go_quiet (first | ((with_reducible refine gate_builtin (b := .append) (xs := #[.tmp 28, .tmp 31]) rfl ?_); at_builtin; refine Kd.R_append (Kd.int .i64) (w0 := w) w.heap.size rfl (.tmp 28) (.tmp 31) 22 3 (.int .i64 0) 8 rfl Try.underlying22 info3 rfl (by decide) (by omega) u5 x5_3 (wrap64 (a1 - 1)) [.int .i64 (wrap64 (a1 - 1))] (fun _ => True) (fun _ => False) rfl rfl ?aP (fun _ hk => hk.elim) ?aF ?aO ?aB ?aS ?aL ?_; (case aP => exact rfl); (case aB => exact (bm HB)); (case aF => exact (fun _ _ => trivial)); (case aO => exact (Kd.R_mv HO_5.out)); (case aS => exact (below_size (bm HB))); (case aL => have := LMc15.out; omega); intro v709 w16 ho hb hg hat; rw [← Ny708.out] at ho; refine ev3 (blk_grown (km_ BK701) hg (Kd.R_ne HO_5.out BK701.out (by decide))) (hb) (ho) ?_; clear BK701 HB HO_5; intro BK701 HB HO710; clear ho hb hg hat)); try go_wp2_with (first | ((with_reducible refine gate_builtin (b := .append) (xs := #[.tmp 28, .tmp 31]) rfl ?_); at_builtin; refine Kd.R_append (Kd.int .i64) (w0 := w) w.heap.size rfl (.tmp 28) (.tmp 31) 22 3 (.int .i64 0) 8 rfl Try.underlying22 info3 rfl (by decide) (by omega) u5 x5_3 (wrap64 (a1 - 1)) [.int .i64 (wrap64 (a1 - 1))] (fun _ => True) (fun _ => False) rfl rfl ?aP (fun _ hk => hk.elim) ?aF ?aO ?aB ?aS ?aL ?_; (case aP => exact rfl); (case aB => exact (bm HB)); (case aF => exact (fun _ _ => trivial)); (case aO => exact (Kd.R_mv HO_5.out)); (case aS => exact (below_size (bm HB))); (case aL => have := LMc15.out; omega); intro v709 w16 ho hb hg hat; rw [← Ny708.out] at ho; refine ev3 (blk_grown (km_ BK701) hg (Kd.R_ne HO_5.out BK701.out (by decide))) (hb) (ho) ?_; clear BK701 HB HO_5; intro BK701 HB HO710; clear ho hb hg hat)))
       go_meet
       case rel => exact ⟨_, (y708), H', ⟨by have := HJ3.out; first | omega | exact Nat.le_refl _⟩, ⟨Kd.R_mv HO710.out⟩, ⟨km_ BK701⟩, ⟨bm HB⟩⟩
      ·rw [if_neg c15] at H
       exact absurd H (by simp)
     ·rw [if_neg c14] at H
      have c14b0 : decide (0 < (Int.tmod a1 a0_1)) = false := decide_eq_false c14
      clear c14
      (first | rw [c14b0] | (simp only [i64_w, i32_w]; rw [c14b0]) | skip)
      have H' := Aside0.mk H
      clear H
      go_wp2
      repeat (go_quiet (fail); try go_wp2)
      go_meet
      case rel => exact ⟨_, (x5_3), H', ⟨by have := HJ3.out; first | omega | exact Nat.le_refl _⟩, ⟨Kd.R_mv HO_5.out⟩, ⟨km_ BK701⟩, ⟨bm HB⟩⟩
    case rest =>
     clear HC13
     try clear c1
     try clear c3
     try clear c3b0
     try clear c3b1
     try clear p6
     try clear c13
     try clear hcz8_0
     try clear hcz8_1
     try clear hcz8_2
     try clear hfz8_0
     try clear hfz8_1
     try clear hfz8_2
     try clear p6
     obtain ⟨kq, x5_12, HA, HJ12, HO_5, BK701, HB⟩ := hcut
     cases kq with
     | zero => exact absurd HA.out (by simp [impl_besideOf.j1])
     | succ kj12 =>
      have H := HA.out
      clear HA
      simp only [impl_besideOf.j1] at H
      by_cases c17 : (wrap64 ((Int.tmod a1 a0_1) + 1)) < a0_1
      ·rw [if_pos c17] at H
       have c17b0 : decide ((wrap64 ((Int.tmod a1 a0_1) + 1)) < a0_1) = true := decide_eq_true c17
       clear c17
       by_cases c18 : x5_12.length < 17592186044416
       ·rw [if_pos c18] at H
        have LMc18 := Aside0.mk c18
        clear c18
        obtain ⟨y711, hy711⟩ : ∃ y_ : List Int, y_ = (x5_12 ++ [wrap64 (a1 + 1)]) := ⟨_, rfl⟩
        replace H : (if (wrap64 ((wrap64 (Int.tdiv a1 a0_1)) + 1)) < a0_0 then (if y711.length < 17592186044416 then (some (y711 ++ [wrap64 (a1 + a0_1)])) else (none)) else (some y711)) = some r := by first | (rw [hy711]; with_reducible exact H) | (have H2_ := (Option.bind_some _ _).symm.trans H; rw [hy711]; with_reducible exact H2_) | (have H2_ := (Option.bind_some _ _).symm.trans H; with_reducible exact H2_) | with_reducible exact H | (rw [hy711]; exact H) | exact H
        have Ny711 := Aside0.mk hy711
        clear hy711
        by_cases c19 : (wrap64 ((wrap64 (Int.tdiv a1 a0_1)) + 1)) < a0_0
        ·rw [if_pos c19] at H
         have c19b0 : decide ((wrap64 ((wrap64 (Int.tdiv a1 a0_1)) + 1)) < a0_0) = true := decide_eq_true c19
         clear c19
         by_cases c20 : y711.length < 17592186044416
         ·rw [if_pos c20] at H
          have LMc20 := Aside0.mk c20
          clear c20
          obtain ⟨y714, hy714⟩ : ∃ y_ : List Int, y_ = (y711 ++ [wrap64 (a1 + a0_1)]) := ⟨_, rfl⟩
          replace H : (some y714) = some r := by first | (rw [hy714]; with_reducible exact H) | (have H2_ := (Option.bind_some _ _).symm.trans H; rw [hy714]; with_reducible exact H2_) | (have H2_ := (Option.bind_some _ _).symm.trans H; with_reducible exact H2_) | with_reducible exact H | (rw [hy714]; exact H) | exact H
          have Ny714 := Aside0.mk hy714
          clear hy714
          obtain rfl := Option.some.inj H
          obtain ⟨hcz21_0, hcz21_1, hcz21_2, hfz21_0, hfz21_1, hfz21_2⟩ := bt3 BK701
          go_wp2_with (first | ((with_reducible refine gate_builtin (b := .append) (xs := #[.tmp 38, .tmp 41]) rfl ?_); at_builtin; refine Kd.R_append (Kd.int .i64) (w0 := w) w.heap.size rfl (.tmp 38) (.tmp 41) 22 3 (.int .i64 0) 8 rfl Try.underlying22 info3 rfl (by decide) (by omega) u5 x5_12 (wrap64 (a1 + 1)) [.int .i64 (wrap64 (a1 + 1))] (fun _ => True) (fun _ => False) rfl rfl ?aP (fun _ hk => hk.elim) ?aF ?aO ?aB ?aS ?aL ?_; (case aP => exact rfl); (case aB => exact (bm HB)); (case aF => exact (fun _ _ => trivial)); (case aO => exact (Kd.R_mv HO_5.out)); (case aS => exact (below_size (bm HB))); (case aL => have := LMc18.out; omega); intro v712 w22 ho hb hg hat; rw [← Ny711.out] at ho; refine ev3 (blk_grown (km_ BK701) hg (Kd.R_ne HO_5.out BK701.out (by decide))) (hb) (ho) ?_; clear BK701 HB HO_5; intro BK701 HB HO713; clear ho hb hg hat; obtain ⟨hcz23_0, hcz23_1, hcz23_2, hfz23_0, hfz23_1, hfz23_2⟩ := bt3 BK701) | ((with_reducible refine gate_builtin (b := .append) (xs := #[.tmp 48, .tmp 53]) rfl ?_); at_builtin; refine Kd.R_append (Kd.int .i64) (w0 := w) w.heap.size rfl (.tmp 48) (.tmp 53) 22 3 (.int .i64 0) 8 rfl Try.underlying22 info3 rfl (by decide) (by omega) v712 y711 (wrap64 (a1 + a0_1)) [.int .i64 (wrap64 (a1 + a0_1))] (fun _ => True) (fun _ => False) rfl rfl ?aP (fun _ hk => hk.elim) ?aF ?aO ?aB ?aS ?aL ?_; (case aP => exact rfl); (case aB => exact (bm HB)); (case aF => exact (fun _ _ => trivial)); (case aO => exact (Kd.R_mv HO713.out)); (case aS => exact (below_size (bm HB))); (case aL => have := LMc20.out; omega); intro v715 w24 ho hb hg hat; rw [← Ny714.out] at ho; refine ev3 (blk_grown (km_ BK701) hg (Kd.R_ne HO713.out BK701.out (by decide))) (hb) (ho) ?_; clear BK701 HB HO713; intro BK701 HB HO716; clear ho hb hg hat))
          repeat (go_quiet (first | ((with_reducible refine gate_builtin (b := .append) (xs := #[.tmp 38, .tmp 41]) rfl ?_); at_builtin; refine Kd.R_append (Kd.int .i64) (w0 := w) w.heap.size rfl (.tmp 38) (.tmp 41) 22 3 (.int .i64 0) 8 rfl Try.underlying22 info3 rfl (by decide) (by omega) u5 x5_12 (wrap64 (a1 + 1)) [.int .i64 (wrap64 (a1 + 1))] (fun _ => True) (fun _ => False) rfl rfl ?aP (fun _ hk => hk.elim) ?aF ?aO ?aB ?aS ?aL ?_; (case aP => exact rfl); (case aB => exact (bm HB)); (case aF => exact (fun _ _ => trivial)); (case aO => exact (Kd.R_mv HO_5.out)); (case aS => exact (below_size (bm HB))); (case aL => have := LMc18.out; omega); intro v712 w22 ho hb hg hat; rw [← Ny711.out] at ho; refine ev3 (blk_grown (km_ BK701) hg (Kd.R_ne HO_5.out BK701.out (by decide))) (hb) (ho) ?_; clear BK701 HB HO_5; intro BK701 HB HO713; clear ho hb hg hat; obtain ⟨hcz23_0, hcz23_1, hcz23_2, hfz23_0, hfz23_1, hfz23_2⟩ := bt3 BK701) | ((with_reducible refine gate_builtin (b := .append) (xs := #[.tmp 48, .tmp 53]) rfl ?_); at_builtin; refine Kd.R_append (Kd.int .i64) (w0 := w) w.heap.size rfl (.tmp 48) (.tmp 53) 22 3 (.int .i64 0) 8 rfl Try.underlying22 info3 rfl (by decide) (by omega) v712 y711 (wrap64 (a1 + a0_1)) [.int .i64 (wrap64 (a1 + a0_1))] (fun _ => True) (fun _ => False) rfl rfl ?aP (fun _ hk => hk.elim) ?aF ?aO ?aB ?aS ?aL ?_; (case aP => exact rfl); (case aB => exact (bm HB)); (case aF => exact (fun _ _ => trivial)); (case aO => exact (Kd.R_mv HO713.out)); (case aS => exact (below_size (bm HB))); (case aL => have := LMc20.out; omega); intro v715 w24 ho hb hg hat; rw [← Ny714.out] at ho; refine ev3 (blk_grown (km_ BK701) hg (Kd.R_ne HO713.out BK701.out (by decide))) (hb) (ho) ?_; clear BK701 HB HO713; intro BK701 HB HO716; clear ho hb hg hat)); try go_wp2_with (first | ((with_reducible refine gate_builtin (b := .append) (xs := #[.tmp 38, .tmp 41]) rfl ?_); at_builtin; refine Kd.R_append (Kd.int .i64) (w0 := w) w.heap.size rfl (.tmp 38) (.tmp 41) 22 3 (.int .i64 0) 8 rfl Try.underlying22 info3 rfl (by decide) (by omega) u5 x5_12 (wrap64 (a1 + 1)) [.int .i64 (wrap64 (a1 + 1))] (fun _ => True) (fun _ => False) rfl rfl ?aP (fun _ hk => hk.elim) ?aF ?aO ?aB ?aS ?aL ?_; (case aP => exact rfl); (case aB => exact (bm HB)); (case aF => exact (fun _ _ => trivial)); (case aO => exact (Kd.R_mv HO_5.out)); (case aS => exact (below_size (bm HB))); (case aL => have := LMc18.out; omega); intro v712 w22 ho hb hg hat; rw [← Ny711.out] at ho; refine ev3 (blk_grown (km_ BK701) hg (Kd.R_ne HO_5.out BK701.out (by decide))) (hb) (ho) ?_; clear BK701 HB HO_5; intro BK701 HB HO713; clear ho hb hg hat; obtain ⟨hcz23_0, hcz23_1, hcz23_2, hfz23_0, hfz23_1, hfz23_2⟩ := bt3 BK701) | ((with_reducible refine gate_builtin (b := .append) (xs := #[.tmp 48, .tmp 53]) rfl ?_); at_builtin; refine Kd.R_append (Kd.int .i64) (w0 := w) w.heap.size rfl (.tmp 48) (.tmp 53) 22 3 (.int .i64 0) 8 rfl Try.underlying22 info3 rfl (by decide) (by omega) v712 y711 (wrap64 (a1 + a0_1)) [.int .i64 (wrap64 (a1 + a0_1))] (fun _ => True) (fun _ => False) rfl rfl ?aP (fun _ hk => hk.elim) ?aF ?aO ?aB ?aS ?aL ?_; (case aP => exact rfl); (case aB => exact (bm HB)); (case aF => exact (fun _ _ => trivial)); (case aO => exact (Kd.R_mv HO713.out)); (case aS => exact (below_size (bm HB))); (case aL => have := LMc20.out; omega); intro v715 w24 ho hb hg hat; rw [← Ny714.out] at ho; refine ev3 (blk_grown (km_ BK701) hg (Kd.R_ne HO713.out BK701.out (by decide))) (hb) (ho) ?_; clear BK701 HB HO713; intro BK701 HB HO716; clear ho hb hg hat)))
          go_ret
          exact ⟨_, by first | rfl | (simp [e0_, e1_] <;> rfl) | (simp [*, e0_, e1_] <;> rfl), Kd.R_mv HO716.out, bm HB⟩
         ·rw [if_neg c20] at H
          exact absurd H (by simp)
        ·rw [if_neg c19] at H
         have c19b0 : decide ((wrap64 ((wrap64 (Int.tdiv a1 a0_1)) + 1)) < a0_0) = false := decide_eq_false c19
         clear c19
         obtain rfl := Option.some.inj H
         obtain ⟨hcz25_0, hcz25_1, hcz25_2, hfz25_0, hfz25_1, hfz25_2⟩ := bt3 BK701
         go_wp2_with (first | ((with_reducible refine gate_builtin (b := .append) (xs := #[.tmp 38, .tmp 41]) rfl ?_); at_builtin; refine Kd.R_append (Kd.int .i64) (w0 := w) w.heap.size rfl (.tmp 38) (.tmp 41) 22 3 (.int .i64 0) 8 rfl Try.underlying22 info3 rfl (by decide) (by omega) u5 x5_12 (wrap64 (a1 + 1)) [.int .i64 (wrap64 (a1 + 1))] (fun _ => True) (fun _ => False) rfl rfl ?aP (fun _ hk => hk.elim) ?aF ?aO ?aB ?aS ?aL ?_; (case aP => exact rfl); (case aB => exact (bm HB)); (case aF => exact (fun _ _ => trivial)); (case aO => exact (Kd.R_mv HO_5.out)); (case aS => exact (below_size (bm HB))); (case aL => have := LMc18.out; omega); intro v712 w26 ho hb hg hat; rw [← Ny711.out] at ho; refine ev3 (blk_grown (km_ BK701) hg (Kd.R_ne HO_5.out BK701.out (by decide))) (hb) (ho) ?_; clear BK701 HB HO_5; intro BK701 HB HO713; clear ho hb hg hat; obtain ⟨hcz27_0, hcz27_1, hcz27_2, hfz27_0, hfz27_1, hfz27_2⟩ := bt3 BK701))
         repeat (go_quiet (first | ((with_reducible refine gate_builtin (b := .append) (xs := #[.tmp 38, .tmp 41]) rfl ?_); at_builtin; refine Kd.R_append (Kd.int .i64) (w0 := w) w.heap.size rfl (.tmp 38) (.tmp 41) 22 3 (.int .i64 0) 8 rfl Try.underlying22 info3 rfl (by decide) (by omega) u5 x5_12 (wrap64 (a1 + 1)) [.int .i64 (wrap64 (a1 + 1))] (fun _ => True) (fun _ => False) rfl rfl ?aP (fun _ hk => hk.elim) ?aF ?aO ?aB ?aS ?aL ?_; (case aP => exact rfl); (case aB => exact (bm HB)); (case aF => exact (fun _ _ => trivial)); (case aO => exact (Kd.R_mv HO_5.out)); (case aS => exact (below_size (bm HB))); (case aL => have := LMc18.out; omega); intro v712 w26 ho hb hg hat; rw [← Ny711.out] at ho; refine ev3 (blk_grown (km_ BK701) hg (Kd.R_ne HO_5.out BK701.out (by decide))) (hb) (ho) ?_; clear BK701 HB HO_5; intro BK701 HB HO713; clear ho hb hg hat; obtain ⟨hcz27_0, hcz27_1, hcz27_2, hfz27_0, hfz27_1, hfz27_2⟩ := bt3 BK701)); try go_wp2_with (first | ((with_reducible refine gate_builtin (b := .append) (xs := #[.tmp 38, .tmp 41]) rfl ?_); at_builtin; refine Kd.R_append (Kd.int .i64) (w0 := w) w.heap.size rfl (.tmp 38) (.tmp 41) 22 3 (.int .i64 0) 8 rfl Try.underlying22 info3 rfl (by decide) (by omega) u5 x5_12 (wrap64 (a1 + 1)) [.int .i64 (wrap64 (a1 + 1))] (fun _ => True) (fun _ => False) rfl rfl ?aP (fun _ hk => hk.elim) ?aF ?aO ?aB ?aS ?aL ?_; (case aP => exact rfl); (case aB => exact (bm HB)); (case aF => exact (fun _ _ => trivial)); (case aO => exact (Kd.R_mv HO_5.out)); (case aS => exact (below_size (bm HB))); (case aL => have := LMc18.out; omega); intro v712 w26 ho hb hg hat; rw [← Ny711.out] at ho; refine ev3 (blk_grown (km_ BK701) hg (Kd.R_ne HO_5.out BK701.out (by decide))) (hb) (ho) ?_; clear BK701 HB HO_5; intro BK701 HB HO713; clear ho hb hg hat; obtain ⟨hcz27_0, hcz27_1, hcz27_2, hfz27_0, hfz27_1, hfz27_2⟩ := bt3 BK701)))
         go_ret
         exact ⟨_, by first | rfl | (simp [e0_, e1_] <;> rfl) | (simp [*, e0_, e1_] <;> rfl), Kd.R_mv HO713.out, bm HB⟩
       ·rw [if_neg c18] at H
        exact absurd H (by simp)
      ·rw [if_neg c17] at H
       have c17b0 : decide ((wrap64 ((Int.tmod a1 a0_1) + 1)) < a0_1) = false := decide_eq_false c17
       clear c17
       by_cases c28 : (wrap64 ((wrap64 (Int.tdiv a1 a0_1)) + 1)) < a0_0
       ·rw [if_pos c28] at H
        have c28b0 : decide ((wrap64 ((wrap64 (Int.tdiv a1 a0_1)) + 1)) < a0_0) = true := decide_eq_true c28
        clear c28
        by_cases c29 : x5_12.length < 17592186044416
        ·rw [if_pos c29] at H
         have LMc29 := Aside0.mk c29
         clear c29
         obtain ⟨y717, hy717⟩ : ∃ y_ : List Int, y_ = (x5_12 ++ [wrap64 (a1 + a0_1)]) := ⟨_, rfl⟩
         replace H : (some y717) = some r := by first | (rw [hy717]; with_reducible exact H) | (have H2_ := (Option.bind_some _ _).symm.trans H; rw [hy717]; with_reducible exact H2_) | (have H2_ := (Option.bind_some _ _).symm.trans H; with_reducible exact H2_) | with_reducible exact H | (rw [hy717]; exact H) | exact H
         have Ny717 := Aside0.mk hy717
         clear hy717
         obtain rfl := Option.some.inj H
         obtain ⟨hcz30_0, hcz30_1, hcz30_2, hfz30_0, hfz30_1, hfz30_2⟩ := bt3 BK701
         go_wp2_with (first | ((with_reducible refine gate_builtin (b := .append) (xs := #[.tmp 48, .tmp 53]) rfl ?_); at_builtin; refine Kd.R_append (Kd.int .i64) (w0 := w) w.heap.size rfl (.tmp 48) (.tmp 53) 22 3 (.int .i64 0) 8 rfl Try.underlying22 info3 rfl (by decide) (by omega) u5 x5_12 (wrap64 (a1 + a0_1)) [.int .i64 (wrap64 (a1 + a0_1))] (fun _ => True) (fun _ => False) rfl rfl ?aP (fun _ hk => hk.elim) ?aF ?aO ?aB ?aS ?aL ?_; (case aP => exact rfl); (case aB => exact (bm HB)); (case aF => exact (fun _ _ => trivial)); (case aO => exact (Kd.R_mv HO_5.out)); (case aS => exact (below_size (bm HB))); (case aL => have := LMc29.out; omega); intro v718 w31 ho hb hg hat; rw [← Ny717.out] at ho; refine ev3 (blk_grown (km_ BK701) hg (Kd.R_ne HO_5.out BK701.out (by decide))) (hb) (ho) ?_; clear BK701 HB HO_5; intro BK701 HB HO719; clear ho hb hg hat))
         repeat (go_quiet (first | ((with_reducible refine gate_builtin (b := .append) (xs := #[.tmp 48, .tmp 53]) rfl ?_); at_builtin; refine Kd.R_append (Kd.int .i64) (w0 := w) w.heap.size rfl (.tmp 48) (.tmp 53) 22 3 (.int .i64 0) 8 rfl Try.underlying22 info3 rfl (by decide) (by omega) u5 x5_12 (wrap64 (a1 + a0_1)) [.int .i64 (wrap64 (a1 + a0_1))] (fun _ => True) (fun _ => False) rfl rfl ?aP (fun _ hk => hk.elim) ?aF ?aO ?aB ?aS ?aL ?_; (case aP => exact rfl); (case aB => exact (bm HB)); (case aF => exact (fun _ _ => trivial)); (case aO => exact (Kd.R_mv HO_5.out)); (case aS => exact (below_size (bm HB))); (case aL => have := LMc29.out; omega); intro v718 w31 ho hb hg hat; rw [← Ny717.out] at ho; refine ev3 (blk_grown (km_ BK701) hg (Kd.R_ne HO_5.out BK701.out (by decide))) (hb) (ho) ?_; clear BK701 HB HO_5; intro BK701 HB HO719; clear ho hb hg hat)); try go_wp2_with (first | ((with_reducible refine gate_builtin (b := .append) (xs := #[.tmp 48, .tmp 53]) rfl ?_); at_builtin; refine Kd.R_append (Kd.int .i64) (w0 := w) w.heap.size rfl (.tmp 48) (.tmp 53) 22 3 (.int .i64 0) 8 rfl Try.underlying22 info3 rfl (by decide) (by omega) u5 x5_12 (wrap64 (a1 + a0_1)) [.int .i64 (wrap64 (a1 + a0_1))] (fun _ => True) (fun _ => False) rfl rfl ?aP (fun _ hk => hk.elim) ?aF ?aO ?aB ?aS ?aL ?_; (case aP => exact rfl); (case aB => exact (bm HB)); (case aF => exact (fun _ _ => trivial)); (case aO => exact (Kd.R_mv HO_5.out)); (case aS => exact (below_size (bm HB))); (case aL => have := LMc29.out; omega); intro v718 w31 ho hb hg hat; rw [← Ny717.out] at ho; refine ev3 (blk_grown (km_ BK701) hg (Kd.R_ne HO_5.out BK701.out (by decide))) (hb) (ho) ?_; clear BK701 HB HO_5; intro BK701 HB HO719; clear ho hb hg hat)))
         go_ret
         exact ⟨_, by first | rfl | (simp [e0_, e1_] <;> rfl) | (simp [*, e0_, e1_] <;> rfl), Kd.R_mv HO719.out, bm HB⟩
        ·rw [if_neg c29] at H
         exact absurd H (by simp)
       ·rw [if_neg c28] at H
        have c28b0 : decide ((wrap64 ((wrap64 (Int.tdiv a1 a0_1)) + 1)) < a0_0) = false := decide_eq_false c28
        clear c28
        obtain rfl := Option.some.inj H
        obtain ⟨hcz32_0, hcz32_1, hcz32_2, hfz32_0, hfz32_1, hfz32_2⟩ := bt3 BK701
        go_wp2
        repeat (go_quiet (fail); try go_wp2)
        go_ret
        exact ⟨_, by first | rfl | (simp [e0_, e1_] <;> rfl) | (simp [*, e0_, e1_] <;> rfl), Kd.R_mv HO_5.out, bm HB⟩
end Go.Proofs.Ytjogiiobaakjkaa.F
