-- Written by a program of this session (a patched print) out of the translation; Lean checks it.
import Derived.Test.YtjogiiobaakjkaaF0
import Derived.Test.YtjogiiobaakjkaaF8
namespace Go.Proofs.Ytjogiiobaakjkaa.F
open Go.RowKit Go.Proofs.YtjogiiobaakjkaaV.PrintWords Go.Proofs.YtjogiiobaakjkaaV.PrintLast Go.Proofs.YtjogiiobaakjkaaV.PrintMore
attribute [local go_sem] max2_int min2_int max_two min_two max_three min_three max_four min_four
attribute [local go_sem] Try.underlying30 Try.underlying35 Try.underlying44 Try.underlying48 Try.underlying62 Try.underlying66 Try.underlying78 Try.underlying90 Try.underlying112
set_option linter.unusedVariables false
set_option linter.unusedSimpArgs false

/-! ### impl_groupNumbers: function 116 -/
mutual
def impl_groupNumbers.l0 : Nat → List Int → Int → Int → Int → Int → List (S78) → Option (List Int)
 | 0, _, _, _, _, _, _ => none
 | k + 1, x3, x17, x18, x721000, x721001, x721002 => if x18 < x17 then (if 0 ≤ x18 then (if x18 < (x3.length : Int) then (impl_groupNumbers.l0 k (x3.set (x18 : Int).toNat (-1)) x17 (wrap64 (x18 + 1)) x721000 x721001 x721002) else (none)) else (none)) else (impl_groupNumbers.l1 k x3 0 x721002 (x721002.length : Int) 0 x721000 x721001 x721002)
def impl_groupNumbers.l1 : Nat → List Int → Int → List (S78) → Int → Int → Int → Int → List (S78) → Option (List Int)
 | 0, _, _, _, _, _, _, _, _ => none
 | k + 1, x3, x5, x26, x27, x28, x721000, x721001, x721002 => if x28 < x27 then (if 0 ≤ x28 then (if x28 < (x26.length : Int) then ((impl_isGeared.f ((rd_T78 x26 x28).f0) ((rd_T78 x26 x28).f1)).bind fun t727 => (if t727 = true then (if x28 < (x3.length : Int) then (impl_groupNumbers.j2 k x3 x5 x28 x26 x27 x28 (decide ((rd x3 x28) ≥ 0)) x721000 x721001 x721002) else (none)) else (impl_groupNumbers.j2 k x3 x5 x28 x26 x27 x28 true x721000 x721001 x721002))) else (none)) else (none)) else (some x3)
def impl_groupNumbers.j2 : Nat → List Int → Int → Int → List (S78) → Int → Int → Bool → Int → Int → List (S78) → Option (List Int)
 | 0, _, _, _, _, _, _, _, _, _, _ => none
 | k + 1, x3, x5, x6, x26, x27, x28, x42, x721000, x721001, x721002 => if x42 = true then (impl_groupNumbers.l1 k x3 x5 x26 x27 (wrap64 (x28 + 1)) x721000 x721001 x721002) else (if 0 ≤ x6 then (if x6 < (x3.length : Int) then (impl_groupNumbers.l2 k (x3.set (x6 : Int).toNat x5) x5 (([x6] : List Int)) x26 x27 x28 x721000 x721001 x721002) else (none)) else (none))
def impl_groupNumbers.l2 : Nat → List Int → Int → List Int → List (S78) → Int → Int → Int → Int → List (S78) → Option (List Int)
 | 0, _, _, _, _, _, _, _, _, _ => none
 | k + 1, x3, x5, x8, x26, x27, x28, x721000, x721001, x721002 => if (x8.length : Int) > 0 then (if 0 < (x8.length : Int) then (if 1 ≤ (x8.length : Int) then ((impl_besideOf.f k x721000 x721001 x721002 (rd x8 0)).bind fun t737 => (impl_groupNumbers.l3 k x3 x5 (x8.drop (1 : Int).toNat) x26 x27 x28 t737 (t737.length : Int) 0 x721000 x721001 x721002)) else (none)) else (none)) else (impl_groupNumbers.l1 k x3 (wrap64 (x5 + 1)) x26 x27 (wrap64 (x28 + 1)) x721000 x721001 x721002)
def impl_groupNumbers.l3 : Nat → List Int → Int → List Int → List (S78) → Int → Int → List Int → Int → Int → Int → Int → List (S78) → Option (List Int)
 | 0, _, _, _, _, _, _, _, _, _, _, _, _ => none
 | k + 1, x3, x5, x8, x26, x27, x28, x59, x60, x61, x721000, x721001, x721002 => if x61 < x60 then (if 0 ≤ x61 then (if x61 < (x59.length : Int) then (if 0 ≤ (rd x59 x61) then (if (rd x59 x61) < (x721002.length : Int) then ((impl_isGeared.f ((rd_T78 x721002 (rd x59 x61)).f0) ((rd_T78 x721002 (rd x59 x61)).f1)).bind fun t742 => (if t742 = true then (if (rd x59 x61) < (x3.length : Int) then (if (rd x3 (rd x59 x61)) < 0 then (if x8.length < 17592186044416 then (impl_groupNumbers.l3 k (x3.set ((rd x59 x61) : Int).toNat x5) x5 (x8 ++ [rd x59 x61]) x26 x27 x28 x59 x60 (wrap64 (x61 + 1)) x721000 x721001 x721002) else (none)) else (impl_groupNumbers.l3 k x3 x5 x8 x26 x27 x28 x59 x60 (wrap64 (x61 + 1)) x721000 x721001 x721002)) else (none)) else (impl_groupNumbers.l3 k x3 x5 x8 x26 x27 x28 x59 x60 (wrap64 (x61 + 1)) x721000 x721001 x721002))) else (none)) else (none)) else (none)) else (none)) else (impl_groupNumbers.l2 k x3 x5 x8 x26 x27 x28 x721000 x721001 x721002)
end
def impl_groupNumbers.f (k : Nat) (a0_0 : Int) (a0_1 : Int) (l0_2 : List (S78)) : Option (List Int) := if 0 ≤ (l0_2.length : Int) then (if ((l0_2.length : Int) : Int).toNat ≤ 35184372088832 then ((some (List.replicate ((l0_2.length : Int) : Int).toNat 0 : List Int)).bind fun y721 => (impl_groupNumbers.l0 k y721 (y721.length : Int) 0 a0_0 a0_1 l0_2)) else (none)) else (none)
set_option maxHeartbeats 8000000 in
set_option maxRecDepth 100000 in
theorem impl_groupNumbers.calls (k : Nat) (a0_0 : Int) (a0_1 : Int) (A0_2 : Option Addr) (c0_2 : Nat) (l0_2 : List (S78)) (r : List Int) (w : World) (hr0_2 : Kd.C k78 w A0_2 l0_2.length l0_2) (hc0_2 : l0_2.length ≤ c0_2) (h : impl_groupNumbers.f k a0_0 a0_1 l0_2 = some r) :
  Calls Try.prog 116 #[.agg #[.int .i64 a0_0, .int .i64 a0_1, .slice A0_2 l0_2.length c0_2]] w fun e w' => ∃ v0_ : Value, e = .returned (v0_) ∧ Kd.R (Kd.int .i64) 3 w' w.heap.size (fun _ => True) v0_ r ∧ Below w.heap.size w w' := by
 have HR0_2 := Aside0.mk hr0_2
 have HC0_2 := Aside0.mk hc0_2
 clear hr0_2 hc0_2
 have HB := Aside0.mk (Below.refl w.heap.size w)
 have H : (if 0 ≤ (l0_2.length : Int) then (if ((l0_2.length : Int) : Int).toNat ≤ 35184372088832 then ((some (List.replicate ((l0_2.length : Int) : Int).toNat 0 : List Int)).bind fun y721 => (impl_groupNumbers.l0 k y721 (y721.length : Int) 0 a0_0 a0_1 l0_2)) else (none)) else (none)) = some r := h
 clear h
 by_cases c2 : 0 ≤ (l0_2.length : Int)
 ·rw [if_pos c2] at H
  have c2b0 := eq_true c2
  have c2b1 : decide (0 ≤ (l0_2.length : Int)) = true := decide_eq_true c2
  clear c2
  by_cases c3 : ((l0_2.length : Int) : Int).toNat ≤ 35184372088832
  ·rw [if_pos c3] at H
   have c3b0 := eq_true c3
   have c3b1 : decide (((l0_2.length : Int) : Int).toNat ≤ 35184372088832) = true := decide_eq_true c3
   clear c3
   obtain ⟨y721, hy721⟩ : ∃ y_ : List Int, y_ = (List.replicate ((l0_2.length : Int) : Int).toNat 0) := ⟨_, rfl⟩
   replace H : (impl_groupNumbers.l0 k y721 (y721.length : Int) 0 a0_0 a0_1 l0_2) = some r := by first | (rw [hy721]; with_reducible exact H) | (have H2_ := (Option.bind_some _ _).symm.trans H; rw [hy721]; with_reducible exact H2_) | (have H2_ := (Option.bind_some _ _).symm.trans H; with_reducible exact H2_) | with_reducible exact H | (rw [hy721]; exact H) | exact H
   have Ny721 := Aside0.mk hy721
   clear hy721
   have H' := Aside0.mk H
   clear H
   go_enter Try.func116, Try.ntmps116
   go_wp2_with (first | ((with_reducible refine gate_dst (N := 1) rfl ?_); refine box_event ?hg (N := 1) ?hd (cs := #[.int .i64 a0_0, .int .i64 a0_1, .slice A0_2 l0_2.length c0_2]) (t := 48) ?hr ?_; (case hd => rfl); (case hg => rfl); (case hr => first | (go_simp; done) | (go_simp; rfl)); intro gb720 hg w4 hbox hb; refine ev4 (bs HB hb) (hbox) (gle hg HB) (gle hg HB) ?_; clear HB; intro HB BK720 GW720 GE720; clear hb hbox hg; obtain ⟨hcz5_0, hcz5_1, hcz5_2, hfz5_0, hfz5_1, hfz5_2⟩ := bt3 BK720) | ((with_reducible refine gate_dst (N := 15) rfl ?_); refine Kd.R_make (Kd.int .i64) _ 3 rfl (N := 15) rfl 22 _ _ rfl (l0_2.length : Int) rfl rfl Try.underlying22 (.int .i64 0) 8 info3 rfl (by decide) (by omega) 0 (ok := fun _ => True) (okp := fun _ => True) rfl (fun _ hk => hk) trivial (of_decide_eq_true (by first | (with_reducible assumption) | assumption)) (Nat.le_trans (Nat.mul_le_mul_right _ (of_decide_eq_true (by first | (with_reducible assumption) | assumption) : (l0_2.length : Int).toNat ≤ 35184372088832)) (by omega)) (Below.refl _ _) (Nat.le_refl _) ?_; intro v722 w6 ho7 hb hg_ hnew_; clear hg_ hnew_; (first | rw [← Ny721.out] at ho7 | (simp only [Int.reduceToNat] at ho7; rw [← Ny721.out] at ho7)); refine ev3 (Kd.R_lower ho7 (below_size (bm HB))) (kb BK720 hb) (bs HB hb) ?_; clear BK720 HB; intro HO723 BK720 HB; clear hb ho7; obtain ⟨Ao8, co8, eo8⟩ := Kd.R_slice HO723.out; subst eo8))
   go_loopg [18] k (fun kq v18 w' => ∃ (x3_1 : List Int) (x18_1 : Int), v18 = .int .i64 x18_1 ∧ Aside0 (impl_groupNumbers.l0 kq x3_1 (y721.length : Int) x18_1 a0_0 a0_1 l0_2 = some r) ∧ Aside0 (kq ≤ k) ∧ Aside0 (Kd.R (Kd.int .i64) 3 w' w.heap.size (fun _ => True) (.slice Ao8 y721.length co8) x3_1) ∧ Aside0 (w'.heap[gb720]? = some (.cells #[.int .i64 a0_0, .int .i64 a0_1, (.slice A0_2 l0_2.length c0_2)] 48 (0, 0))) ∧ Aside0 (Below w.heap.size w w'))
   case atStart => exact ⟨(y721), (0), (by first | rfl | (simp; done) | (simp [*]; done)), H', ⟨Nat.le_refl _⟩, ⟨Kd.R_mv HO723.out⟩, ⟨km_ BK720⟩, ⟨bm HB⟩⟩
   case round =>
    clear H'
    try clear c1
    try clear c2
    try clear c2b0
    try clear c2b1
    try clear p2
    try clear c3
    try clear c3b0
    try clear c3b1
    try clear hcz5_0
    try clear hcz5_1
    try clear hcz5_2
    try clear hfz5_0
    try clear hfz5_1
    try clear hfz5_2
    obtain ⟨x3_1, x18_1, rfl, HA, HK1, HO_3, BK720, HB⟩ := hrel
    have hl3_1 := (Kd.R_reads' HO_3.out).1
    rw [hl3_1] at HO_3
    (try simp only [hl3_1])
    (try simp only [hl3_1] at BK720)
    cases gk with
    | zero => exact absurd HA.out (by simp [impl_groupNumbers.l0])
    | succ k1 =>
     have H := HA.out
     clear HA
     simp only [impl_groupNumbers.l0] at H
     by_cases c9 : x18_1 < (y721.length : Int)
     ·rw [if_pos c9] at H
      have c9b0 : decide (x18_1 < (y721.length : Int)) = true := decide_eq_true c9
      (try simp only [hl3_1] at c9b0)
      clear c9
      by_cases c10 : 0 ≤ x18_1
      ·rw [if_pos c10] at H
       have c10b0 : decide (0 ≤ x18_1) = true := decide_eq_true c10
       clear c10
       by_cases c11 : x18_1 < (x3_1.length : Int)
       ·rw [if_pos c11] at H
        have c11b0 : decide (x18_1 < (x3_1.length : Int)) = true := decide_eq_true c11
        (try simp only [hl3_1] at c11b0)
        clear c11
        obtain ⟨y724, hy724⟩ : ∃ y_ : List Int, y_ = (x3_1.set (x18_1 : Int).toNat (-1)) := ⟨_, rfl⟩
        replace H : (impl_groupNumbers.l0 k1 y724 (y721.length : Int) (wrap64 (x18_1 + 1)) a0_0 a0_1 l0_2) = some r := by first | (rw [hy724]; with_reducible exact H) | (have H2_ := (Option.bind_some _ _).symm.trans H; rw [hy724]; with_reducible exact H2_) | (have H2_ := (Option.bind_some _ _).symm.trans H; with_reducible exact H2_) | with_reducible exact H | (rw [hy724]; exact H) | exact H
        have Ny724 := Aside0.mk hy724
        clear hy724
        have H' := Aside0.mk H
        clear H
        have p12 : 0 ≤ (x18_1 : Int) := of_decide_eq_true (by first | (with_reducible assumption) | assumption)
        have q12 : (x18_1 : Int) < ((x3_1.length : Int) : Int) := of_decide_eq_true (by first | (with_reducible assumption) | assumption)
        obtain ⟨go12, co12, eo12, gb12, gl12, cl12, HG12⟩ := Kd.R_form HO_3.out (by omega)
        (first | cases eo12 | (injection eo12 with ea_ en_ ec_; (first | subst ea_ | (injection ea_ with ea_; subst ea_)); subst ec_; clear en_))
        have GB12 := Aside0.mk gb12
        have GG12 := Aside0.mk HG12
        clear gb12 gl12 HG12
        obtain ⟨hx12_0, hf12_0⟩ := Kd.R_celln 0 HO_3.out (x18_1 : Int) p12 q12
        replace p12 := eq_true p12
        replace q12 := eq_true q12
        have HP13 := Kd.R_putg HO_3.out (x18_1 : Int) (-1)
        go_wp2_with (first | ((with_reducible refine gate_store (t := 3) (p := 23) rfl ?_); refine store_event (t := 3) (p := 23) (v := ?vo_w14) (w1 := (wr.setCell ⟨go12, (x18_1 : Int).toNat, none⟩ (.int .i64 (-1)))) ?hg ?ho ?hn ?hr ?_; (case ho => rfl); (case hg => rfl); (case hn => rfl); (case hr => first | (go_simp; done) | (go_simp; rfl)); intro w14 hw; have hg : wr.grownBy w14 (some go12) := (by rw [hw]; exact HP13.2); have hp_ : Kd.R (Kd.int .i64) 3 w14 w.heap.size (fun _ => True) (.slice (some ⟨go12, 0, none⟩) x3_1.length co8) y724 := (by rw [hw, Ny724.out]; exact HP13.1); clear HP13; refine ev3 (hp_) (blk_grown (km_ BK720) hg (Kd.R_ne HO_3.out BK720.out (by decide))) ((by rw [hw]; exact below_set (HB.out) GB12.out : Below w.heap.size w w14)) ?_; clear HO_3 BK720 HB; intro HO_3 BK720 HB; clear hg hw hp_))
        (try simp only [← hl3_1])
        go_roundg k1
        case measure => have := HK1.out; omega
        case rel => exact ⟨(y724), (wrap64 (x18_1 + 1)), (by first | rfl | (simp; done) | (simp [*]; done)), H', ⟨by have := HK1.out; omega⟩, ⟨by (try simp only [hl3_1]); exact Kd.R_mv HO_3.out⟩, ⟨by (try simp only [hl3_1]); exact km_ BK720⟩, ⟨bm HB⟩⟩
       ·rw [if_neg c11] at H
        exact absurd H (by simp)
      ·rw [if_neg c10] at H
       exact absurd H (by simp)
     ·rw [if_neg c9] at H
      have c9b0 : decide (x18_1 < (y721.length : Int)) = false := decide_eq_false c9
      (try simp only [hl3_1] at c9b0)
      clear c9
      have H' := Aside0.mk H
      clear H
      obtain ⟨hcz15_0, hcz15_1, hcz15_2, hfz15_0, hfz15_1, hfz15_2⟩ := bt3 BK720
      go_wp2
      go_loopg [5, 28] k1 (fun kq v5 v28 w' => ∃ (x3_2 : List Int) (x5_2 : Int) (x28_2 : Int), v5 = .int .i64 x5_2 ∧ v28 = .int .i64 x28_2 ∧ Aside0 (impl_groupNumbers.l1 kq x3_2 x5_2 l0_2 (l0_2.length : Int) x28_2 a0_0 a0_1 l0_2 = some r) ∧ Aside0 (kq ≤ k1) ∧ Aside0 (Kd.R (Kd.int .i64) 3 w' w.heap.size (fun _ => True) (.slice Ao8 x3_1.length co8) x3_2) ∧ Aside0 (w'.heap[gb720]? = some (.cells #[.int .i64 a0_0, .int .i64 a0_1, (.slice A0_2 l0_2.length c0_2)] 48 (0, 0))) ∧ Aside0 (Below w.heap.size w w'))
      case atStart => exact ⟨(x3_1), (0), (0), (by first | rfl | (simp; done) | (simp [*]; done)), (by first | rfl | (simp; done) | (simp [*]; done)), H', ⟨Nat.le_refl _⟩, ⟨by (try simp only [hl3_1]); exact Kd.R_mv HO_3.out⟩, ⟨by (try simp only [hl3_1]); exact km_ BK720⟩, ⟨bm HB⟩⟩
      case round =>
       clear H'
       try clear c1
       try clear c2
       try clear c2b0
       try clear c2b1
       try clear p2
       try clear c3
       try clear c3b0
       try clear c3b1
       try clear c9
       try clear c9b0
       try clear c11
       try clear hcz15_0
       try clear hcz15_1
       try clear hcz15_2
       try clear hcz5_0
       try clear hcz5_1
       try clear hcz5_2
       try clear hfz15_0
       try clear hfz15_1
       try clear hfz15_2
       try clear hfz5_0
       try clear hfz5_1
       try clear hfz5_2
       try clear p2
       obtain ⟨x3_2, x5_2, x28_2, rfl, rfl, HA, HK2, HO_3, BK720, HB⟩ := hrel
       have hl3_2 := (Kd.R_reads' HO_3.out).1
       rw [hl3_2] at HO_3
       (try simp only [hl3_2])
       (try simp only [hl3_2] at BK720)
       cases gk with
       | zero => exact absurd HA.out (by simp [impl_groupNumbers.l1])
       | succ k2 =>
        have H := HA.out
        clear HA
        simp only [impl_groupNumbers.l1] at H
        by_cases c16 : x28_2 < (l0_2.length : Int)
        ·rw [if_pos c16] at H
         have c16b0 : decide (x28_2 < (l0_2.length : Int)) = true := decide_eq_true c16
         (try simp only [hl3_1] at c16b0)
         (try simp only [hl3_2] at c16b0)
         clear c16
         by_cases c17 : 0 ≤ x28_2
         ·rw [if_pos c17] at H
          have c17b0 : decide (0 ≤ x28_2) = true := decide_eq_true c17
          clear c17
          by_cases c18 : x28_2 < (l0_2.length : Int)
          ·rw [if_pos c18] at H
           have c18b0 : decide (x28_2 < (l0_2.length : Int)) = true := decide_eq_true c18
           (try simp only [hl3_1] at c18b0)
           (try simp only [hl3_2] at c18b0)
           clear c18
           have HC19 := Aside0.mk H
           clear H
           have p725 : 0 ≤ (x28_2 : Int) := of_decide_eq_true (by first | (with_reducible assumption) | assumption)
           have q725 : x28_2 < (l0_2.length : Int) := of_decide_eq_true (by first | (with_reducible assumption) | assumption)
           obtain ⟨ad725, e725, hx725_0, hx725_1⟩ := at_T78 HR0_2.out x28_2 p725 q725
           cases e725
           replace hx725_0 := (HB.out.cell (World.block_lt_of_cell? w _ hx725_0)).trans hx725_0
           replace hx725_1 := (HB.out.cell (World.block_lt_of_cell? w _ hx725_1)).trans hx725_1
           replace p725 := eq_true p725
           replace q725 := eq_true q725
           go_upto_region 11 with (first | ((with_reducible refine gate_dst (N := 7) rfl ?_); refine box_event ?hg (N := 7) ?hd (cs := #[.int .i64 0, .int .i64 0]) (t := 78) ?hr ?_; (case hd => rfl); (case hg => rfl); (case hr => first | (go_simp; done) | (go_simp; rfl)); intro gb726 hg w20 hbox hb; refine ev8 (Kd.R_below (Kd.R_mv HO_3.out) hb) (kb BK720 hb) (bs HB hb) (hbox) (gle hg HB) (gle hg HB) (gnf hg BK720) (gne hg BK720) ?_; clear HO_3 BK720 HB; intro HO_3 BK720 HB BK726 GW726 GE726 NB720_726 NB726_720; clear hb hbox hg; have hnb21 := NB726_720.out; have hnc21 := NB720_726.out; obtain ⟨hcz22_0, hcz22_1, hfz22_0, hfz22_1⟩ := bt2 BK726))
           (try simp only [Act.put, za_, zb_, zc_])
           go_cut [42] (fun v42 wc => ∃ (kq : Nat) (x42_18 : Bool), v42 = .bool x42_18 ∧ Aside0 (impl_groupNumbers.j2 kq x3_2 x5_2 x28_2 l0_2 (l0_2.length : Int) x28_2 x42_18 a0_0 a0_1 l0_2 = some r) ∧ Aside0 (kq ≤ k2) ∧ Aside0 (Kd.R (Kd.int .i64) 3 wc w.heap.size (fun _ => True) (.slice Ao8 x3_2.length co8) x3_2) ∧ Aside0 (wc.heap[gb720]? = some (.cells #[.int .i64 a0_0, .int .i64 a0_1, (.slice (some ad725) l0_2.length c0_2)] 48 (0, 0))) ∧ Aside0 (wc.heap[gb726]? = some (.cells #[.int .i64 ((rd_T78 l0_2 x28_2).f0), .int .i64 ((rd_T78 l0_2 x28_2).f1)] 78 (0, 0))) ∧ Aside0 (Below w.heap.size w wc))
           case first =>
            have H := HC19.out
            clear HC19
            replace H := Option.bind_eq_some_iff.mp H
            obtain ⟨t727, A230, H⟩ := H
            replace H : (if t727 = true then (if x28_2 < (x3_2.length : Int) then (impl_groupNumbers.j2 k2 x3_2 x5_2 x28_2 l0_2 (l0_2.length : Int) x28_2 (decide ((rd x3_2 x28_2) ≥ 0)) a0_0 a0_1 l0_2) else (none)) else (impl_groupNumbers.j2 k2 x3_2 x5_2 x28_2 l0_2 (l0_2.length : Int) x28_2 true a0_0 a0_1 l0_2)) = some r := H
            have A23 := Aside0.mk A230
            clear A230
            by_cases c24 : t727 = true
            ·subst c24
             have H1 : (if x28_2 < (x3_2.length : Int) then (impl_groupNumbers.j2 k2 x3_2 x5_2 x28_2 l0_2 (l0_2.length : Int) x28_2 (decide ((rd x3_2 x28_2) ≥ 0)) a0_0 a0_1 l0_2) else (none)) = some r := by rw [if_pos rfl] at H; exact H
             clear H
             have H := H1
             clear H1
             by_cases c25 : x28_2 < (x3_2.length : Int)
             ·rw [if_pos c25] at H
              have c25b0 : decide (x28_2 < (x3_2.length : Int)) = true := decide_eq_true c25
              (try simp only [hl3_1] at c25b0)
              (try simp only [hl3_2] at c25b0)
              clear c25
              (first | rw [c25b0] | (simp only [i64_w, i32_w]; rw [c25b0]) | skip)
              have H' := Aside0.mk H
              clear H
              have hnb26 := NB726_720.out
              have hnc26 := NB720_726.out
              obtain ⟨hcz27_0, hcz27_1, hfz27_0, hfz27_1⟩ := bt2 BK726
              go_wp2_with (first | ((with_reducible refine gate_callee (f := 136) rfl ?_); refine goesL_ (some 34) rfl rfl Try.func136 (by kernel_rfl) rfl #[.agg #[.int .i64 ((rd_T78 l0_2 x28_2).f0), .int .i64 ((rd_T78 l0_2 x28_2).f1)]] rfl (by (try simp only [ma_, mb_, mc_]); first | done | rfl | (simp only [List.length_drop, List.length_take]; rfl)) ?_; (with_reducible refine (impl_isGeared.calls ((rd_T78 l0_2 x28_2).f0) ((rd_T78 l0_2 x28_2).f1) true _ A23.out).mono ?_); rintro e w28 ⟨rfl, hb⟩; refine ⟨_, rfl, ?_⟩; refine ev4 (Kd.R_below (Kd.R_mv (Kd.R_mono (Kd.R_far (p := ⟨gb726, 1, none⟩) (Kd.R_far (p := ⟨gb726, 0, none⟩) (Kd.R_types HO_3.out BK726.out (by decide)) (fun _ hk => hk.2) (.int .i64 ((rd_T78 l0_2 x28_2).f0))) (fun _ hk => hk.2) (.int .i64 ((rd_T78 l0_2 x28_2).f1))) (fun _ h_ => h_.1))) hb) (blk_below (g := gb720) (o := .cells #[.int .i64 a0_0, .int .i64 a0_1, .slice (some ad725) l0_2.length c0_2] 48 (0, 0)) (fp BK720 rfl) hb) (blk_below (g := gb726) (o := .cells #[.int .i64 ((rd_T78 l0_2 x28_2).f0), .int .i64 ((rd_T78 l0_2 x28_2).f1)] 78 (0, 0)) (fp BK726 rfl) hb) (bs HB hb) ?_; clear HO_3 BK720 BK726 HB; intro HO_3 BK720 BK726 HB; (try clear hb); (try clear hb2); (try clear hk); (try clear hi); have p728 : 0 ≤ (x28_2 : Int) := of_decide_eq_true (by first | (with_reducible assumption) | assumption); have q728 : x28_2 < (x3_2.length : Int) := of_decide_eq_true (by first | (with_reducible assumption) | assumption); obtain ⟨ad728, e728, hx728_0⟩ := Kd.at_int (Kd.R_reads' HO_3.out).2.2 x28_2 p728 q728; cases e728; replace p728 := eq_true p728; replace q728 := eq_true q728))
              go_meet
              case rel => exact ⟨_, (decide ((rd x3_2 x28_2) ≥ 0)), (by first | rfl | (simp; done) | (simp [*]; done)), H', ⟨by have := HK1.out; have := HK2.out; first | omega | exact Nat.le_refl _⟩, ⟨by (try simp only [hl3_1]); (try simp only [hl3_2]); exact Kd.R_mv HO_3.out⟩, ⟨by (try simp only [hl3_1]); (try simp only [hl3_2]); exact km_ BK720⟩, ⟨by (try simp only [hl3_1]); (try simp only [hl3_2]); exact km_ BK726⟩, ⟨bm HB⟩⟩
             ·rw [if_neg c25] at H
              exact absurd H (by simp)
            ·replace c24 := Bool.eq_false_iff.mpr c24
             subst c24
             have H1 : (impl_groupNumbers.j2 k2 x3_2 x5_2 x28_2 l0_2 (l0_2.length : Int) x28_2 true a0_0 a0_1 l0_2) = some r := by rw [if_neg (show ¬ (false = true) by decide)] at H; exact H
             clear H
             have H := H1
             clear H1
             have H' := Aside0.mk H
             clear H
             have hnb29 := NB726_720.out
             have hnc29 := NB720_726.out
             obtain ⟨hcz30_0, hcz30_1, hfz30_0, hfz30_1⟩ := bt2 BK726
             go_wp2_with (first | ((with_reducible refine gate_callee (f := 136) rfl ?_); refine goesL_ (some 34) rfl rfl Try.func136 (by kernel_rfl) rfl #[.agg #[.int .i64 ((rd_T78 l0_2 x28_2).f0), .int .i64 ((rd_T78 l0_2 x28_2).f1)]] rfl (by (try simp only [ma_, mb_, mc_]); first | done | rfl | (simp only [List.length_drop, List.length_take]; rfl)) ?_; (with_reducible refine (impl_isGeared.calls ((rd_T78 l0_2 x28_2).f0) ((rd_T78 l0_2 x28_2).f1) false _ A23.out).mono ?_); rintro e w31 ⟨rfl, hb⟩; refine ⟨_, rfl, ?_⟩; refine ev4 (Kd.R_below (Kd.R_mv (Kd.R_mono (Kd.R_far (p := ⟨gb726, 1, none⟩) (Kd.R_far (p := ⟨gb726, 0, none⟩) (Kd.R_types HO_3.out BK726.out (by decide)) (fun _ hk => hk.2) (.int .i64 ((rd_T78 l0_2 x28_2).f0))) (fun _ hk => hk.2) (.int .i64 ((rd_T78 l0_2 x28_2).f1))) (fun _ h_ => h_.1))) hb) (blk_below (g := gb720) (o := .cells #[.int .i64 a0_0, .int .i64 a0_1, .slice (some ad725) l0_2.length c0_2] 48 (0, 0)) (fp BK720 rfl) hb) (blk_below (g := gb726) (o := .cells #[.int .i64 ((rd_T78 l0_2 x28_2).f0), .int .i64 ((rd_T78 l0_2 x28_2).f1)] 78 (0, 0)) (fp BK726 rfl) hb) (bs HB hb) ?_; clear HO_3 BK720 BK726 HB; intro HO_3 BK720 BK726 HB; (try clear hb); (try clear hb2); (try clear hk); (try clear hi)))
             go_meet
             case rel => exact ⟨_, (true), (by first | rfl | (simp; done) | (simp [*]; done)), H', ⟨by have := HK1.out; have := HK2.out; first | omega | exact Nat.le_refl _⟩, ⟨by (try simp only [hl3_1]); (try simp only [hl3_2]); exact Kd.R_mv HO_3.out⟩, ⟨by (try simp only [hl3_1]); (try simp only [hl3_2]); exact km_ BK720⟩, ⟨by (try simp only [hl3_1]); (try simp only [hl3_2]); exact km_ BK726⟩, ⟨bm HB⟩⟩
           case rest =>
            clear HC19
            try clear c1
            try clear c2
            try clear c2b0
            try clear c2b1
            try clear p2
            try clear c3
            try clear c3b0
            try clear c3b1
            try clear p7
            try clear q7
            try clear hx7
            try clear c9
            try clear c9b0
            try clear c11
            try clear c16
            try clear c16b0
            try clear c17
            try clear c17b0
            try clear c18
            try clear c18b0
            try clear c21
            try clear hcz15_0
            try clear hcz15_1
            try clear hcz15_2
            try clear hcz22_0
            try clear hcz22_1
            try clear hcz5_0
            try clear hcz5_1
            try clear hcz5_2
            try clear hfz15_0
            try clear hfz15_1
            try clear hfz15_2
            try clear hfz22_0
            try clear hfz22_1
            try clear hfz5_0
            try clear hfz5_1
            try clear hfz5_2
            try clear hx725_0
            try clear hx725_1
            try clear p2
            try clear p725
            try clear q725
            obtain ⟨kq, x42_18, rfl, HA, HJ18, HO_3, BK720, BK726, HB⟩ := hcut
            cases kq with
            | zero => exact absurd HA.out (by simp [impl_groupNumbers.j2])
            | succ kj18 =>
             have H := HA.out
             clear HA
             simp only [impl_groupNumbers.j2] at H
             by_cases c32 : x42_18 = true
             ·subst c32
              have H1 : (impl_groupNumbers.l1 kj18 x3_2 x5_2 l0_2 (l0_2.length : Int) (wrap64 (x28_2 + 1)) a0_0 a0_1 l0_2) = some r := by rw [if_pos rfl] at H; exact H
              clear H
              have H := H1
              clear H1
              have H' := Aside0.mk H
              clear H
              go_wp2
              (try simp only [← hl3_2])
              go_roundg kj18
              case measure => have := HK1.out; have := HK2.out; have := HJ18.out; omega
              case rel => exact ⟨(x3_2), (x5_2), (wrap64 (x28_2 + 1)), (by first | rfl | (simp; done) | (simp [*]; done)), (by first | rfl | (simp; done) | (simp [*]; done)), H', ⟨by have := HK1.out; have := HK2.out; have := HJ18.out; omega⟩, ⟨by (try simp only [hl3_1]); (try simp only [hl3_2]); exact Kd.R_mv HO_3.out⟩, ⟨by (try simp only [hl3_1]); (try simp only [hl3_2]); exact km_ BK720⟩, ⟨bm HB⟩⟩
             ·replace c32 := Bool.eq_false_iff.mpr c32
              subst c32
              have H1 : (if 0 ≤ x28_2 then (if x28_2 < (x3_2.length : Int) then (impl_groupNumbers.l2 kj18 (x3_2.set (x28_2 : Int).toNat x5_2) x5_2 (([x28_2] : List Int)) l0_2 (l0_2.length : Int) x28_2 a0_0 a0_1 l0_2) else (none)) else (none)) = some r := by rw [if_neg (show ¬ (false = true) by decide)] at H; exact H
              clear H
              have H := H1
              clear H1
              by_cases c33 : 0 ≤ x28_2
              ·rw [if_pos c33] at H
               have c33b0 : decide (0 ≤ x28_2) = true := decide_eq_true c33
               clear c33
               by_cases c34 : x28_2 < (x3_2.length : Int)
               ·rw [if_pos c34] at H
                have c34b0 : decide (x28_2 < (x3_2.length : Int)) = true := decide_eq_true c34
                (try simp only [hl3_1] at c34b0)
                (try simp only [hl3_2] at c34b0)
                clear c34
                obtain ⟨y729, hy729⟩ : ∃ y_ : List Int, y_ = (x3_2.set (x28_2 : Int).toNat x5_2) := ⟨_, rfl⟩
                replace H : (impl_groupNumbers.l2 kj18 y729 x5_2 (([x28_2] : List Int)) l0_2 (l0_2.length : Int) x28_2 a0_0 a0_1 l0_2) = some r := by first | (rw [hy729]; with_reducible exact H) | (have H2_ := (Option.bind_some _ _).symm.trans H; rw [hy729]; with_reducible exact H2_) | (have H2_ := (Option.bind_some _ _).symm.trans H; with_reducible exact H2_) | with_reducible exact H | (rw [hy729]; exact H) | exact H
                have Ny729 := Aside0.mk hy729
                clear hy729
                obtain ⟨y730, hy730⟩ : ∃ y_ : List Int, y_ = (([x28_2] : List Int)) := ⟨_, rfl⟩
                replace H : (impl_groupNumbers.l2 kj18 y729 x5_2 y730 l0_2 (l0_2.length : Int) x28_2 a0_0 a0_1 l0_2) = some r := by first | (rw [hy730]; with_reducible exact H) | (have H2_ := (Option.bind_some _ _).symm.trans H; rw [hy730]; with_reducible exact H2_) | (have H2_ := (Option.bind_some _ _).symm.trans H; with_reducible exact H2_) | with_reducible exact H | (rw [hy730]; exact H) | exact H
                have Ny730 := Aside0.mk hy730
                clear hy730
                have H' := Aside0.mk H
                clear H
                have p35 : 0 ≤ (x28_2 : Int) := of_decide_eq_true (by first | (with_reducible assumption) | assumption)
                have q35 : (x28_2 : Int) < ((x3_2.length : Int) : Int) := of_decide_eq_true (by first | (with_reducible assumption) | assumption)
                obtain ⟨go35, co35, eo35, gb35, gl35, cl35, HG35⟩ := Kd.R_form HO_3.out (by omega)
                (first | cases eo35 | (injection eo35 with ea_ en_ ec_; (first | subst ea_ | (injection ea_ with ea_; subst ea_)); subst ec_; clear en_))
                have GB35 := Aside0.mk gb35
                have GG35 := Aside0.mk HG35
                clear gb35 gl35 HG35
                obtain ⟨hx35_0, hf35_0⟩ := Kd.R_celln 0 HO_3.out (x28_2 : Int) p35 q35
                replace p35 := eq_true p35
                replace q35 := eq_true q35
                have HP36 := Kd.R_putg HO_3.out (x28_2 : Int) x5_2
                go_wp2_with (first | ((with_reducible refine gate_store (t := 3) (p := 46) rfl ?_); refine store_event (t := 3) (p := 46) (v := ?vo_w37) (w1 := (wc.setCell ⟨go35, (x28_2 : Int).toNat, none⟩ (.int .i64 x5_2))) ?hg ?ho ?hn ?hr ?_; (case ho => rfl); (case hg => rfl); (case hn => rfl); (case hr => first | (go_simp; done) | (go_simp; rfl)); intro w37 hw; have hg : wc.grownBy w37 (some go35) := (by rw [hw]; exact HP36.2); have hp_ : Kd.R (Kd.int .i64) 3 w37 w.heap.size (fun _ => True) (.slice (some ⟨go35, 0, none⟩) x3_2.length co8) y729 := (by rw [hw, Ny729.out]; exact HP36.1); clear HP36; refine ev4 (hp_) (blk_grown (km_ BK720) hg (Kd.R_ne HO_3.out BK720.out (by decide))) (blk_grown (km_ BK726) hg (Kd.R_ne HO_3.out BK726.out (by decide))) ((by rw [hw]; exact below_set (HB.out) GB35.out : Below w.heap.size w w37)) ?_; clear HO_3 BK720 BK726 HB; intro HO_3 BK720 BK726 HB; clear hg hw hp_) | ((with_reducible refine gate_dst (N := 48) rfl ?_); refine Kd.R_lit (Kd.int .i64) _ 3 ?hg (N := 48) ?hd (xs := ([x28_2] : List Int)) (inner := [.int .i64 x28_2]) (ok := fun _ => True) (okp := fun _ => True) ?hr ?hp (fun _ hk => hk) trivial (Below.refl _ _) (Nat.le_refl _) (by simp) ?_; (case hd => rfl); (case hg => rfl); (case hr => first | (go_simp; done) | (go_simp; rfl)); (case hp => exact (Reps.one (show Kd.M (Kd.int .i64) _ _ _ x28_2 [.int .i64 x28_2] from rfl) (Reps.none _ _))); intro v731 w38 ho39 hb hg_ hnew_; clear hg_ hnew_; (first | rw [← Ny730.out] at ho39 | (simp only [Int.reduceToNat] at ho39; rw [← Ny730.out] at ho39)); refine ev5 (Kd.R_elder' (Kd.R_mv HO_3.out) (Kd.R_base ho39) hb) (Kd.R_lower (Kd.R_new' ho39 (Kd.R_lt (Kd.R_mv HO_3.out))) (below_size (bm HB))) (kb BK720 hb) (kb BK726 hb) (bs HB hb) ?_; clear HO_3 BK720 BK726 HB; intro HO_3 HO732 BK720 BK726 HB; clear hb ho39))
                go_loopg [8] kj18 (fun kq v8 w' => ∃ (x3_4 : List Int) (x8_4 : List Int), Aside0 (impl_groupNumbers.l2 kq x3_4 x5_2 x8_4 l0_2 (l0_2.length : Int) x28_2 a0_0 a0_1 l0_2 = some r) ∧ Aside0 (kq ≤ kj18) ∧ Aside0 (Kd.R (Kd.int .i64) 3 w' w.heap.size (fun k_ => some k_ ≠ (v8 : Value).ownBlock) (.slice (some ⟨go35, 0, none⟩) x3_2.length co8) x3_4) ∧ Aside0 (Kd.Q (Kd.int .i64) 3 w' w.heap.size (fun k_ => some k_ ≠ ((.slice (some ⟨go35, 0, none⟩) x3_2.length co8) : Value).ownBlock) v8 x8_4) ∧ Aside0 (w'.heap[gb720]? = some (.cells #[.int .i64 a0_0, .int .i64 a0_1, (.slice (some ad725) l0_2.length c0_2)] 48 (0, 0))) ∧ Aside0 (w'.heap[gb726]? = some (.cells #[.int .i64 ((rd_T78 l0_2 x28_2).f0), .int .i64 ((rd_T78 l0_2 x28_2).f1)] 78 (0, 0))) ∧ Aside0 (Below w.heap.size w w'))
                case atStart => exact ⟨(y729), (y730), H', ⟨Nat.le_refl _⟩, ⟨by (try simp only [hl3_1]); (try simp only [hl3_2]); exact Kd.R_mv (Kd.R_mono HO_3.out (fun _ hk => hk.2))⟩, ⟨Kd.Q_of_R (by (try simp only [hl3_1]); (try simp only [hl3_2]); exact Kd.R_mv (Kd.R_mono HO732.out (fun _ hk => hk.2)))⟩, ⟨by (try simp only [hl3_1]); (try simp only [hl3_2]); exact km_ BK720⟩, ⟨by (try simp only [hl3_1]); (try simp only [hl3_2]); exact km_ BK726⟩, ⟨bm HB⟩⟩
                case round =>
                 clear H'
                 try clear c1
                 try clear c2
                 try clear c2b0
                 try clear c2b1
                 try clear p2
                 try clear c3
                 try clear c3b0
                 try clear c3b1
                 try clear p3
                 try clear q3
                 try clear hx3
                 try clear hf3
                 try clear p7
                 try clear q7
                 try clear hx7
                 try clear c9
                 try clear c9b0
                 try clear c11
                 try clear c16
                 try clear c16b0
                 try clear c17
                 try clear c17b0
                 try clear c18
                 try clear c18b0
                 try clear c21
                 try clear c32
                 try clear c33
                 try clear c33b0
                 try clear c34
                 try clear c34b0
                 try clear p35
                 try clear q35
                 try clear hx35
                 try clear hf35
                 try clear hcz15_0
                 try clear hcz15_1
                 try clear hcz15_2
                 try clear hcz22_0
                 try clear hcz22_1
                 try clear hcz5_0
                 try clear hcz5_1
                 try clear hcz5_2
                 try clear hfz15_0
                 try clear hfz15_1
                 try clear hfz15_2
                 try clear hfz22_0
                 try clear hfz22_1
                 try clear hfz5_0
                 try clear hfz5_1
                 try clear hfz5_2
                 try clear hx35_0
                 try clear hx725_0
                 try clear hx725_1
                 try clear p2
                 try clear p35
                 try clear p7
                 try clear p725
                 try clear q35
                 try clear q7
                 try clear q725
                 obtain ⟨x3_4, x8_4, HA, HK4, HO_3, HO_8, BK720, BK726, HB⟩ := hrel
                 have hl3_4 := (Kd.R_reads' HO_3.out).1
                 rw [hl3_4] at HO_3
                 (try simp only [hl3_4])
                 (try simp only [hl3_4] at BK720)
                 (try simp only [hl3_4] at BK726)
                 (try simp only [hl3_4] at HO_8)
                 cases gk with
                 | zero => exact absurd HA.out (by simp [impl_groupNumbers.l2])
                 | succ k4 =>
                  have H := HA.out
                  clear HA
                  simp only [impl_groupNumbers.l2] at H
                  by_cases c40 : (x8_4.length : Int) > 0
                  ·rw [if_pos c40] at H
                   have c40b0 : decide (0 < (x8_4.length : Int)) = true := decide_eq_true c40
                   have c40b1 : decide (0 < x8_4.length) = true := decide_eq_true (by omega)
                   (try simp only [hl3_1] at c40b0 c40b1)
                   (try simp only [hl3_2] at c40b0 c40b1)
                   (try simp only [hl3_4] at c40b0 c40b1)
                   clear c40
                   by_cases c41 : 0 < (x8_4.length : Int)
                   ·rw [if_pos c41] at H
                    have c41b0 : decide (0 < (x8_4.length : Int)) = true := decide_eq_true c41
                    have c41b1 : decide (0 < x8_4.length) = true := decide_eq_true (by omega)
                    (try simp only [hl3_1] at c41b0 c41b1)
                    (try simp only [hl3_2] at c41b0 c41b1)
                    (try simp only [hl3_4] at c41b0 c41b1)
                    clear c41
                    by_cases c42 : 1 ≤ (x8_4.length : Int)
                    ·rw [if_pos c42] at H
                     have c42b0 := eq_true c42
                     have c42b1 : decide (1 ≤ (x8_4.length : Int)) = true := decide_eq_true c42
                     clear c42
                     obtain ⟨y734, hy734⟩ : ∃ y_ : List Int, y_ = (x8_4.drop (1 : Int).toNat) := ⟨_, rfl⟩
                     replace H : ((impl_besideOf.f k4 a0_0 a0_1 l0_2 (rd x8_4 0)).bind fun t737 => (impl_groupNumbers.l3 k4 x3_4 x5_2 y734 l0_2 (l0_2.length : Int) x28_2 t737 (t737.length : Int) 0 a0_0 a0_1 l0_2)) = some r := by first | (rw [hy734]; with_reducible exact H) | (have H2_ := (Option.bind_some _ _).symm.trans H; rw [hy734]; with_reducible exact H2_) | (have H2_ := (Option.bind_some _ _).symm.trans H; with_reducible exact H2_) | with_reducible exact H | (rw [hy734]; exact H) | exact H
                     have Ny734 := Aside0.mk hy734
                     clear hy734
                     replace H := Option.bind_eq_some_iff.mp H
                     obtain ⟨t737, A430, H⟩ := H
                     replace H : (impl_groupNumbers.l3 k4 x3_4 x5_2 y734 l0_2 (l0_2.length : Int) x28_2 t737 (t737.length : Int) 0 a0_0 a0_1 l0_2) = some r := H
                     have A43 := Aside0.mk A430
                     clear A430
                     have H' := Aside0.mk H
                     clear H
                     obtain ⟨Ao44, co44, eo44, _⟩ := Kd.Q_slice HO_8.out
                     subst eo44
                     have p733 : 0 ≤ (0 : Int) := (by omega)
                     have q733 : 0 < (x8_4.length : Int) := of_decide_eq_true (by first | (with_reducible assumption) | assumption)
                     obtain ⟨ad733, e733, hx733_0⟩ := Kd.at_int (Kd.Q_reads' HO_8.out).2.2 0 p733 q733
                     cases e733
                     have qi733 : (0 < x8_4.length) = True := eq_true (by omega)
                     (try rw [show ((0 : Int)).toNat = 0 from rfl] at hx733_0)
                     (try rw [Addr.add_zero'] at hx733_0)
                     replace p733 := eq_true p733
                     replace q733 := eq_true q733
                     have q45 : (1 : Int) ≤ ((x8_4.length : Int) : Int) := of_decide_eq_true (by first | (with_reducible assumption) | assumption)
                     obtain ⟨i045, hi045, _, hsz45, _⟩ := info_parts info3
                     have hcut45 := cut_from (P := Try.prog) 22 3 .i64 Try.underlying22 hi045 1 hsz45 (some ad733) x8_4.length co44 1 (by omega) q45
                     have hr45 := Kd.Q_drop (k := (1 : Int).toNat) HO_8.out (by omega)
                     obtain ⟨A45, hA45⟩ : ∃ A1, A1 = (if co44 = (1 : Int).toNat then (some ad733) else ((some ad733) : Option Addr).map (·.add ((1 : Int).toNat * 1))) := ⟨_, rfl⟩
                     obtain ⟨c45, hc45⟩ : ∃ c1, c1 = co44 - (1 : Int).toNat := ⟨_, rfl⟩
                     have hy45 : y734.length = x8_4.length - (1 : Int).toNat := (by rw [Ny734.out, List.length_drop])
                     rw [← Ny734.out] at hr45
                     rw [← hy45, ← hA45, ← hc45] at hcut45
                     replace hr45 : Kd.Q (Kd.int .i64) 3 wr w.heap.size (fun k_ => some k_ ≠ (.slice (some ⟨go35, 0, none⟩) x3_4.length co8 : Value).ownBlock) (.slice A45 y734.length c45) y734 := (by rw [hA45, hc45, hy45]; exact hr45)
                     have HE45 : Aside0 ((Value.slice A45 y734.length c45).ownBlock = (.slice (some ad733) x8_4.length co44 : Value).ownBlock) := ⟨by rw [hA45]; split <;> (cases ((some ad733) : Option Addr) <;> rfl)⟩
                     clear hy45 hi045 hsz45 HO_8 hA45 hc45
                     have HO736 := Aside0.mk hr45
                     clear hr45
                     replace q45 := eq_true q45
                     have n_ := Aside0.mk (Kd.R_mono (ok' := fun k_ => some k_ ≠ (.slice A45 y734.length c45 : Value).ownBlock) HO_3.out (fun k_ hk => (by rw [HE45.out]; exact hk)))
                     clear HO_3
                     have HO_3 := n_
                     clear n_
                     have hnb46 := NB720_726.out
                     have hnc46 := NB726_720.out
                     obtain ⟨hcz47_0, hcz47_1, hcz47_2, hfz47_0, hfz47_1, hfz47_2⟩ := bt3 BK720
                     go_wp2_with (first | ((with_reducible refine gate_callee (f := 137) rfl ?_); refine goesL_ (some 59) rfl rfl Try.func137 (by kernel_rfl) rfl #[.agg #[.int .i64 a0_0, .int .i64 a0_1, .slice (some ad725) l0_2.length c0_2], .int .i64 (rd x8_4 0)] rfl (by (try simp only [ma_, mb_, mc_]); first | done | rfl | (simp only [List.length_drop, List.length_take]; rfl)) ?_; (with_reducible refine (impl_besideOf.calls k4 a0_0 a0_1 _ _ l0_2 (rd x8_4 0) t737 _ (Kd.C_mv (Kd.C_below HR0_2.out HB.out)) HC0_2.out A43.out).mono ?_); rintro e w48 ⟨v738, rfl, ho0, hb⟩; refine ⟨_, rfl, ?_⟩; refine ev6 (Kd.R_elder' (Kd.R_mv HO_3.out) (Kd.R_base ho0) hb) (Kd.Q_elder' (Kd.Q_mv HO736.out) (Kd.R_base ho0) hb) (Kd.R_lower (Kd.R_new' (Kd.R_new' ho0 (Kd.R_lt (Kd.R_mv HO_3.out))) (Kd.Q_lt (Kd.Q_mv HO736.out))) (below_size (bm HB))) (kb BK720 hb) (kb BK726 hb) (bs HB hb) ?_; clear HO_3 HO736 BK720 BK726 HB; intro HO_3 HO736 HO739 BK720 BK726 HB; (try clear hb); (try clear hb2); (try clear hk); (try clear hi); (try clear ho0); obtain ⟨Ao49, co49, eo49⟩ := Kd.R_slice HO739.out; subst eo49))
                     go_loopg [8, 61] k4 (fun kq v8 v61 w' => ∃ (x3_5 : List Int) (x8_5 : List Int) (x61_5 : Int), v61 = .int .i64 x61_5 ∧ Aside0 (impl_groupNumbers.l3 kq x3_5 x5_2 x8_5 l0_2 (l0_2.length : Int) x28_2 t737 (t737.length : Int) x61_5 a0_0 a0_1 l0_2 = some r) ∧ Aside0 (kq ≤ k4) ∧ Aside0 (Kd.R (Kd.int .i64) 3 w' w.heap.size (fun k_ => some k_ ≠ (v8 : Value).ownBlock ∧ some k_ ≠ ((.slice Ao49 t737.length co49) : Value).ownBlock) (.slice (some ⟨go35, 0, none⟩) x3_4.length co8) x3_5) ∧ Aside0 (Kd.Q (Kd.int .i64) 3 w' w.heap.size (fun k_ => some k_ ≠ ((.slice (some ⟨go35, 0, none⟩) x3_4.length co8) : Value).ownBlock ∧ some k_ ≠ ((.slice Ao49 t737.length co49) : Value).ownBlock) v8 x8_5) ∧ Aside0 (Kd.R (Kd.int .i64) 3 w' w.heap.size (fun k_ => some k_ ≠ ((.slice (some ⟨go35, 0, none⟩) x3_4.length co8) : Value).ownBlock ∧ some k_ ≠ (v8 : Value).ownBlock) (.slice Ao49 t737.length co49) t737) ∧ Aside0 (w'.heap[gb720]? = some (.cells #[.int .i64 a0_0, .int .i64 a0_1, (.slice (some ad725) l0_2.length c0_2)] 48 (0, 0))) ∧ Aside0 (w'.heap[gb726]? = some (.cells #[.int .i64 ((rd_T78 l0_2 x28_2).f0), .int .i64 ((rd_T78 l0_2 x28_2).f1)] 78 (0, 0))) ∧ Aside0 (Below w.heap.size w w'))
                     case atStart => exact ⟨(x3_4), (y734), (0), (by first | rfl | (simp; done) | (simp [*]; done)), H', ⟨Nat.le_refl _⟩, ⟨by (try simp only [hl3_1]); (try simp only [hl3_2]); (try simp only [hl3_4]); exact Kd.R_mv HO_3.out⟩, ⟨by (try simp only [hl3_1]); (try simp only [hl3_2]); (try simp only [hl3_4]); exact Kd.Q_mv HO736.out⟩, ⟨by (try simp only [hl3_1]); (try simp only [hl3_2]); (try simp only [hl3_4]); exact Kd.R_mv (Kd.R_mono HO739.out (fun _ hk => ⟨hk.1.2, hk.2⟩))⟩, ⟨by (try simp only [hl3_1]); (try simp only [hl3_2]); (try simp only [hl3_4]); exact km_ BK720⟩, ⟨by (try simp only [hl3_1]); (try simp only [hl3_2]); (try simp only [hl3_4]); exact km_ BK726⟩, ⟨bm HB⟩⟩
                     case round =>
                      clear H'
                      try clear c1
                      try clear c2
                      try clear c2b0
                      try clear c2b1
                      try clear p2
                      try clear c3
                      try clear c3b0
                      try clear c3b1
                      try clear p3
                      try clear q3
                      try clear hx3
                      try clear hf3
                      try clear c4
                      try clear q4
                      try clear p7
                      try clear q7
                      try clear hx7
                      try clear qi7
                      try clear c9
                      try clear c9b0
                      try clear c11
                      try clear c13
                      try clear c16
                      try clear c16b0
                      try clear c17
                      try clear c17b0
                      try clear c18
                      try clear c18b0
                      try clear c21
                      try clear c32
                      try clear c33
                      try clear c33b0
                      try clear c34
                      try clear c34b0
                      try clear p35
                      try clear q35
                      try clear hx35
                      try clear hf35
                      try clear c40
                      try clear c40b0
                      try clear c40b1
                      try clear c41
                      try clear c41b0
                      try clear c41b1
                      try clear c42
                      try clear c42b0
                      try clear c42b1
                      try clear c45
                      try clear q45
                      try clear c46
                      try clear hcz15_0
                      try clear hcz15_1
                      try clear hcz15_2
                      try clear hcz22_0
                      try clear hcz22_1
                      try clear hcz47_0
                      try clear hcz47_1
                      try clear hcz47_2
                      try clear hcz5_0
                      try clear hcz5_1
                      try clear hcz5_2
                      try clear hfz15_0
                      try clear hfz15_1
                      try clear hfz15_2
                      try clear hfz22_0
                      try clear hfz22_1
                      try clear hfz47_0
                      try clear hfz47_1
                      try clear hfz47_2
                      try clear hfz5_0
                      try clear hfz5_1
                      try clear hfz5_2
                      try clear hx35_0
                      try clear hx725_0
                      try clear hx725_1
                      try clear hx733_0
                      try clear p2
                      try clear p3
                      try clear p35
                      try clear p7
                      try clear p725
                      try clear p733
                      try clear q3
                      try clear q35
                      try clear q45
                      try clear q7
                      try clear q725
                      try clear q733
                      obtain ⟨x3_5, x8_5, x61_5, rfl, HA, HK5, HO_3, HO_8, HO_59, BK720, BK726, HB⟩ := hrel
                      have hl3_5 := (Kd.R_reads' HO_3.out).1
                      rw [hl3_5] at HO_3
                      (try simp only [hl3_5])
                      (try simp only [hl3_5] at BK720)
                      (try simp only [hl3_5] at BK726)
                      (try simp only [hl3_5] at HO_8)
                      (try simp only [hl3_5] at HO_59)
                      cases gk with
                      | zero => exact absurd HA.out (by simp [impl_groupNumbers.l3])
                      | succ k5 =>
                       have H := HA.out
                       clear HA
                       simp only [impl_groupNumbers.l3] at H
                       by_cases c50 : x61_5 < (t737.length : Int)
                       ·rw [if_pos c50] at H
                        have c50b0 : decide (x61_5 < (t737.length : Int)) = true := decide_eq_true c50
                        (try simp only [hl3_1] at c50b0)
                        (try simp only [hl3_2] at c50b0)
                        (try simp only [hl3_4] at c50b0)
                        (try simp only [hl3_5] at c50b0)
                        clear c50
                        by_cases c51 : 0 ≤ x61_5
                        ·rw [if_pos c51] at H
                         have c51b0 : decide (0 ≤ x61_5) = true := decide_eq_true c51
                         clear c51
                         by_cases c52 : x61_5 < (t737.length : Int)
                         ·rw [if_pos c52] at H
                          have c52b0 : decide (x61_5 < (t737.length : Int)) = true := decide_eq_true c52
                          (try simp only [hl3_1] at c52b0)
                          (try simp only [hl3_2] at c52b0)
                          (try simp only [hl3_4] at c52b0)
                          (try simp only [hl3_5] at c52b0)
                          clear c52
                          by_cases c53 : 0 ≤ (rd t737 x61_5)
                          ·rw [if_pos c53] at H
                           have c53b0 : decide (0 ≤ (rd t737 x61_5)) = true := decide_eq_true c53
                           clear c53
                           by_cases c54 : (rd t737 x61_5) < (l0_2.length : Int)
                           ·rw [if_pos c54] at H
                            have c54b0 : decide ((rd t737 x61_5) < (l0_2.length : Int)) = true := decide_eq_true c54
                            (try simp only [hl3_1] at c54b0)
                            (try simp only [hl3_2] at c54b0)
                            (try simp only [hl3_4] at c54b0)
                            (try simp only [hl3_5] at c54b0)
                            clear c54
                            replace H := Option.bind_eq_some_iff.mp H
                            obtain ⟨t742, A550, H⟩ := H
                            replace H : (if t742 = true then (if (rd t737 x61_5) < (x3_5.length : Int) then (if (rd x3_5 (rd t737 x61_5)) < 0 then (if x8_5.length < 17592186044416 then (impl_groupNumbers.l3 k5 (x3_5.set ((rd t737 x61_5) : Int).toNat x5_2) x5_2 (x8_5 ++ [rd t737 x61_5]) l0_2 (l0_2.length : Int) x28_2 t737 (t737.length : Int) (wrap64 (x61_5 + 1)) a0_0 a0_1 l0_2) else (none)) else (impl_groupNumbers.l3 k5 x3_5 x5_2 x8_5 l0_2 (l0_2.length : Int) x28_2 t737 (t737.length : Int) (wrap64 (x61_5 + 1)) a0_0 a0_1 l0_2)) else (none)) else (impl_groupNumbers.l3 k5 x3_5 x5_2 x8_5 l0_2 (l0_2.length : Int) x28_2 t737 (t737.length : Int) (wrap64 (x61_5 + 1)) a0_0 a0_1 l0_2)) = some r := H
                            have A55 := Aside0.mk A550
                            clear A550
                            by_cases c56 : t742 = true
                            ·subst c56
                             have H1 : (if (rd t737 x61_5) < (x3_5.length : Int) then (if (rd x3_5 (rd t737 x61_5)) < 0 then (if x8_5.length < 17592186044416 then (impl_groupNumbers.l3 k5 (x3_5.set ((rd t737 x61_5) : Int).toNat x5_2) x5_2 (x8_5 ++ [rd t737 x61_5]) l0_2 (l0_2.length : Int) x28_2 t737 (t737.length : Int) (wrap64 (x61_5 + 1)) a0_0 a0_1 l0_2) else (none)) else (impl_groupNumbers.l3 k5 x3_5 x5_2 x8_5 l0_2 (l0_2.length : Int) x28_2 t737 (t737.length : Int) (wrap64 (x61_5 + 1)) a0_0 a0_1 l0_2)) else (none)) = some r := by rw [if_pos rfl] at H; exact H
                             clear H
                             have H := H1
                             clear H1
                             by_cases c57 : (rd t737 x61_5) < (x3_5.length : Int)
                             ·rw [if_pos c57] at H
                              have c57b0 : decide ((rd t737 x61_5) < (x3_5.length : Int)) = true := decide_eq_true c57
                              (try simp only [hl3_1] at c57b0)
                              (try simp only [hl3_2] at c57b0)
                              (try simp only [hl3_4] at c57b0)
                              (try simp only [hl3_5] at c57b0)
                              clear c57
                              by_cases c58 : (rd x3_5 (rd t737 x61_5)) < 0
                              ·rw [if_pos c58] at H
                               have c58b0 : decide ((rd x3_5 (rd t737 x61_5)) < 0) = true := decide_eq_true c58
                               clear c58
                               obtain ⟨y744, hy744⟩ : ∃ y_ : List Int, y_ = (x3_5.set ((rd t737 x61_5) : Int).toNat x5_2) := ⟨_, rfl⟩
                               replace H : (if x8_5.length < 17592186044416 then (impl_groupNumbers.l3 k5 y744 x5_2 (x8_5 ++ [rd t737 x61_5]) l0_2 (l0_2.length : Int) x28_2 t737 (t737.length : Int) (wrap64 (x61_5 + 1)) a0_0 a0_1 l0_2) else (none)) = some r := by first | (rw [hy744]; with_reducible exact H) | (have H2_ := (Option.bind_some _ _).symm.trans H; rw [hy744]; with_reducible exact H2_) | (have H2_ := (Option.bind_some _ _).symm.trans H; with_reducible exact H2_) | with_reducible exact H | (rw [hy744]; exact H) | exact H
                               have Ny744 := Aside0.mk hy744
                               clear hy744
                               by_cases c60 : x8_5.length < 17592186044416
                               ·rw [if_pos c60] at H
                                have LMc60 := Aside0.mk c60
                                clear c60
                                obtain ⟨y745, hy745⟩ : ∃ y_ : List Int, y_ = (x8_5 ++ [rd t737 x61_5]) := ⟨_, rfl⟩
                                replace H : (impl_groupNumbers.l3 k5 y744 x5_2 y745 l0_2 (l0_2.length : Int) x28_2 t737 (t737.length : Int) (wrap64 (x61_5 + 1)) a0_0 a0_1 l0_2) = some r := by first | (rw [hy745]; with_reducible exact H) | (have H2_ := (Option.bind_some _ _).symm.trans H; rw [hy745]; with_reducible exact H2_) | (have H2_ := (Option.bind_some _ _).symm.trans H; with_reducible exact H2_) | with_reducible exact H | (rw [hy745]; exact H) | exact H
                                have Ny745 := Aside0.mk hy745
                                clear hy745
                                have H' := Aside0.mk H
                                clear H
                                have p740 : 0 ≤ (x61_5 : Int) := of_decide_eq_true (by first | (with_reducible assumption) | assumption)
                                have q740 : x61_5 < (t737.length : Int) := of_decide_eq_true (by first | (with_reducible assumption) | assumption)
                                obtain ⟨ad740, e740, hx740_0⟩ := Kd.at_int (Kd.R_reads' HO_59.out).2.2 x61_5 p740 q740
                                cases e740
                                replace p740 := eq_true p740
                                replace q740 := eq_true q740
                                have hnb61 := NB720_726.out
                                have hnc61 := NB726_720.out
                                obtain ⟨hcz62_0, hcz62_1, hcz62_2, hfz62_0, hfz62_1, hfz62_2⟩ := bt3 BK720
                                have p741 : 0 ≤ ((rd t737 x61_5) : Int) := of_decide_eq_true (by first | (with_reducible assumption) | assumption)
                                have q741 : (rd t737 x61_5) < (l0_2.length : Int) := of_decide_eq_true (by first | (with_reducible assumption) | assumption)
                                obtain ⟨ad741, e741, hx741_0, hx741_1⟩ := at_T78 HR0_2.out (rd t737 x61_5) p741 q741
                                obtain rfl : ad725 = ad741 := (by injection e741)
                                replace hx741_0 := (HB.out.cell (World.block_lt_of_cell? w _ hx741_0)).trans hx741_0
                                replace hx741_1 := (HB.out.cell (World.block_lt_of_cell? w _ hx741_1)).trans hx741_1
                                replace p741 := eq_true p741
                                replace q741 := eq_true q741
                                go_wp2_with (first | ((with_reducible refine gate_callee (f := 136) rfl ?_); refine goesL_ (some 70) rfl rfl Try.func136 (by kernel_rfl) rfl #[.agg #[.int .i64 ((rd_T78 l0_2 (rd t737 x61_5)).f0), .int .i64 ((rd_T78 l0_2 (rd t737 x61_5)).f1)]] rfl (by (try simp only [ma_, mb_, mc_]); first | done | rfl | (simp only [List.length_drop, List.length_take]; rfl)) ?_; (with_reducible refine (impl_isGeared.calls ((rd_T78 l0_2 (rd t737 x61_5)).f0) ((rd_T78 l0_2 (rd t737 x61_5)).f1) true _ A55.out).mono ?_); rintro e w63 ⟨rfl, hb⟩; refine ⟨_, rfl, ?_⟩; refine ev6 (Kd.R_below (Kd.R_mv HO_3.out) hb) (Kd.Q_below (Kd.Q_mv HO_8.out) hb) (Kd.R_below (Kd.R_mv HO_59.out) hb) (kb BK720 hb) (kb BK726 hb) (bs HB hb) ?_; clear HO_3 HO_8 HO_59 BK720 BK726 HB; intro HO_3 HO_8 HO_59 BK720 BK726 HB; (try clear hb); (try clear hb2); (try clear hk); (try clear hi); have p743 : 0 ≤ ((rd t737 x61_5) : Int) := of_decide_eq_true (by first | (with_reducible assumption) | assumption); have q743 : (rd t737 x61_5) < (x3_5.length : Int) := of_decide_eq_true (by first | (with_reducible assumption) | assumption); obtain ⟨ad743, e743, hx743_0⟩ := Kd.at_int (Kd.R_reads' HO_3.out).2.2 (rd t737 x61_5) p743 q743; obtain rfl : (⟨go35, 0, none⟩ : Addr) = ad743 := (by injection e743); (first | simp only [add_plain] at hx743_0 | simp only [add_at] at hx743_0 | simp only [Addr.add, Nat.zero_add] at hx743_0 | skip); replace p743 := eq_true p743; replace q743 := eq_true q743; have p59 : 0 ≤ ((rd t737 x61_5) : Int) := of_decide_eq_true (by first | (with_reducible assumption) | assumption); have q59 : ((rd t737 x61_5) : Int) < ((x3_5.length : Int) : Int) := of_decide_eq_true (by first | (with_reducible assumption) | assumption); obtain ⟨hx59_0, hf59_0⟩ := Kd.R_celln 0 HO_3.out ((rd t737 x61_5) : Int) p59 q59; replace p59 := eq_true p59; replace q59 := eq_true q59; obtain ⟨hy64_, hz64_⟩ := Kd.R_celln 0 HO_3.out ((rd t737 x61_5) : Int) (of_decide_eq_true (by first | (with_reducible assumption) | assumption)) (of_decide_eq_true (by first | (with_reducible assumption) | assumption)); have HP64 := Kd.R_putg HO_3.out ((rd t737 x61_5) : Int) x5_2) | ((with_reducible refine gate_store (t := 3) (p := 81) rfl ?_); refine store_event (t := 3) (p := 81) (v := ?vo_w65) (w1 := (w63.setCell ⟨go35, ((rd t737 x61_5) : Int).toNat, none⟩ (.int .i64 x5_2))) ?hg ?ho ?hn ?hr ?_; (case ho => rfl); (case hg => rfl); (case hn => rfl); (case hr => first | (go_simp; done) | (go_simp; rfl)); intro w65 hw; have hg : w63.grownBy w65 (some go35) := (by rw [hw]; exact HP64.2); have hp_ : Kd.R (Kd.int .i64) 3 w65 w.heap.size (fun k_ => some k_ ≠ (u8 : Value).ownBlock ∧ some k_ ≠ (.slice (some ad740) t737.length co49 : Value).ownBlock) (.slice (some ⟨go35, 0, none⟩) x3_5.length co8) y744 := (by rw [hw, Ny744.out]; exact HP64.1); clear HP64; refine ev6 (hp_) (Kd.Q_after (v := (.slice (some ⟨go35, 0, none⟩) x3_5.length co8)) (v1 := (.slice (some ⟨go35, 0, none⟩) x3_5.length co8)) (ok := (fun k_ => some k_ ≠ (.slice (some ad740) t737.length co49 : Value).ownBlock)) (Kd.Q_mv (Kd.Q_mono HO_8.out (fun _ hk => ⟨hk.2, hk.1⟩))) hg (.inl rfl)) (Kd.R_after (v := (.slice (some ⟨go35, 0, none⟩) x3_5.length co8)) (v1 := (.slice (some ⟨go35, 0, none⟩) x3_5.length co8)) (ok := (fun k_ => some k_ ≠ (u8 : Value).ownBlock)) (Kd.R_mv (Kd.R_mono HO_59.out (fun _ hk => ⟨hk.2, hk.1⟩))) hg (.inl rfl)) (blk_grown (km_ BK720) hg (Kd.R_ne HO_3.out BK720.out (by decide))) (blk_grown (km_ BK726) hg (Kd.R_ne HO_3.out BK726.out (by decide))) ((by rw [hw]; exact below_set (HB.out) GB35.out : Below w.heap.size w w65)) ?_; clear HO_3 HO_8 HO_59 BK720 BK726 HB; intro HO_3 HO_8 HO_59 BK720 BK726 HB; clear hg hw hp_) | ((with_reducible refine gate_builtin (b := .append) (xs := #[.tmp 82, .tmp 84]) rfl ?_); at_builtin; refine Kd.Q_append (Kd.int .i64) (w0 := w) w.heap.size rfl (.tmp 82) (.tmp 84) 22 3 (.int .i64 0) 8 rfl Try.underlying22 info3 rfl (by decide) (by omega) u8 x8_5 (rd t737 x61_5) [.int .i64 (rd t737 x61_5)] (fun k_ => some k_ ≠ (.slice (some ⟨go35, 0, none⟩) x3_5.length co8 : Value).ownBlock ∧ some k_ ≠ (.slice (some ad740) t737.length co49 : Value).ownBlock) (fun _ => False) rfl rfl ?aP (fun _ hk => hk.elim) ?aF ?aO ?aB ?aS ?aL ?_; (case aP => exact rfl); (case aB => exact (bm HB)); (case aF => exact (fun k_ hk => ⟨Kd.fresh' (Kd.R_lt (Kd.R_mv HO_3.out)) k_ hk, Kd.fresh' (Kd.R_lt (Kd.R_mv HO_59.out)) k_ hk⟩)); (case aO => exact (Kd.Q_mv (Kd.Q_mono HO_8.out (fun _ hk => ⟨hk.2, hk.1⟩)))); (case aS => exact (below_size (bm HB))); (case aL => have := LMc60.out; omega); intro v746 w66 ho hb hg hat; rw [← Ny745.out] at ho; refine ev6 (Kd.R_after (ok := (fun k_ => some k_ ≠ (.slice (some ad740) t737.length co49 : Value).ownBlock)) (Kd.R_mv (Kd.R_mono HO_3.out (fun _ hk => ⟨hk.2, hk.1⟩))) hg hat) (Kd.R_after (ok := (fun k_ => some k_ ≠ (.slice (some ⟨go35, 0, none⟩) x3_5.length co8 : Value).ownBlock)) (Kd.R_mv (Kd.R_mono HO_59.out (fun _ hk => ⟨hk.2, hk.1⟩))) hg hat) (blk_grown (km_ BK720) hg (Kd.Q_ne HO_8.out BK720.out (by decide))) (blk_grown (km_ BK726) hg (Kd.Q_ne HO_8.out BK726.out (by decide))) (hb) (ho) ?_; clear HO_3 HO_59 BK720 BK726 HB HO_8; intro HO_3 HO_59 BK720 BK726 HB HO747; clear ho hb hg hat))
                                (try simp only [← hl3_5])
                                go_roundg k5
                                case measure => have := HK1.out; have := HK2.out; have := HJ18.out; have := HK4.out; have := HK5.out; omega
                                case rel => exact ⟨(y744), (y745), (wrap64 (x61_5 + 1)), (by first | rfl | (simp; done) | (simp [*]; done)), H', ⟨by have := HK1.out; have := HK2.out; have := HJ18.out; have := HK4.out; have := HK5.out; omega⟩, ⟨by (try simp only [hl3_1]); (try simp only [hl3_2]); (try simp only [hl3_4]); (try simp only [hl3_5]); exact Kd.R_mv (Kd.R_mono HO_3.out (fun _ hk => ⟨hk.2, hk.1⟩))⟩, ⟨by (try simp only [hl3_1]); (try simp only [hl3_2]); (try simp only [hl3_4]); (try simp only [hl3_5]); exact Kd.Q_mv HO747.out⟩, ⟨by (try simp only [hl3_1]); (try simp only [hl3_2]); (try simp only [hl3_4]); (try simp only [hl3_5]); exact Kd.R_mv HO_59.out⟩, ⟨by (try simp only [hl3_1]); (try simp only [hl3_2]); (try simp only [hl3_4]); (try simp only [hl3_5]); exact km_ BK720⟩, ⟨by (try simp only [hl3_1]); (try simp only [hl3_2]); (try simp only [hl3_4]); (try simp only [hl3_5]); exact km_ BK726⟩, ⟨bm HB⟩⟩
                               ·rw [if_neg c60] at H
                                exact absurd H (by simp)
                              ·rw [if_neg c58] at H
                               have c58b0 : decide ((rd x3_5 (rd t737 x61_5)) < 0) = false := decide_eq_false c58
                               clear c58
                               have H' := Aside0.mk H
                               clear H
                               have p740 : 0 ≤ (x61_5 : Int) := of_decide_eq_true (by first | (with_reducible assumption) | assumption)
                               have q740 : x61_5 < (t737.length : Int) := of_decide_eq_true (by first | (with_reducible assumption) | assumption)
                               obtain ⟨ad740, e740, hx740_0⟩ := Kd.at_int (Kd.R_reads' HO_59.out).2.2 x61_5 p740 q740
                               cases e740
                               replace p740 := eq_true p740
                               replace q740 := eq_true q740
                               have hnb67 := NB720_726.out
                               have hnc67 := NB726_720.out
                               obtain ⟨hcz68_0, hcz68_1, hcz68_2, hfz68_0, hfz68_1, hfz68_2⟩ := bt3 BK720
                               have p741 : 0 ≤ ((rd t737 x61_5) : Int) := of_decide_eq_true (by first | (with_reducible assumption) | assumption)
                               have q741 : (rd t737 x61_5) < (l0_2.length : Int) := of_decide_eq_true (by first | (with_reducible assumption) | assumption)
                               obtain ⟨ad741, e741, hx741_0, hx741_1⟩ := at_T78 HR0_2.out (rd t737 x61_5) p741 q741
                               obtain rfl : ad725 = ad741 := (by injection e741)
                               replace hx741_0 := (HB.out.cell (World.block_lt_of_cell? w _ hx741_0)).trans hx741_0
                               replace hx741_1 := (HB.out.cell (World.block_lt_of_cell? w _ hx741_1)).trans hx741_1
                               replace p741 := eq_true p741
                               replace q741 := eq_true q741
                               go_wp2_with (first | ((with_reducible refine gate_callee (f := 136) rfl ?_); refine goesL_ (some 70) rfl rfl Try.func136 (by kernel_rfl) rfl #[.agg #[.int .i64 ((rd_T78 l0_2 (rd t737 x61_5)).f0), .int .i64 ((rd_T78 l0_2 (rd t737 x61_5)).f1)]] rfl (by (try simp only [ma_, mb_, mc_]); first | done | rfl | (simp only [List.length_drop, List.length_take]; rfl)) ?_; (with_reducible refine (impl_isGeared.calls ((rd_T78 l0_2 (rd t737 x61_5)).f0) ((rd_T78 l0_2 (rd t737 x61_5)).f1) true _ A55.out).mono ?_); rintro e w69 ⟨rfl, hb⟩; refine ⟨_, rfl, ?_⟩; refine ev6 (Kd.R_below (Kd.R_mv HO_3.out) hb) (Kd.Q_below (Kd.Q_mv HO_8.out) hb) (Kd.R_below (Kd.R_mv HO_59.out) hb) (kb BK720 hb) (kb BK726 hb) (bs HB hb) ?_; clear HO_3 HO_8 HO_59 BK720 BK726 HB; intro HO_3 HO_8 HO_59 BK720 BK726 HB; (try clear hb); (try clear hb2); (try clear hk); (try clear hi); have p743 : 0 ≤ ((rd t737 x61_5) : Int) := of_decide_eq_true (by first | (with_reducible assumption) | assumption); have q743 : (rd t737 x61_5) < (x3_5.length : Int) := of_decide_eq_true (by first | (with_reducible assumption) | assumption); obtain ⟨ad743, e743, hx743_0⟩ := Kd.at_int (Kd.R_reads' HO_3.out).2.2 (rd t737 x61_5) p743 q743; obtain rfl : (⟨go35, 0, none⟩ : Addr) = ad743 := (by injection e743); (first | simp only [add_plain] at hx743_0 | simp only [add_at] at hx743_0 | simp only [Addr.add, Nat.zero_add] at hx743_0 | skip); replace p743 := eq_true p743; replace q743 := eq_true q743))
                               (try simp only [← hl3_5])
                               go_roundg k5
                               case measure => have := HK1.out; have := HK2.out; have := HJ18.out; have := HK4.out; have := HK5.out; omega
                               case rel => exact ⟨(x3_5), (x8_5), (wrap64 (x61_5 + 1)), (by first | rfl | (simp; done) | (simp [*]; done)), H', ⟨by have := HK1.out; have := HK2.out; have := HJ18.out; have := HK4.out; have := HK5.out; omega⟩, ⟨by (try simp only [hl3_1]); (try simp only [hl3_2]); (try simp only [hl3_4]); (try simp only [hl3_5]); exact Kd.R_mv HO_3.out⟩, ⟨by (try simp only [hl3_1]); (try simp only [hl3_2]); (try simp only [hl3_4]); (try simp only [hl3_5]); exact Kd.Q_mv HO_8.out⟩, ⟨by (try simp only [hl3_1]); (try simp only [hl3_2]); (try simp only [hl3_4]); (try simp only [hl3_5]); exact Kd.R_mv HO_59.out⟩, ⟨by (try simp only [hl3_1]); (try simp only [hl3_2]); (try simp only [hl3_4]); (try simp only [hl3_5]); exact km_ BK720⟩, ⟨by (try simp only [hl3_1]); (try simp only [hl3_2]); (try simp only [hl3_4]); (try simp only [hl3_5]); exact km_ BK726⟩, ⟨bm HB⟩⟩
                             ·rw [if_neg c57] at H
                              exact absurd H (by simp)
                            ·replace c56 := Bool.eq_false_iff.mpr c56
                             subst c56
                             have H1 : (impl_groupNumbers.l3 k5 x3_5 x5_2 x8_5 l0_2 (l0_2.length : Int) x28_2 t737 (t737.length : Int) (wrap64 (x61_5 + 1)) a0_0 a0_1 l0_2) = some r := by rw [if_neg (show ¬ (false = true) by decide)] at H; exact H
                             clear H
                             have H := H1
                             clear H1
                             have H' := Aside0.mk H
                             clear H
                             have p740 : 0 ≤ (x61_5 : Int) := of_decide_eq_true (by first | (with_reducible assumption) | assumption)
                             have q740 : x61_5 < (t737.length : Int) := of_decide_eq_true (by first | (with_reducible assumption) | assumption)
                             obtain ⟨ad740, e740, hx740_0⟩ := Kd.at_int (Kd.R_reads' HO_59.out).2.2 x61_5 p740 q740
                             cases e740
                             replace p740 := eq_true p740
                             replace q740 := eq_true q740
                             have hnb70 := NB720_726.out
                             have hnc70 := NB726_720.out
                             obtain ⟨hcz71_0, hcz71_1, hcz71_2, hfz71_0, hfz71_1, hfz71_2⟩ := bt3 BK720
                             have p741 : 0 ≤ ((rd t737 x61_5) : Int) := of_decide_eq_true (by first | (with_reducible assumption) | assumption)
                             have q741 : (rd t737 x61_5) < (l0_2.length : Int) := of_decide_eq_true (by first | (with_reducible assumption) | assumption)
                             obtain ⟨ad741, e741, hx741_0, hx741_1⟩ := at_T78 HR0_2.out (rd t737 x61_5) p741 q741
                             obtain rfl : ad725 = ad741 := (by injection e741)
                             replace hx741_0 := (HB.out.cell (World.block_lt_of_cell? w _ hx741_0)).trans hx741_0
                             replace hx741_1 := (HB.out.cell (World.block_lt_of_cell? w _ hx741_1)).trans hx741_1
                             replace p741 := eq_true p741
                             replace q741 := eq_true q741
                             go_wp2_with (first | ((with_reducible refine gate_callee (f := 136) rfl ?_); refine goesL_ (some 70) rfl rfl Try.func136 (by kernel_rfl) rfl #[.agg #[.int .i64 ((rd_T78 l0_2 (rd t737 x61_5)).f0), .int .i64 ((rd_T78 l0_2 (rd t737 x61_5)).f1)]] rfl (by (try simp only [ma_, mb_, mc_]); first | done | rfl | (simp only [List.length_drop, List.length_take]; rfl)) ?_; (with_reducible refine (impl_isGeared.calls ((rd_T78 l0_2 (rd t737 x61_5)).f0) ((rd_T78 l0_2 (rd t737 x61_5)).f1) false _ A55.out).mono ?_); rintro e w72 ⟨rfl, hb⟩; refine ⟨_, rfl, ?_⟩; refine ev6 (Kd.R_below (Kd.R_mv HO_3.out) hb) (Kd.Q_below (Kd.Q_mv HO_8.out) hb) (Kd.R_below (Kd.R_mv HO_59.out) hb) (kb BK720 hb) (kb BK726 hb) (bs HB hb) ?_; clear HO_3 HO_8 HO_59 BK720 BK726 HB; intro HO_3 HO_8 HO_59 BK720 BK726 HB; (try clear hb); (try clear hb2); (try clear hk); (try clear hi)))
                             (try simp only [← hl3_5])
                             go_roundg k5
                             case measure => have := HK1.out; have := HK2.out; have := HJ18.out; have := HK4.out; have := HK5.out; omega
                             case rel => exact ⟨(x3_5), (x8_5), (wrap64 (x61_5 + 1)), (by first | rfl | (simp; done) | (simp [*]; done)), H', ⟨by have := HK1.out; have := HK2.out; have := HJ18.out; have := HK4.out; have := HK5.out; omega⟩, ⟨by (try simp only [hl3_1]); (try simp only [hl3_2]); (try simp only [hl3_4]); (try simp only [hl3_5]); exact Kd.R_mv HO_3.out⟩, ⟨by (try simp only [hl3_1]); (try simp only [hl3_2]); (try simp only [hl3_4]); (try simp only [hl3_5]); exact Kd.Q_mv HO_8.out⟩, ⟨by (try simp only [hl3_1]); (try simp only [hl3_2]); (try simp only [hl3_4]); (try simp only [hl3_5]); exact Kd.R_mv HO_59.out⟩, ⟨by (try simp only [hl3_1]); (try simp only [hl3_2]); (try simp only [hl3_4]); (try simp only [hl3_5]); exact km_ BK720⟩, ⟨by (try simp only [hl3_1]); (try simp only [hl3_2]); (try simp only [hl3_4]); (try simp only [hl3_5]); exact km_ BK726⟩, ⟨bm HB⟩⟩
                           ·rw [if_neg c54] at H
                            exact absurd H (by simp)
                          ·rw [if_neg c53] at H
                           exact absurd H (by simp)
                         ·rw [if_neg c52] at H
                          exact absurd H (by simp)
                        ·rw [if_neg c51] at H
                         exact absurd H (by simp)
                       ·rw [if_neg c50] at H
                        have c50b0 : decide (x61_5 < (t737.length : Int)) = false := decide_eq_false c50
                        (try simp only [hl3_1] at c50b0)
                        (try simp only [hl3_2] at c50b0)
                        (try simp only [hl3_4] at c50b0)
                        (try simp only [hl3_5] at c50b0)
                        clear c50
                        have H' := Aside0.mk H
                        clear H
                        go_wp2
                        (try simp only [← hl3_4, ← hl3_5])
                        go_roundg k5
                        case measure => have := HK1.out; have := HK2.out; have := HJ18.out; have := HK4.out; have := HK5.out; omega
                        case rel => exact ⟨(x3_5), (x8_5), H', ⟨by have := HK1.out; have := HK2.out; have := HJ18.out; have := HK4.out; have := HK5.out; omega⟩, ⟨by (try simp only [hl3_1]); (try simp only [hl3_2]); (try simp only [hl3_4]); (try simp only [hl3_5]); exact Kd.R_mv (Kd.R_mono HO_3.out (fun _ hk => hk.1))⟩, ⟨by (try simp only [hl3_1]); (try simp only [hl3_2]); (try simp only [hl3_4]); (try simp only [hl3_5]); exact Kd.Q_mv (Kd.Q_mono HO_8.out (fun _ hk => hk.1))⟩, ⟨by (try simp only [hl3_1]); (try simp only [hl3_2]); (try simp only [hl3_4]); (try simp only [hl3_5]); exact km_ BK720⟩, ⟨by (try simp only [hl3_1]); (try simp only [hl3_2]); (try simp only [hl3_4]); (try simp only [hl3_5]); exact km_ BK726⟩, ⟨bm HB⟩⟩
                    ·rw [if_neg c42] at H
                     exact absurd H (by simp)
                   ·rw [if_neg c41] at H
                    exact absurd H (by simp)
                  ·rw [if_neg c40] at H
                   have c40b0 : decide (0 < (x8_4.length : Int)) = false := decide_eq_false c40
                   have c40b1 : decide (0 < x8_4.length) = false := decide_eq_false (by omega)
                   (try simp only [hl3_1] at c40b0 c40b1)
                   (try simp only [hl3_2] at c40b0 c40b1)
                   (try simp only [hl3_4] at c40b0 c40b1)
                   clear c40
                   have H' := Aside0.mk H
                   clear H
                   obtain ⟨Ao73, co73, eo73, _⟩ := Kd.Q_slice HO_8.out
                   subst eo73
                   go_wp2
                   (try simp only [← hl3_2, ← hl3_4])
                   go_roundg k4
                   case measure => have := HK1.out; have := HK2.out; have := HJ18.out; have := HK4.out; omega
                   case rel => exact ⟨(x3_4), (wrap64 (x5_2 + 1)), (wrap64 (x28_2 + 1)), (by first | rfl | (simp; done) | (simp [*]; done)), (by first | rfl | (simp; done) | (simp [*]; done)), H', ⟨by have := HK1.out; have := HK2.out; have := HJ18.out; have := HK4.out; omega⟩, ⟨by (try simp only [hl3_1]); (try simp only [hl3_2]); (try simp only [hl3_4]); exact Kd.R_mv (Kd.R_mono (ok' := fun k_ => True) HO_3.out (fun _ hk => trivial))⟩, ⟨by (try simp only [hl3_1]); (try simp only [hl3_2]); (try simp only [hl3_4]); exact km_ BK720⟩, ⟨bm HB⟩⟩
               ·rw [if_neg c34] at H
                exact absurd H (by simp)
              ·rw [if_neg c33] at H
               exact absurd H (by simp)
          ·rw [if_neg c18] at H
           exact absurd H (by simp)
         ·rw [if_neg c17] at H
          exact absurd H (by simp)
        ·rw [if_neg c16] at H
         have c16b0 : decide (x28_2 < (l0_2.length : Int)) = false := decide_eq_false c16
         (try simp only [hl3_1] at c16b0)
         (try simp only [hl3_2] at c16b0)
         clear c16
         obtain rfl := Option.some.inj H
         go_wp2
         go_ret
         exact ⟨_, by first | rfl | (simp [e0_, e1_] <;> rfl) | (simp [*, e0_, e1_] <;> rfl), Kd.R_mv HO_3.out, bm HB⟩
  ·rw [if_neg c3] at H
   exact absurd H (by simp)
 ·rw [if_neg c2] at H
  exact absurd H (by simp)
end Go.Proofs.Ytjogiiobaakjkaa.F
