-- Written by a program of this session (a patched print) out of the translation; Lean checks it.
import Derived.Test.YtjogiiobaakjkaaF0
import Derived.Test.YtjogiiobaakjkaaF7
import Derived.Test.YtjogiiobaakjkaaF8
import Derived.Test.YtjogiiobaakjkaaF9
import Derived.Test.YtjogiiobaakjkaaF12
import Derived.Test.YtjogiiobaakjkaaF20
namespace Go.Proofs.Ytjogiiobaakjkaa.F
open Go.RowKit Go.Proofs.YtjogiiobaakjkaaV.PrintWords Go.Proofs.YtjogiiobaakjkaaV.PrintLast Go.Proofs.YtjogiiobaakjkaaV.PrintMore
attribute [local go_sem] max2_int min2_int max_two min_two max_three min_three max_four min_four
attribute [local go_sem] Try.underlying30 Try.underlying35 Try.underlying44 Try.underlying48 Try.underlying62 Try.underlying66 Try.underlying78 Try.underlying90 Try.underlying112
set_option linter.unusedVariables false
set_option linter.unusedSimpArgs false

/-! ### spec_l1Put: function 138 -/
def spec_l1Put.l0 : Nat → List Int → Int → Int → Option (List Int)
 | 0, _, _, _ => none
 | k + 1, x0, x1, x5 => if x5 < (x0.length : Int) then (if 0 ≤ x5 then (if (rd x0 x5) < x1 then (spec_l1Put.l0 k x0 x1 (wrap64 (x5 + 1))) else (if (rd x0 x5) = x1 then (some x0) else ((some (([] : List Int) : List Int)).bind fun y1007 => (if x5 ≤ (x0.length : Int) then ((some (x0.take (x5 : Int).toNat : List Int)).bind fun y1010 => (if y1007.length + y1010.length < 17592186044416 then ((some (y1007 ++ y1010 : List Int)).bind fun y1014 => (if y1014.length < 17592186044416 then ((some (y1014 ++ [x1] : List Int)).bind fun y1017 => ((some (x0.drop (x5 : Int).toNat : List Int)).bind fun y1020 => (if y1017.length + y1020.length < 17592186044416 then (some (y1017 ++ y1020)) else (none)))) else (none))) else (none))) else (none))))) else (none)) else ((some (([] : List Int) : List Int)).bind fun y1027 => (if 0 ≤ x5 then (if x5 ≤ (x0.length : Int) then ((some (x0.take (x5 : Int).toNat : List Int)).bind fun y1030 => (if y1027.length + y1030.length < 17592186044416 then ((some (y1027 ++ y1030 : List Int)).bind fun y1034 => (if y1034.length < 17592186044416 then ((some (y1034 ++ [x1] : List Int)).bind fun y1037 => ((some (x0.drop (x5 : Int).toNat : List Int)).bind fun y1040 => (if y1037.length + y1040.length < 17592186044416 then (some (y1037 ++ y1040)) else (none)))) else (none))) else (none))) else (none)) else (none)))
def spec_l1Put.f (k : Nat) (l0 : List Int) (a1 : Int) : Option (List Int) := spec_l1Put.l0 k l0 a1 0
set_option maxHeartbeats 8000000 in
set_option maxRecDepth 100000 in
theorem spec_l1Put.calls (k : Nat) (P0_ : Nat → Prop) (u9000_ : Value) (l0 : List Int) (a1 : Int) (r : List Int) (w0 w : World) (hB : Below w0.heap.size w0 w) (ho0 : Kd.R (Kd.int .i64) 3 w w0.heap.size P0_ u9000_ l0) (h : spec_l1Put.f k l0 a1 = some r) :
  Calls Try.prog 138 #[u9000_, .int .i64 a1] w fun e w' => ∃ v0_ : Value, e = .returned (v0_) ∧ Kd.R (Kd.int .i64) 3 w' w0.heap.size (fun k_ => (P0_ k_ ∨ w.heap.size ≤ k_)) v0_ r ∧ Below w0.heap.size w0 w' ∧ Kept w w' (fun k_ => P0_ k_) := by
 have HO0 := Aside0.mk (show Kd.R (Kd.int .i64) 3 w w0.heap.size (fun k_ => (P0_ k_ ∨ w.heap.size ≤ k_)) u9000_ l0 from Kd.R_mono ho0 (fun k_ hk => (.inl hk)))
 have HK := Aside0.mk (Kept.refl w (fun k_ => P0_ k_))
 have HW0 := Aside0.mk hB.size
 have HB := Aside0.mk hB
 clear hB
 have H : (spec_l1Put.l0 k l0 a1 0) = some r := h
 clear h
 have H' := Aside0.mk H
 clear H
 go_enter Try.func138, Try.ntmps138
 go_wp2
 go_loopg [5] k (fun kq v5 w' => ∃ (x5_1 : Int), v5 = .int .i64 x5_1 ∧ Aside0 (spec_l1Put.l0 kq l0 a1 x5_1 = some r) ∧ Aside0 (kq ≤ k) ∧ Aside0 (Kd.R (Kd.int .i64) 3 w' w0.heap.size (fun k_ => (P0_ k_ ∨ w.heap.size ≤ k_)) u9000_ l0) ∧ Aside0 (Kept w w' (fun k_ => P0_ k_)) ∧ Aside0 (Below w0.heap.size w0 w'))
 case atStart => exact ⟨(0), (by first | rfl | (simp; done) | (simp [*]; done)), H', ⟨Nat.le_refl _⟩, ⟨Kd.R_mv HO0.out⟩, ⟨km HK⟩, ⟨bm HB⟩⟩
 case round =>
  clear H'
  try clear c1
  try clear p2
  obtain ⟨x5_1, rfl, HA, HK1, HO_0, HK, HB⟩ := hrel
  cases gk with
  | zero => exact absurd HA.out (by simp [spec_l1Put.l0])
  | succ k1 =>
   have H := HA.out
   clear HA
   simp only [spec_l1Put.l0] at H
   by_cases c3 : x5_1 < (l0.length : Int)
   ·rw [if_pos c3] at H
    have c3b0 : decide (x5_1 < (l0.length : Int)) = true := decide_eq_true c3
    clear c3
    by_cases c4 : 0 ≤ x5_1
    ·rw [if_pos c4] at H
     have c4b0 : decide (0 ≤ x5_1) = true := decide_eq_true c4
     clear c4
     by_cases c5 : (rd l0 x5_1) < a1
     ·rw [if_pos c5] at H
      have c5b0 : decide ((rd l0 x5_1) < a1) = true := decide_eq_true c5
      clear c5
      have H' := Aside0.mk H
      clear H
      obtain ⟨Ao6, co6, eo6⟩ := Kd.R_slice HO_0.out
      subst eo6
      have p1005 : 0 ≤ (x5_1 : Int) := of_decide_eq_true (by first | (with_reducible assumption) | assumption)
      have q1005 : x5_1 < (l0.length : Int) := of_decide_eq_true (by first | (with_reducible assumption) | assumption)
      obtain ⟨ad1005, e1005, hx1005_0⟩ := Kd.at_int (Kd.R_reads' HO_0.out).2.2 x5_1 p1005 q1005
      cases e1005
      replace p1005 := eq_true p1005
      replace q1005 := eq_true q1005
      go_wp2
      go_roundg k1
      case measure => have := HK1.out; omega
      case rel => exact ⟨(wrap64 (x5_1 + 1)), (by first | rfl | (simp; done) | (simp [*]; done)), H', ⟨by have := HK1.out; omega⟩, ⟨Kd.R_mv HO_0.out⟩, ⟨km HK⟩, ⟨bm HB⟩⟩
     ·rw [if_neg c5] at H
      have c5b0 : decide ((rd l0 x5_1) < a1) = false := decide_eq_false c5
      clear c5
      by_cases c7 : (rd l0 x5_1) = a1
      ·rw [if_pos c7] at H
       have c7b0 : ((rd l0 x5_1) == a1) = true := beq_iff_eq.mpr c7
       have c7b1 : ((rd l0 x5_1) != a1) = false := bne_eq_false_iff_eq.mpr c7
       clear c7
       obtain rfl := Option.some.inj H
       obtain ⟨Ao8, co8, eo8⟩ := Kd.R_slice HO_0.out
       subst eo8
       have p1005 : 0 ≤ (x5_1 : Int) := of_decide_eq_true (by first | (with_reducible assumption) | assumption)
       have q1005 : x5_1 < (l0.length : Int) := of_decide_eq_true (by first | (with_reducible assumption) | assumption)
       obtain ⟨ad1005, e1005, hx1005_0⟩ := Kd.at_int (Kd.R_reads' HO_0.out).2.2 x5_1 p1005 q1005
       cases e1005
       replace p1005 := eq_true p1005
       replace q1005 := eq_true q1005
       have p1006 : 0 ≤ (x5_1 : Int) := of_decide_eq_true (by first | (with_reducible assumption) | assumption)
       have q1006 : x5_1 < (l0.length : Int) := of_decide_eq_true (by first | (with_reducible assumption) | assumption)
       obtain ⟨ad1006, e1006, hx1006_0⟩ := Kd.at_int (Kd.R_reads' HO_0.out).2.2 x5_1 p1006 q1006
       obtain rfl : ad1005 = ad1006 := (by injection e1006)
       replace p1006 := eq_true p1006
       replace q1006 := eq_true q1006
       go_wp2
       go_ret
       exact ⟨_, by first | rfl | (simp [e0_, e1_] <;> rfl) | (simp [*, e0_, e1_] <;> rfl), Kd.R_mv HO_0.out, bm HB, km HK⟩
      ·rw [if_neg c7] at H
       have c7b0 : ((rd l0 x5_1) == a1) = false := beq_eq_false_iff_ne.mpr c7
       have c7b1 : ((rd l0 x5_1) != a1) = true := bne_iff_ne.mpr c7
       obtain ⟨y1007, hy1007⟩ : ∃ y_ : List Int, y_ = (([] : List Int)) := ⟨_, rfl⟩
       replace H : (if x5_1 ≤ (l0.length : Int) then ((some (l0.take (x5_1 : Int).toNat : List Int)).bind fun y1010 => (if y1007.length + y1010.length < 17592186044416 then ((some (y1007 ++ y1010 : List Int)).bind fun y1014 => (if y1014.length < 17592186044416 then ((some (y1014 ++ [a1] : List Int)).bind fun y1017 => ((some (l0.drop (x5_1 : Int).toNat : List Int)).bind fun y1020 => (if y1017.length + y1020.length < 17592186044416 then (some (y1017 ++ y1020)) else (none)))) else (none))) else (none))) else (none)) = some r := by first | (rw [hy1007]; with_reducible exact H) | (have H2_ := (Option.bind_some _ _).symm.trans H; rw [hy1007]; with_reducible exact H2_) | (have H2_ := (Option.bind_some _ _).symm.trans H; with_reducible exact H2_) | with_reducible exact H | (rw [hy1007]; exact H) | exact H
       have Ny1007 := Aside0.mk hy1007
       clear hy1007
       have c9b0 := eq_true (of_decide_eq_true (by first | (with_reducible assumption) | assumption) : 0 ≤ x5_1)
       by_cases c10 : x5_1 ≤ (l0.length : Int)
       ·rw [if_pos c10] at H
        have c10b0 := eq_true c10
        have c10b1 : decide (x5_1 ≤ (l0.length : Int)) = true := decide_eq_true c10
        clear c10
        obtain ⟨y1010, hy1010⟩ : ∃ y_ : List Int, y_ = (l0.take (x5_1 : Int).toNat) := ⟨_, rfl⟩
        replace H : (if y1007.length + y1010.length < 17592186044416 then ((some (y1007 ++ y1010 : List Int)).bind fun y1014 => (if y1014.length < 17592186044416 then ((some (y1014 ++ [a1] : List Int)).bind fun y1017 => ((some (l0.drop (x5_1 : Int).toNat : List Int)).bind fun y1020 => (if y1017.length + y1020.length < 17592186044416 then (some (y1017 ++ y1020)) else (none)))) else (none))) else (none)) = some r := by first | (rw [hy1010]; with_reducible exact H) | (have H2_ := (Option.bind_some _ _).symm.trans H; rw [hy1010]; with_reducible exact H2_) | (have H2_ := (Option.bind_some _ _).symm.trans H; with_reducible exact H2_) | with_reducible exact H | (rw [hy1010]; exact H) | exact H
        have Ny1010 := Aside0.mk hy1010
        clear hy1010
        by_cases c11 : y1007.length + y1010.length < 17592186044416
        ·rw [if_pos c11] at H
         have LMc11 := Aside0.mk c11
         clear c11
         obtain ⟨y1014, hy1014⟩ : ∃ y_ : List Int, y_ = (y1007 ++ y1010) := ⟨_, rfl⟩
         replace H : (if y1014.length < 17592186044416 then ((some (y1014 ++ [a1] : List Int)).bind fun y1017 => ((some (l0.drop (x5_1 : Int).toNat : List Int)).bind fun y1020 => (if y1017.length + y1020.length < 17592186044416 then (some (y1017 ++ y1020)) else (none)))) else (none)) = some r := by first | (rw [hy1014]; with_reducible exact H) | (have H2_ := (Option.bind_some _ _).symm.trans H; rw [hy1014]; with_reducible exact H2_) | (have H2_ := (Option.bind_some _ _).symm.trans H; with_reducible exact H2_) | with_reducible exact H | (rw [hy1014]; exact H) | exact H
         have Ny1014 := Aside0.mk hy1014
         clear hy1014
         by_cases c12 : y1014.length < 17592186044416
         ·rw [if_pos c12] at H
          have LMc12 := Aside0.mk c12
          clear c12
          obtain ⟨y1017, hy1017⟩ : ∃ y_ : List Int, y_ = (y1014 ++ [a1]) := ⟨_, rfl⟩
          replace H : ((some (l0.drop (x5_1 : Int).toNat : List Int)).bind fun y1020 => (if y1017.length + y1020.length < 17592186044416 then (some (y1017 ++ y1020)) else (none))) = some r := by first | (rw [hy1017]; with_reducible exact H) | (have H2_ := (Option.bind_some _ _).symm.trans H; rw [hy1017]; with_reducible exact H2_) | (have H2_ := (Option.bind_some _ _).symm.trans H; with_reducible exact H2_) | with_reducible exact H | (rw [hy1017]; exact H) | exact H
          have Ny1017 := Aside0.mk hy1017
          clear hy1017
          have c13b0 := eq_true (of_decide_eq_true (by first | (with_reducible assumption) | assumption) : 0 ≤ x5_1)
          have c14b0 := eq_true (of_decide_eq_true (by first | (with_reducible assumption) | assumption) : x5_1 ≤ (l0.length : Int))
          obtain ⟨y1020, hy1020⟩ : ∃ y_ : List Int, y_ = (l0.drop (x5_1 : Int).toNat) := ⟨_, rfl⟩
          replace H : (if y1017.length + y1020.length < 17592186044416 then (some (y1017 ++ y1020)) else (none)) = some r := by first | (rw [hy1020]; with_reducible exact H) | (have H2_ := (Option.bind_some _ _).symm.trans H; rw [hy1020]; with_reducible exact H2_) | (have H2_ := (Option.bind_some _ _).symm.trans H; with_reducible exact H2_) | with_reducible exact H | (rw [hy1020]; exact H) | exact H
          have Ny1020 := Aside0.mk hy1020
          clear hy1020
          by_cases c15 : y1017.length + y1020.length < 17592186044416
          ·rw [if_pos c15] at H
           have LMc15 := Aside0.mk c15
           clear c15
           obtain ⟨y1024, hy1024⟩ : ∃ y_ : List Int, y_ = (y1017 ++ y1020) := ⟨_, rfl⟩
           replace H : (some y1024) = some r := by first | (rw [hy1024]; with_reducible exact H) | (have H2_ := (Option.bind_some _ _).symm.trans H; rw [hy1024]; with_reducible exact H2_) | (have H2_ := (Option.bind_some _ _).symm.trans H; with_reducible exact H2_) | with_reducible exact H | (rw [hy1024]; exact H) | exact H
           have Ny1024 := Aside0.mk hy1024
           clear hy1024
           obtain rfl := Option.some.inj H
           obtain ⟨Ao16, co16, eo16⟩ := Kd.R_slice HO_0.out
           subst eo16
           have p1005 : 0 ≤ (x5_1 : Int) := of_decide_eq_true (by first | (with_reducible assumption) | assumption)
           have q1005 : x5_1 < (l0.length : Int) := of_decide_eq_true (by first | (with_reducible assumption) | assumption)
           obtain ⟨ad1005, e1005, hx1005_0⟩ := Kd.at_int (Kd.R_reads' HO_0.out).2.2 x5_1 p1005 q1005
           cases e1005
           replace p1005 := eq_true p1005
           replace q1005 := eq_true q1005
           have p1006 : 0 ≤ (x5_1 : Int) := of_decide_eq_true (by first | (with_reducible assumption) | assumption)
           have q1006 : x5_1 < (l0.length : Int) := of_decide_eq_true (by first | (with_reducible assumption) | assumption)
           obtain ⟨ad1006, e1006, hx1006_0⟩ := Kd.at_int (Kd.R_reads' HO_0.out).2.2 x5_1 p1006 q1006
           obtain rfl : ad1005 = ad1006 := (by injection e1006)
           replace p1006 := eq_true p1006
           replace q1006 := eq_true q1006
           go_wp2_with (first | ((with_reducible refine gate_dst (N := 34) rfl ?_); refine Kd.R_lit (Kd.int .i64) _ 3 ?hg (N := 34) ?hd (xs := ([] : List Int)) (inner := []) (ok := fun _ => True) (okp := fun _ => True) ?hr ?hp (fun _ hk => hk) trivial (Below.refl _ _) (Nat.le_refl _) (by simp) ?_; (case hd => rfl); (case hg => rfl); (case hr => first | (go_simp; done) | (go_simp; rfl)); (case hp => exact (Reps.none _ _)); intro v1008 w17 ho18 hb hg_ hnew_; clear hg_ hnew_; (first | rw [← Ny1007.out] at ho18 | (simp only [Int.reduceToNat] at ho18; rw [← Ny1007.out] at ho18)); refine ev4 (Kd.R_elder' (Kd.R_mv HO_0.out) (Kd.R_base ho18) hb) (Kd.R_lower (Kd.R_new' (Kd.R_newM (M := fun k_ => (P0_ k_ ∨ w.heap.size ≤ k_)) ho18 (by first | exact HK.out.1 | exact (show Kept w _ (fun k_ => P0_ k_) from km HK).1) (fun k_ h_ => .inr h_)) (Kd.R_lt (Kd.R_mv HO_0.out))) (below_size (bm HB))) (Kept.below (S := (fun k_ => P0_ k_)) (km HK) hb) (bs HB hb) ?_; clear HO_0 HK HB; intro HO_0 HO1009 HK HB; clear hb ho18; have q19 : (x5_1 : Int) ≤ ((l0.length : Int) : Int) := of_decide_eq_true (by first | (with_reducible assumption) | assumption); obtain ⟨i019, hi019, _, hsz19, _⟩ := info_parts info3; have hroom19 : l0.length ≤ co16 := (Kd.R_reads' HO_0.out).2.1; have hC19 : Kd.C (Kd.int .i64) _ (some ad1005) l0.length l0 := (Kd.R_reads' HO_0.out).2.2; have hcut19 := cut_to (P := Try.prog) 22 3 .i64 Try.underlying22 hi019 (some ad1005) l0.length co16 x5_1 (of_decide_eq_true (by first | (with_reducible assumption) | assumption)) q19 hroom19; have hr19 := Kd.C_take (m := (x5_1 : Int).toNat) hC19 (by omega); have hy19 : y1010.length = (x5_1 : Int).toNat := (by rw [Ny1010.out, List.length_take]; omega); rw [← Ny1010.out] at hr19; rw [← hy19] at hcut19; have HR1013 := Aside0.mk hr19; have HC1013 := Aside0.mk (show y1010.length ≤ co16 from by omega); clear hr19 hC19 hroom19 hi019 hsz19; have KY19 := Aside0.mk hy19; clear hy19; have KL19 := Aside0.mk (show (x5_1 : Int).toNat ≤ l0.length from by omega); replace q19 := eq_true q19) | ((with_reducible refine gate_builtin (b := .append) (xs := #[.tmp 34, .tmp 37]) rfl ?_); at_builtin; refine Kd.R_append_rows (Kd.int .i64) (w0 := w0) w0.heap.size rfl (.tmp 34) (.tmp 37) 22 3 (.int .i64 0) 8 rfl Try.underlying22 info3 rfl (by decide) (by omega) v1008 y1007 y1010 _ _ _ (fun k_ => (P0_ k_ ∨ w.heap.size ≤ k_) ∧ some k_ ≠ (.slice (some ad1005) l0.length co16 : Value).ownBlock) (fun _ => False) rfl rfl ?aO ?aR (fun _ _ h => h) (fun _ h => h.elim) ?aF ?aB ?aS ?aL ?_; (case aR => exact Kd.C_mv (by repeat (first | (with_reducible exact HR1013.out) | (with_reducible refine Kd.C_alloc ?_ _) | (with_reducible refine Kd.C_drewN ?_ _) | (with_reducible refine Kd.C_drew ?_) | exact HR1013.out))); (case aB => exact (bm HB)); (case aF => exact (fun k_ hk => ⟨(.inr (Nat.le_trans (by first | exact HK.out.1 | exact (show Kept w _ (fun k_ => P0_ k_) from km HK).1) hk)), Kd.fresh' (Kd.R_lt (Kd.R_mv HO_0.out)) k_ hk⟩)); (case aO => exact (Kd.R_mv (Kd.R_mono HO1009.out (fun _ hk => ⟨hk.1.1, hk.2⟩)))); (case aS => exact (below_size (bm HB))); (case aL => have := LMc11.out; omega); intro v1015 w20 ho hb hg hat; rw [← Ny1014.out] at ho; refine ev5 (Kd.R_after (ok := (fun k_ => (P0_ k_ ∨ w.heap.size ≤ k_))) (Kd.R_mv HO_0.out) hg hat) (hb) (Kept.of_grown (S := (fun k_ => P0_ k_)) hg (km HK) (fun k_ e_ => (HO1009.out.1 k_ e_).1.1)) ((show Kd.C (Kd.int .i64) w20 (some ad1005) y1010.length y1010 from by rw [Ny1010.out]; exact Kd.C_take (m := (x5_1 : Int).toNat) ((Kd.R_reads' (Kd.R_after (ok := (fun k_ => (P0_ k_ ∨ w.heap.size ≤ k_))) (Kd.R_mv HO_0.out) hg hat)).2.2) KL19.out)) (ho) ?_; clear HO_0 HB HK HR1013 HO1009; intro HO_0 HB HK HR1013 HO1016; clear ho hb hg hat) | ((with_reducible refine gate_builtin (b := .append) (xs := #[.tmp 39, .tmp 41]) rfl ?_); at_builtin; refine Kd.R_append (Kd.int .i64) (w0 := w0) w0.heap.size rfl (.tmp 39) (.tmp 41) 22 3 (.int .i64 0) 8 rfl Try.underlying22 info3 rfl (by decide) (by omega) v1015 y1014 a1 [.int .i64 a1] (fun k_ => (P0_ k_ ∨ w.heap.size ≤ k_) ∧ some k_ ≠ (.slice (some ad1005) l0.length co16 : Value).ownBlock) (fun _ => False) rfl rfl ?aP (fun _ hk => hk.elim) ?aF ?aO ?aB ?aS ?aL ?_; (case aP => exact rfl); (case aB => exact (bm HB)); (case aF => exact (fun k_ hk => ⟨(.inr (Nat.le_trans (by first | exact HK.out.1 | exact (show Kept w _ (fun k_ => P0_ k_) from km HK).1) hk)), Kd.fresh' (Kd.R_lt (Kd.R_mv HO_0.out)) k_ hk⟩)); (case aO => exact (Kd.R_mv HO1016.out)); (case aS => exact (below_size (bm HB))); (case aL => have := LMc12.out; omega); intro v1018 w21 ho hb hg hat; rw [← Ny1017.out] at ho; refine ev5 (Kd.R_after (ok := (fun k_ => (P0_ k_ ∨ w.heap.size ≤ k_))) (Kd.R_mv HO_0.out) hg hat) (hb) (Kept.of_grown (S := (fun k_ => P0_ k_)) hg (km HK) (fun k_ e_ => (HO1016.out.1 k_ e_).1)) ((show Kd.C (Kd.int .i64) w21 (some ad1005) y1010.length y1010 from by rw [Ny1010.out]; exact Kd.C_take (m := (x5_1 : Int).toNat) ((Kd.R_reads' (Kd.R_after (ok := (fun k_ => (P0_ k_ ∨ w.heap.size ≤ k_))) (Kd.R_mv HO_0.out) hg hat)).2.2) KL19.out)) (ho) ?_; clear HO_0 HB HK HR1013 HO1016; intro HO_0 HB HK HR1013 HO1019; clear ho hb hg hat; have q22 : (x5_1 : Int) ≤ ((l0.length : Int) : Int) := of_decide_eq_true (by first | (with_reducible assumption) | assumption); obtain ⟨i022, hi022, _, hsz22, _⟩ := info_parts info3; have hroom22 : l0.length ≤ co16 := (Kd.R_reads' HO_0.out).2.1; have hC22 : Kd.C (Kd.int .i64) _ (some ad1005) l0.length l0 := (Kd.R_reads' HO_0.out).2.2; have q022 : (0 : Int) ≤ (x5_1 : Int) := of_decide_eq_true (by first | (with_reducible assumption) | assumption); have hcut22 := cut_from (P := Try.prog) 22 3 .i64 Try.underlying22 hi022 1 hsz22 (some ad1005) l0.length co16 x5_1 q022 q22; have hr22 := Kd.C_drop (m := (x5_1 : Int).toNat) (c := co16) hC22 (by omega) hroom22; obtain ⟨A22, hA22⟩ : ∃ A1, A1 = (if co16 = (x5_1 : Int).toNat then (some ad1005) else ((some ad1005) : Option Addr).map (·.add ((x5_1 : Int).toNat * 1))) := ⟨_, rfl⟩; obtain ⟨c22, hc22⟩ : ∃ c1, c1 = co16 - (x5_1 : Int).toNat := ⟨_, rfl⟩; have hy22 : y1020.length = l0.length - (x5_1 : Int).toNat := (by rw [Ny1020.out, List.length_drop] <;> omega); rw [show (l0).drop (x5_1 : Int).toNat = y1020 from Ny1020.out.symm] at hr22; replace hr22 : Kd.C (Kd.int .i64) _ A22 y1020.length y1020 := (by rw [hA22]; exact hr22); rw [← hy22, ← hA22, ← hc22] at hcut22; have HR1023 := Aside0.mk hr22; have HC1023 := Aside0.mk (show y1020.length ≤ c22 from by rw [hy22, hc22]; exact Nat.sub_le_sub_right hroom22 _); clear hr22 hC22 hroom22 hi022 hsz22 hc22; have KY22 := Aside0.mk hy22; have KA22 := Aside0.mk hA22; clear hy22 hA22; have KL22 := Aside0.mk (show (x5_1 : Int).toNat ≤ l0.length from by omega); replace q22 := eq_true q22) | ((with_reducible refine gate_builtin (b := .append) (xs := #[.tmp 43, .tmp 46]) rfl ?_); at_builtin; refine Kd.R_append_rows (Kd.int .i64) (w0 := w0) w0.heap.size rfl (.tmp 43) (.tmp 46) 22 3 (.int .i64 0) 8 rfl Try.underlying22 info3 rfl (by decide) (by omega) v1018 y1017 y1020 _ _ _ (fun k_ => (P0_ k_ ∨ w.heap.size ≤ k_) ∧ some k_ ≠ (.slice (some ad1005) l0.length co16 : Value).ownBlock) (fun _ => False) rfl rfl ?aO ?aR (fun _ _ h => h) (fun _ h => h.elim) ?aF ?aB ?aS ?aL ?_; (case aR => exact Kd.C_mv (by repeat (first | (with_reducible exact HR1023.out) | (with_reducible refine Kd.C_alloc ?_ _) | (with_reducible refine Kd.C_drewN ?_ _) | (with_reducible refine Kd.C_drew ?_) | exact HR1023.out))); (case aB => exact (bm HB)); (case aF => exact (fun k_ hk => ⟨(.inr (Nat.le_trans (by first | exact HK.out.1 | exact (show Kept w _ (fun k_ => P0_ k_) from km HK).1) hk)), Kd.fresh' (Kd.R_lt (Kd.R_mv HO_0.out)) k_ hk⟩)); (case aO => exact (Kd.R_mv HO1019.out)); (case aS => exact (below_size (bm HB))); (case aL => have := LMc15.out; omega); intro v1025 w23 ho hb hg hat; rw [← Ny1024.out] at ho; refine ev6 (Kd.R_after (ok := (fun k_ => (P0_ k_ ∨ w.heap.size ≤ k_))) (Kd.R_mv HO_0.out) hg hat) (hb) (Kept.of_grown (S := (fun k_ => P0_ k_)) hg (km HK) (fun k_ e_ => (HO1019.out.1 k_ e_).1)) ((show Kd.C (Kd.int .i64) w23 (some ad1005) y1010.length y1010 from by rw [Ny1010.out]; exact Kd.C_take (m := (x5_1 : Int).toNat) ((Kd.R_reads' (Kd.R_after (ok := (fun k_ => (P0_ k_ ∨ w.heap.size ≤ k_))) (Kd.R_mv HO_0.out) hg hat)).2.2) KL19.out)) ((show Kd.C (Kd.int .i64) w23 A22 y1020.length y1020 from by rw [Ny1020.out, KA22.out]; exact Kd.C_drop (m := (x5_1 : Int).toNat) (c := co16) ((Kd.R_reads' (Kd.R_after (ok := (fun k_ => (P0_ k_ ∨ w.heap.size ≤ k_))) (Kd.R_mv HO_0.out) hg hat)).2.2) KL22.out ((Kd.R_reads' (Kd.R_after (ok := (fun k_ => (P0_ k_ ∨ w.heap.size ≤ k_))) (Kd.R_mv HO_0.out) hg hat)).2.1))) (ho) ?_; clear HO_0 HB HK HR1013 HR1023 HO1019; intro HO_0 HB HK HR1013 HR1023 HO1026; clear ho hb hg hat))
           go_ret
           exact ⟨_, by first | rfl | (simp [e0_, e1_] <;> rfl) | (simp [*, e0_, e1_] <;> rfl), Kd.R_mv (Kd.R_mono (ok' := fun k_ => ((P0_ k_ ∨ w.heap.size ≤ k_))) HO1026.out (fun _ hk => hk.1)), bm HB, km HK⟩
          ·rw [if_neg c15] at H
           exact absurd H (by simp)
         ·rw [if_neg c12] at H
          exact absurd H (by simp)
        ·rw [if_neg c11] at H
         exact absurd H (by simp)
       ·rw [if_neg c10] at H
        exact absurd H (by simp)
    ·rw [if_neg c4] at H
     exact absurd H (by simp)
   ·rw [if_neg c3] at H
    have c3b0 : decide (x5_1 < (l0.length : Int)) = false := decide_eq_false c3
    clear c3
    obtain ⟨y1027, hy1027⟩ : ∃ y_ : List Int, y_ = (([] : List Int)) := ⟨_, rfl⟩
    replace H : (if 0 ≤ x5_1 then (if x5_1 ≤ (l0.length : Int) then ((some (l0.take (x5_1 : Int).toNat : List Int)).bind fun y1030 => (if y1027.length + y1030.length < 17592186044416 then ((some (y1027 ++ y1030 : List Int)).bind fun y1034 => (if y1034.length < 17592186044416 then ((some (y1034 ++ [a1] : List Int)).bind fun y1037 => ((some (l0.drop (x5_1 : Int).toNat : List Int)).bind fun y1040 => (if y1037.length + y1040.length < 17592186044416 then (some (y1037 ++ y1040)) else (none)))) else (none))) else (none))) else (none)) else (none)) = some r := by first | (rw [hy1027]; with_reducible exact H) | (have H2_ := (Option.bind_some _ _).symm.trans H; rw [hy1027]; with_reducible exact H2_) | (have H2_ := (Option.bind_some _ _).symm.trans H; with_reducible exact H2_) | with_reducible exact H | (rw [hy1027]; exact H) | exact H
    have Ny1027 := Aside0.mk hy1027
    clear hy1027
    by_cases c24 : 0 ≤ x5_1
    ·rw [if_pos c24] at H
     have c24b0 := eq_true c24
     have c24b1 : decide (0 ≤ x5_1) = true := decide_eq_true c24
     clear c24
     by_cases c25 : x5_1 ≤ (l0.length : Int)
     ·rw [if_pos c25] at H
      have c25b0 := eq_true c25
      have c25b1 : decide (x5_1 ≤ (l0.length : Int)) = true := decide_eq_true c25
      clear c25
      obtain ⟨y1030, hy1030⟩ : ∃ y_ : List Int, y_ = (l0.take (x5_1 : Int).toNat) := ⟨_, rfl⟩
      replace H : (if y1027.length + y1030.length < 17592186044416 then ((some (y1027 ++ y1030 : List Int)).bind fun y1034 => (if y1034.length < 17592186044416 then ((some (y1034 ++ [a1] : List Int)).bind fun y1037 => ((some (l0.drop (x5_1 : Int).toNat : List Int)).bind fun y1040 => (if y1037.length + y1040.length < 17592186044416 then (some (y1037 ++ y1040)) else (none)))) else (none))) else (none)) = some r := by first | (rw [hy1030]; with_reducible exact H) | (have H2_ := (Option.bind_some _ _).symm.trans H; rw [hy1030]; with_reducible exact H2_) | (have H2_ := (Option.bind_some _ _).symm.trans H; with_reducible exact H2_) | with_reducible exact H | (rw [hy1030]; exact H) | exact H
      have Ny1030 := Aside0.mk hy1030
      clear hy1030
      by_cases c26 : y1027.length + y1030.length < 17592186044416
      ·rw [if_pos c26] at H
       have LMc26 := Aside0.mk c26
       clear c26
       obtain ⟨y1034, hy1034⟩ : ∃ y_ : List Int, y_ = (y1027 ++ y1030) := ⟨_, rfl⟩
       replace H : (if y1034.length < 17592186044416 then ((some (y1034 ++ [a1] : List Int)).bind fun y1037 => ((some (l0.drop (x5_1 : Int).toNat : List Int)).bind fun y1040 => (if y1037.length + y1040.length < 17592186044416 then (some (y1037 ++ y1040)) else (none)))) else (none)) = some r := by first | (rw [hy1034]; with_reducible exact H) | (have H2_ := (Option.bind_some _ _).symm.trans H; rw [hy1034]; with_reducible exact H2_) | (have H2_ := (Option.bind_some _ _).symm.trans H; with_reducible exact H2_) | with_reducible exact H | (rw [hy1034]; exact H) | exact H
       have Ny1034 := Aside0.mk hy1034
       clear hy1034
       by_cases c27 : y1034.length < 17592186044416
       ·rw [if_pos c27] at H
        have LMc27 := Aside0.mk c27
        clear c27
        obtain ⟨y1037, hy1037⟩ : ∃ y_ : List Int, y_ = (y1034 ++ [a1]) := ⟨_, rfl⟩
        replace H : ((some (l0.drop (x5_1 : Int).toNat : List Int)).bind fun y1040 => (if y1037.length + y1040.length < 17592186044416 then (some (y1037 ++ y1040)) else (none))) = some r := by first | (rw [hy1037]; with_reducible exact H) | (have H2_ := (Option.bind_some _ _).symm.trans H; rw [hy1037]; with_reducible exact H2_) | (have H2_ := (Option.bind_some _ _).symm.trans H; with_reducible exact H2_) | with_reducible exact H | (rw [hy1037]; exact H) | exact H
        have Ny1037 := Aside0.mk hy1037
        clear hy1037
        have c28b0 := eq_true (of_decide_eq_true (by first | (with_reducible assumption) | assumption) : 0 ≤ x5_1)
        have c29b0 := eq_true (of_decide_eq_true (by first | (with_reducible assumption) | assumption) : x5_1 ≤ (l0.length : Int))
        obtain ⟨y1040, hy1040⟩ : ∃ y_ : List Int, y_ = (l0.drop (x5_1 : Int).toNat) := ⟨_, rfl⟩
        replace H : (if y1037.length + y1040.length < 17592186044416 then (some (y1037 ++ y1040)) else (none)) = some r := by first | (rw [hy1040]; with_reducible exact H) | (have H2_ := (Option.bind_some _ _).symm.trans H; rw [hy1040]; with_reducible exact H2_) | (have H2_ := (Option.bind_some _ _).symm.trans H; with_reducible exact H2_) | with_reducible exact H | (rw [hy1040]; exact H) | exact H
        have Ny1040 := Aside0.mk hy1040
        clear hy1040
        by_cases c30 : y1037.length + y1040.length < 17592186044416
        ·rw [if_pos c30] at H
         have LMc30 := Aside0.mk c30
         clear c30
         obtain ⟨y1044, hy1044⟩ : ∃ y_ : List Int, y_ = (y1037 ++ y1040) := ⟨_, rfl⟩
         replace H : (some y1044) = some r := by first | (rw [hy1044]; with_reducible exact H) | (have H2_ := (Option.bind_some _ _).symm.trans H; rw [hy1044]; with_reducible exact H2_) | (have H2_ := (Option.bind_some _ _).symm.trans H; with_reducible exact H2_) | with_reducible exact H | (rw [hy1044]; exact H) | exact H
         have Ny1044 := Aside0.mk hy1044
         clear hy1044
         obtain rfl := Option.some.inj H
         obtain ⟨Ao31, co31, eo31⟩ := Kd.R_slice HO_0.out
         subst eo31
         go_wp2_with (first | ((with_reducible refine gate_dst (N := 34) rfl ?_); refine Kd.R_lit (Kd.int .i64) _ 3 ?hg (N := 34) ?hd (xs := ([] : List Int)) (inner := []) (ok := fun _ => True) (okp := fun _ => True) ?hr ?hp (fun _ hk => hk) trivial (Below.refl _ _) (Nat.le_refl _) (by simp) ?_; (case hd => rfl); (case hg => rfl); (case hr => first | (go_simp; done) | (go_simp; rfl)); (case hp => exact (Reps.none _ _)); intro v1028 w32 ho33 hb hg_ hnew_; clear hg_ hnew_; (first | rw [← Ny1027.out] at ho33 | (simp only [Int.reduceToNat] at ho33; rw [← Ny1027.out] at ho33)); refine ev4 (Kd.R_elder' (Kd.R_mv HO_0.out) (Kd.R_base ho33) hb) (Kd.R_lower (Kd.R_new' (Kd.R_newM (M := fun k_ => (P0_ k_ ∨ w.heap.size ≤ k_)) ho33 (by first | exact HK.out.1 | exact (show Kept w _ (fun k_ => P0_ k_) from km HK).1) (fun k_ h_ => .inr h_)) (Kd.R_lt (Kd.R_mv HO_0.out))) (below_size (bm HB))) (Kept.below (S := (fun k_ => P0_ k_)) (km HK) hb) (bs HB hb) ?_; clear HO_0 HK HB; intro HO_0 HO1029 HK HB; clear hb ho33; have q34 : (x5_1 : Int) ≤ ((l0.length : Int) : Int) := of_decide_eq_true (by first | (with_reducible assumption) | assumption); obtain ⟨i034, hi034, _, hsz34, _⟩ := info_parts info3; have hroom34 : l0.length ≤ co31 := (Kd.R_reads' HO_0.out).2.1; have hC34 : Kd.C (Kd.int .i64) _ Ao31 l0.length l0 := (Kd.R_reads' HO_0.out).2.2; have hcut34 := cut_to (P := Try.prog) 22 3 .i64 Try.underlying22 hi034 Ao31 l0.length co31 x5_1 (of_decide_eq_true (by first | (with_reducible assumption) | assumption)) q34 hroom34; have hr34 := Kd.C_take (m := (x5_1 : Int).toNat) hC34 (by omega); have hy34 : y1030.length = (x5_1 : Int).toNat := (by rw [Ny1030.out, List.length_take]; omega); rw [← Ny1030.out] at hr34; rw [← hy34] at hcut34; have HR1033 := Aside0.mk hr34; have HC1033 := Aside0.mk (show y1030.length ≤ co31 from by omega); clear hr34 hC34 hroom34 hi034 hsz34; have KY34 := Aside0.mk hy34; clear hy34; have KL34 := Aside0.mk (show (x5_1 : Int).toNat ≤ l0.length from by omega); replace q34 := eq_true q34) | ((with_reducible refine gate_builtin (b := .append) (xs := #[.tmp 34, .tmp 37]) rfl ?_); at_builtin; refine Kd.R_append_rows (Kd.int .i64) (w0 := w0) w0.heap.size rfl (.tmp 34) (.tmp 37) 22 3 (.int .i64 0) 8 rfl Try.underlying22 info3 rfl (by decide) (by omega) v1028 y1027 y1030 _ _ _ (fun k_ => (P0_ k_ ∨ w.heap.size ≤ k_) ∧ some k_ ≠ (.slice Ao31 l0.length co31 : Value).ownBlock) (fun _ => False) rfl rfl ?aO ?aR (fun _ _ h => h) (fun _ h => h.elim) ?aF ?aB ?aS ?aL ?_; (case aR => exact Kd.C_mv (by repeat (first | (with_reducible exact HR1033.out) | (with_reducible refine Kd.C_alloc ?_ _) | (with_reducible refine Kd.C_drewN ?_ _) | (with_reducible refine Kd.C_drew ?_) | exact HR1033.out))); (case aB => exact (bm HB)); (case aF => exact (fun k_ hk => ⟨(.inr (Nat.le_trans (by first | exact HK.out.1 | exact (show Kept w _ (fun k_ => P0_ k_) from km HK).1) hk)), Kd.fresh' (Kd.R_lt (Kd.R_mv HO_0.out)) k_ hk⟩)); (case aO => exact (Kd.R_mv (Kd.R_mono HO1029.out (fun _ hk => ⟨hk.1.1, hk.2⟩)))); (case aS => exact (below_size (bm HB))); (case aL => have := LMc26.out; omega); intro v1035 w35 ho hb hg hat; rw [← Ny1034.out] at ho; refine ev5 (Kd.R_after (ok := (fun k_ => (P0_ k_ ∨ w.heap.size ≤ k_))) (Kd.R_mv HO_0.out) hg hat) (hb) (Kept.of_grown (S := (fun k_ => P0_ k_)) hg (km HK) (fun k_ e_ => (HO1029.out.1 k_ e_).1.1)) ((show Kd.C (Kd.int .i64) w35 Ao31 y1030.length y1030 from by rw [Ny1030.out]; exact Kd.C_take (m := (x5_1 : Int).toNat) ((Kd.R_reads' (Kd.R_after (ok := (fun k_ => (P0_ k_ ∨ w.heap.size ≤ k_))) (Kd.R_mv HO_0.out) hg hat)).2.2) KL34.out)) (ho) ?_; clear HO_0 HB HK HR1033 HO1029; intro HO_0 HB HK HR1033 HO1036; clear ho hb hg hat) | ((with_reducible refine gate_builtin (b := .append) (xs := #[.tmp 39, .tmp 41]) rfl ?_); at_builtin; refine Kd.R_append (Kd.int .i64) (w0 := w0) w0.heap.size rfl (.tmp 39) (.tmp 41) 22 3 (.int .i64 0) 8 rfl Try.underlying22 info3 rfl (by decide) (by omega) v1035 y1034 a1 [.int .i64 a1] (fun k_ => (P0_ k_ ∨ w.heap.size ≤ k_) ∧ some k_ ≠ (.slice Ao31 l0.length co31 : Value).ownBlock) (fun _ => False) rfl rfl ?aP (fun _ hk => hk.elim) ?aF ?aO ?aB ?aS ?aL ?_; (case aP => exact rfl); (case aB => exact (bm HB)); (case aF => exact (fun k_ hk => ⟨(.inr (Nat.le_trans (by first | exact HK.out.1 | exact (show Kept w _ (fun k_ => P0_ k_) from km HK).1) hk)), Kd.fresh' (Kd.R_lt (Kd.R_mv HO_0.out)) k_ hk⟩)); (case aO => exact (Kd.R_mv HO1036.out)); (case aS => exact (below_size (bm HB))); (case aL => have := LMc27.out; omega); intro v1038 w36 ho hb hg hat; rw [← Ny1037.out] at ho; refine ev5 (Kd.R_after (ok := (fun k_ => (P0_ k_ ∨ w.heap.size ≤ k_))) (Kd.R_mv HO_0.out) hg hat) (hb) (Kept.of_grown (S := (fun k_ => P0_ k_)) hg (km HK) (fun k_ e_ => (HO1036.out.1 k_ e_).1)) ((show Kd.C (Kd.int .i64) w36 Ao31 y1030.length y1030 from by rw [Ny1030.out]; exact Kd.C_take (m := (x5_1 : Int).toNat) ((Kd.R_reads' (Kd.R_after (ok := (fun k_ => (P0_ k_ ∨ w.heap.size ≤ k_))) (Kd.R_mv HO_0.out) hg hat)).2.2) KL34.out)) (ho) ?_; clear HO_0 HB HK HR1033 HO1036; intro HO_0 HB HK HR1033 HO1039; clear ho hb hg hat; have q37 : (x5_1 : Int) ≤ ((l0.length : Int) : Int) := of_decide_eq_true (by first | (with_reducible assumption) | assumption); obtain ⟨i037, hi037, _, hsz37, _⟩ := info_parts info3; have hroom37 : l0.length ≤ co31 := (Kd.R_reads' HO_0.out).2.1; have hC37 : Kd.C (Kd.int .i64) _ Ao31 l0.length l0 := (Kd.R_reads' HO_0.out).2.2; have q037 : (0 : Int) ≤ (x5_1 : Int) := of_decide_eq_true (by first | (with_reducible assumption) | assumption); have hcut37 := cut_from (P := Try.prog) 22 3 .i64 Try.underlying22 hi037 1 hsz37 Ao31 l0.length co31 x5_1 q037 q37; have hr37 := Kd.C_drop (m := (x5_1 : Int).toNat) (c := co31) hC37 (by omega) hroom37; obtain ⟨A37, hA37⟩ : ∃ A1, A1 = (if co31 = (x5_1 : Int).toNat then Ao31 else (Ao31 : Option Addr).map (·.add ((x5_1 : Int).toNat * 1))) := ⟨_, rfl⟩; obtain ⟨c37, hc37⟩ : ∃ c1, c1 = co31 - (x5_1 : Int).toNat := ⟨_, rfl⟩; have hy37 : y1040.length = l0.length - (x5_1 : Int).toNat := (by rw [Ny1040.out, List.length_drop] <;> omega); rw [show (l0).drop (x5_1 : Int).toNat = y1040 from Ny1040.out.symm] at hr37; replace hr37 : Kd.C (Kd.int .i64) _ A37 y1040.length y1040 := (by rw [hA37]; exact hr37); rw [← hy37, ← hA37, ← hc37] at hcut37; have HR1043 := Aside0.mk hr37; have HC1043 := Aside0.mk (show y1040.length ≤ c37 from by rw [hy37, hc37]; exact Nat.sub_le_sub_right hroom37 _); clear hr37 hC37 hroom37 hi037 hsz37 hc37; have KY37 := Aside0.mk hy37; have KA37 := Aside0.mk hA37; clear hy37 hA37; have KL37 := Aside0.mk (show (x5_1 : Int).toNat ≤ l0.length from by omega); replace q37 := eq_true q37) | ((with_reducible refine gate_builtin (b := .append) (xs := #[.tmp 43, .tmp 46]) rfl ?_); at_builtin; refine Kd.R_append_rows (Kd.int .i64) (w0 := w0) w0.heap.size rfl (.tmp 43) (.tmp 46) 22 3 (.int .i64 0) 8 rfl Try.underlying22 info3 rfl (by decide) (by omega) v1038 y1037 y1040 _ _ _ (fun k_ => (P0_ k_ ∨ w.heap.size ≤ k_) ∧ some k_ ≠ (.slice Ao31 l0.length co31 : Value).ownBlock) (fun _ => False) rfl rfl ?aO ?aR (fun _ _ h => h) (fun _ h => h.elim) ?aF ?aB ?aS ?aL ?_; (case aR => exact Kd.C_mv (by repeat (first | (with_reducible exact HR1043.out) | (with_reducible refine Kd.C_alloc ?_ _) | (with_reducible refine Kd.C_drewN ?_ _) | (with_reducible refine Kd.C_drew ?_) | exact HR1043.out))); (case aB => exact (bm HB)); (case aF => exact (fun k_ hk => ⟨(.inr (Nat.le_trans (by first | exact HK.out.1 | exact (show Kept w _ (fun k_ => P0_ k_) from km HK).1) hk)), Kd.fresh' (Kd.R_lt (Kd.R_mv HO_0.out)) k_ hk⟩)); (case aO => exact (Kd.R_mv HO1039.out)); (case aS => exact (below_size (bm HB))); (case aL => have := LMc30.out; omega); intro v1045 w38 ho hb hg hat; rw [← Ny1044.out] at ho; refine ev6 (Kd.R_after (ok := (fun k_ => (P0_ k_ ∨ w.heap.size ≤ k_))) (Kd.R_mv HO_0.out) hg hat) (hb) (Kept.of_grown (S := (fun k_ => P0_ k_)) hg (km HK) (fun k_ e_ => (HO1039.out.1 k_ e_).1)) ((show Kd.C (Kd.int .i64) w38 Ao31 y1030.length y1030 from by rw [Ny1030.out]; exact Kd.C_take (m := (x5_1 : Int).toNat) ((Kd.R_reads' (Kd.R_after (ok := (fun k_ => (P0_ k_ ∨ w.heap.size ≤ k_))) (Kd.R_mv HO_0.out) hg hat)).2.2) KL34.out)) ((show Kd.C (Kd.int .i64) w38 A37 y1040.length y1040 from by rw [Ny1040.out, KA37.out]; exact Kd.C_drop (m := (x5_1 : Int).toNat) (c := co31) ((Kd.R_reads' (Kd.R_after (ok := (fun k_ => (P0_ k_ ∨ w.heap.size ≤ k_))) (Kd.R_mv HO_0.out) hg hat)).2.2) KL37.out ((Kd.R_reads' (Kd.R_after (ok := (fun k_ => (P0_ k_ ∨ w.heap.size ≤ k_))) (Kd.R_mv HO_0.out) hg hat)).2.1))) (ho) ?_; clear HO_0 HB HK HR1033 HR1043 HO1039; intro HO_0 HB HK HR1033 HR1043 HO1046; clear ho hb hg hat))
         go_ret
         exact ⟨_, by first | rfl | (simp [e0_, e1_] <;> rfl) | (simp [*, e0_, e1_] <;> rfl), Kd.R_mv (Kd.R_mono (ok' := fun k_ => ((P0_ k_ ∨ w.heap.size ≤ k_))) HO1046.out (fun _ hk => hk.1)), bm HB, km HK⟩
        ·rw [if_neg c30] at H
         exact absurd H (by simp)
       ·rw [if_neg c27] at H
        exact absurd H (by simp)
      ·rw [if_neg c26] at H
       exact absurd H (by simp)
     ·rw [if_neg c25] at H
      exact absurd H (by simp)
    ·rw [if_neg c24] at H
     exact absurd H (by simp)

/-! ### spec_MetCells: function 119 -/
mutual
def spec_MetCells.l0 : Nat → List Int → List Int → Int → Int → Int → List (S78) → Option (List Int × Bool)
 | 0, _, _, _, _, _, _ => none
 | k + 1, x4, x5, x6, x1048000, x1048001, x1048002 => if x6 < x1048001 then ((spec_flGo.f k x1048000 x1048001 x1048002 x5 x6).bind fun bt1052 => (spec_MetCells.l1 k x4 x5 x6 bt1052.2.2.2.2.2.2 (bt1052.2.2.2.2.2.2.length : Int) 0 x1048000 x1048001 x1048002)) else (some (x4, true))
def spec_MetCells.l1 : Nat → List Int → List Int → Int → List (List Int) → Int → Int → Int → Int → List (S78) → Option (List Int × Bool)
 | 0, _, _, _, _, _, _, _, _, _ => none
 | k + 1, x4, x5, x6, x9, x32, x33, x1048000, x1048001, x1048002 => if x33 < x32 then (if 0 ≤ x33 then (if x33 < (x9.length : Int) then (if 0 < ((rd_L3 x9 x33).length : Int) then (if 1 < ((rd_L3 x9 x33).length : Int) then ((spec_l1Put.f k x4 (wrap64 ((wrap64 ((rd (rd_L3 x9 x33) 0) * x1048001)) + (rd (rd_L3 x9 x33) 1)))).bind fun t1068 => (spec_MetCells.l1 k t1068 x5 x6 x9 x32 (wrap64 (x33 + 1)) x1048000 x1048001 x1048002)) else (none)) else (none)) else (none)) else (none)) else (spec_MetCells.l0 k x4 x5 (wrap64 (x6 + 1)) x1048000 x1048001 x1048002)
end
def spec_MetCells.f (k : Nat) (a0_0 : Int) (a0_1 : Int) (l0_2 : List (S78)) : Option (List Int × Bool) := (spec_boGood.f k a0_0 a0_1 l0_2).bind fun t1048 => (if t1048 = true then ((spec_ggGroups.f k a0_0 a0_1 l0_2).bind fun t1049 => (spec_MetCells.l0 k ([] : List Int) t1049 0 a0_0 a0_1 l0_2)) else (some (([] : List Int), false)))
def spec_MetCells.T12 : Bool × List (List Nat × List Nat) := (true, [([], []), ([], []), ([1], [1]), ([2], [2]), ([], []), ([4], [4]), ([3, 5], [3, 5]), ([], []), ([7], [7]), ([8], [8]), ([6, 9], [6, 9]), ([0, 10], [0, 10]), ([11, 11, 0, 1, 2, 3, 4, 5, 6, 7, 8, 9, 10, 11], [0, 11])])
def spec_MetCells.B12 : List Nat := [0, 0, 2, 6, 0, 16, 62, 0, 128, 384, 1022, 2047, 4095]
theorem spec_MetCells.tab12 : rtab .any (opsOf Try.f119 12) = spec_MetCells.T12 := by kernel_rfl
theorem spec_MetCells.bits12 : waitsOk spec_MetCells.T12.2 spec_MetCells.B12 = true := by kernel_rfl
set_option maxHeartbeats 8000000 in
set_option maxRecDepth 100000 in
theorem spec_MetCells.calls (k : Nat) (a0_0 : Int) (a0_1 : Int) (A0_2 : Option Addr) (c0_2 : Nat) (l0_2 : List (S78)) (r1 : List Int) (r2 : Bool) (w : World) (hr0_2 : Kd.C k78 w A0_2 l0_2.length l0_2) (hc0_2 : l0_2.length ≤ c0_2) (h : spec_MetCells.f k a0_0 a0_1 l0_2 = some (r1, r2)) :
  Calls Try.prog 119 #[.agg #[.int .i64 a0_0, .int .i64 a0_1, .slice A0_2 l0_2.length c0_2]] w fun e w' => ∃ v0_ : Value, e = .returned (.tuple #[v0_, .bool r2]) ∧ Kd.R (Kd.int .i64) 3 w' w.heap.size (fun _ => True) v0_ r1 ∧ Below w.heap.size w w' := by
 have HR0_2 := Aside0.mk hr0_2
 have HC0_2 := Aside0.mk hc0_2
 clear hr0_2 hc0_2
 have HB := Aside0.mk (Below.refl w.heap.size w)
 have H : ((spec_boGood.f k a0_0 a0_1 l0_2).bind fun t1048 => (if t1048 = true then ((spec_ggGroups.f k a0_0 a0_1 l0_2).bind fun t1049 => (spec_MetCells.l0 k ([] : List Int) t1049 0 a0_0 a0_1 l0_2)) else (some (([] : List Int), false)))) = some (r1, r2) := h
 clear h
 replace H := Option.bind_eq_some_iff.mp H
 obtain ⟨t1048, A20, H⟩ := H
 replace H : (if t1048 = true then ((spec_ggGroups.f k a0_0 a0_1 l0_2).bind fun t1049 => (spec_MetCells.l0 k ([] : List Int) t1049 0 a0_0 a0_1 l0_2)) else (some (([] : List Int), false))) = some (r1, r2) := H
 have A2 := Aside0.mk A20
 clear A20
 by_cases c3 : t1048 = true
 ·subst c3
  have H1 : ((spec_ggGroups.f k a0_0 a0_1 l0_2).bind fun t1049 => (spec_MetCells.l0 k ([] : List Int) t1049 0 a0_0 a0_1 l0_2)) = some (r1, r2) := by rw [if_pos rfl] at H; exact H
  clear H
  have H := H1
  clear H1
  replace H := Option.bind_eq_some_iff.mp H
  obtain ⟨t1049, A40, H⟩ := H
  replace H : (spec_MetCells.l0 k ([] : List Int) t1049 0 a0_0 a0_1 l0_2) = some (r1, r2) := H
  have A4 := Aside0.mk A40
  clear A40
  have H' := Aside0.mk H
  clear H
  go_enter Try.func119, Try.ntmps119
  go_wp2_with (first | ((with_reducible refine gate_dst (N := 1) rfl ?_); refine box_event ?hg (N := 1) ?hd (cs := #[.int .i64 a0_0, .int .i64 a0_1, .slice A0_2 l0_2.length c0_2]) (t := 48) ?hr ?_; (case hd => rfl); (case hg => rfl); (case hr => first | (go_simp; done) | (go_simp; rfl)); intro gb1047 hg w5 hbox hb; refine ev4 (bs HB hb) (hbox) (gle hg HB) (gle hg HB) ?_; clear HB; intro HB BK1047 GW1047 GE1047; clear hb hbox hg; obtain ⟨hcz6_0, hcz6_1, hcz6_2, hfz6_0, hfz6_1, hfz6_2⟩ := bt3 BK1047) | ((with_reducible refine gate_callee (f := 84) rfl ?_); refine goesL_ (some 13) rfl rfl Try.func84 (by kernel_rfl) rfl #[.agg #[.int .i64 a0_0, .int .i64 a0_1, .slice A0_2 l0_2.length c0_2]] rfl (by (try simp only [ma_, mb_, mc_]); first | done | rfl | (simp only [List.length_drop, List.length_take]; rfl)) ?_; (with_reducible refine (spec_boGood.calls k a0_0 a0_1 _ _ l0_2 true _ (Kd.C_mv (Kd.C_below HR0_2.out HB.out)) HC0_2.out A2.out).mono ?_); rintro e w7 ⟨rfl, hb⟩; refine ⟨_, rfl, ?_⟩; refine ev2 (kb BK1047 hb) (bs HB hb) ?_; clear BK1047 HB; intro BK1047 HB; (try clear hb); (try clear hb2); (try clear hk); (try clear hi); obtain ⟨hcz8_0, hcz8_1, hcz8_2, hfz8_0, hfz8_1, hfz8_2⟩ := bt3 BK1047) | ((with_reducible refine gate_callee (f := 113) rfl ?_); refine goesL_ (some 16) rfl rfl Try.func113 (by kernel_rfl) rfl #[.agg #[.int .i64 a0_0, .int .i64 a0_1, .slice A0_2 l0_2.length c0_2]] rfl (by (try simp only [ma_, mb_, mc_]); first | done | rfl | (simp only [List.length_drop, List.length_take]; rfl)) ?_; (with_reducible refine (spec_ggGroups.calls k a0_0 a0_1 _ _ l0_2 t1049 _ (Kd.C_mv (Kd.C_below HR0_2.out HB.out)) HC0_2.out A4.out).mono ?_); rintro e w9 ⟨v1050, rfl, ho0, hb⟩; refine ⟨_, rfl, ?_⟩; refine ev3 (Kd.R_lower ho0 (below_size (bm HB))) (kb BK1047 hb) (bs HB hb) ?_; clear BK1047 HB; intro HO1051 BK1047 HB; (try clear hb); (try clear hb2); (try clear hk); (try clear hi); (try clear ho0)))
  go_loopg [4, 6] k (fun kq v4 v6 w' => ∃ (x4_1 : List Int) (x6_1 : Int), v6 = .int .i64 x6_1 ∧ Aside0 (spec_MetCells.l0 kq x4_1 t1049 x6_1 a0_0 a0_1 l0_2 = some (r1, r2)) ∧ Aside0 (kq ≤ k) ∧ Aside0 (Kd.R (Kd.int .i64) 3 w' w.heap.size (fun k_ => some k_ ≠ (v1050 : Value).ownBlock) v4 x4_1) ∧ Aside0 (Kd.R (Kd.int .i64) 3 w' w.heap.size (fun k_ => some k_ ≠ (v4 : Value).ownBlock) v1050 t1049) ∧ Aside0 (w'.heap[gb1047]? = some (.cells #[.int .i64 a0_0, .int .i64 a0_1, (.slice A0_2 l0_2.length c0_2)] 48 (0, 0))) ∧ Aside0 (Below w.heap.size w w'))
  case atStart => exact ⟨(([] : List Int)), (0), (by first | rfl | (simp; done) | (simp [*]; done)), H', ⟨Nat.le_refl _⟩, ⟨by first | exact Kd.R_nil _ _ _ _ _ | exact Kd.N_nil _ _ _ _ _ | exact Kd.V_nil _ _ _ _ _ | exact Kd.Q_nil _ _ _ _ _ | exact Kd.S_nil _ _ _ _ _⟩, ⟨Kd.R_mv (Kd.R_mono HO1051.out (fun _ hk => (by simp [Value.ownBlock])))⟩, ⟨km_ BK1047⟩, ⟨bm HB⟩⟩
  case round =>
   clear H'
   try clear c1
   try clear p2
   try clear c3
   try clear c8
   try clear hcz6_0
   try clear hcz6_1
   try clear hcz6_2
   try clear hcz8_0
   try clear hcz8_1
   try clear hcz8_2
   try clear hfz6_0
   try clear hfz6_1
   try clear hfz6_2
   try clear hfz8_0
   try clear hfz8_1
   try clear hfz8_2
   obtain ⟨x4_1, x6_1, rfl, HA, HK1, HO_4, HO_5, BK1047, HB⟩ := hrel
   cases gk with
   | zero => exact absurd HA.out (by simp [spec_MetCells.l0])
   | succ k1 =>
    have H := HA.out
    clear HA
    simp only [spec_MetCells.l0] at H
    by_cases c10 : x6_1 < a0_1
    ·rw [if_pos c10] at H
     have c10b0 : decide (x6_1 < a0_1) = true := decide_eq_true c10
     clear c10
     replace H := Option.bind_eq_some_iff.mp H
     obtain ⟨⟨t1052, t1053, t1054, t1055, t1056, t1057, t1060⟩, A110, H⟩ := H
     replace H : (spec_MetCells.l1 k1 x4_1 t1049 x6_1 t1060 (t1060.length : Int) 0 a0_0 a0_1 l0_2) = some (r1, r2) := H
     have A11 := Aside0.mk A110
     clear A110
     have H' := Aside0.mk H
     clear H
     obtain ⟨hcz12_0, hcz12_1, hcz12_2, hfz12_0, hfz12_1, hfz12_2⟩ := bt3 BK1047
     obtain ⟨Ao13, co13, eo13⟩ := Kd.R_slice HO_5.out
     subst eo13
     go_wp2_with (first | ((with_reducible refine gate_callee (f := 112) rfl ?_); refine goesL_ (some 27) rfl rfl Try.func112 (by kernel_rfl) rfl #[.agg #[.int .i64 a0_0, .int .i64 a0_1, .slice A0_2 l0_2.length c0_2], .slice Ao13 t1049.length co13, .int .i64 x6_1] rfl (by (try simp only [ma_, mb_, mc_]); first | done | rfl | (simp only [List.length_drop, List.length_take]; rfl)) ?_; (with_reducible refine (spec_flGo.calls k1 a0_0 a0_1 _ _ l0_2 _ _ t1049 x6_1 t1052 t1053 t1054 t1055 t1056 t1057 t1060 _ (Kd.C_mv (Kd.C_below HR0_2.out HB.out)) HC0_2.out (Kd.C_mv (Kd.R_reads' HO_5.out).2.2) ((Kd.R_reads' HO_5.out).2.1) A11.out).mono ?_); rintro e w14 ⟨v1058, v1061, rfl, ho0, ho1, hb⟩; refine ⟨_, rfl, ?_⟩; refine ev6 (Kd.R_below (Kd.R_mv HO_4.out) hb) (Kd.R_below (Kd.R_mv HO_5.out) hb) (Kd.R_lower ho0 (below_size (bm HB))) (Kd.S_lower (Kd.S_new' (Kd.S_new' ho1 (Kd.R_lt (Kd.R_mv HO_4.out))) (Kd.R_lt (Kd.R_mv HO_5.out))) (below_size (bm HB))) (kb BK1047 hb) (bs HB hb) ?_; clear HO_4 HO_5 BK1047 HB; intro HO_4 HO_5 HO1059 HO1062 BK1047 HB; (try clear hb); (try clear hb2); (try clear hk); (try clear hi); (try clear ho0); (try clear ho1)) | ((with_reducible refine gate_dst (N := 7) rfl ?_); refine box_event ?hg (N := 7) ?hd (cs := #[.int .i64 0, .int .i64 0, .int .i64 0]) (t := 90) ?hr ?_; (case hd => rfl); (case hg => rfl); (case hr => first | (go_simp; done) | (go_simp; rfl)); intro gb1063 hg w15 hbox hb; refine ev11 (Kd.R_below (Kd.R_mv HO_4.out) hb) (Kd.R_below (Kd.R_mv HO_5.out) hb) (Kd.R_below (Kd.R_mv HO1059.out) hb) (Kd.S_below (Kd.S_mv HO1062.out) hb) (kb BK1047 hb) (bs HB hb) (hbox) (gle hg HB) (gle hg HB) (gnf hg BK1047) (gne hg BK1047) ?_; clear HO_4 HO_5 HO1059 HO1062 BK1047 HB; intro HO_4 HO_5 HO1059 HO1062 BK1047 HB BK1063 GW1063 GE1063 NB1047_1063 NB1063_1047; clear hb hbox hg) | ((with_reducible refine gate_dst (N := 8) rfl ?_); refine box_event ?hg (N := 8) ?hd (cs := #[.int .i64 0, .int .i64 0, .slice none 0 0]) (t := 48) ?hr ?_; (case hd => rfl); (case hg => rfl); (case hr => first | (go_simp; done) | (go_simp; rfl)); intro gb1064 hg w16 hbox hb; refine ev12 (Kd.R_below (Kd.R_mv HO_4.out) hb) (Kd.R_below (Kd.R_mv HO_5.out) hb) (Kd.R_below (Kd.R_mv HO1059.out) hb) (Kd.S_below (Kd.S_mv HO1062.out) hb) (kb BK1047 hb) (kb BK1063 hb) (bs HB hb) (hbox) (gle hg HB) (gle hg HB) (gnf hg BK1047) (gne hg BK1047) ?_; intro n0_ n1_ n2_ n3_ n4_ n5_ n6_ n7_ n8_ n9_ n10_ n11_; refine ev2 (gnf hg BK1063) (gne hg BK1063) ?_; intro n12_ n13_; clear HO_4 HO_5 HO1059 HO1062 BK1047 BK1063 HB; revert n0_ n1_ n2_ n3_ n4_ n5_ n6_ n7_ n8_ n9_ n10_ n11_ n12_ n13_; intro HO_4 HO_5 HO1059 HO1062 BK1047 BK1063 HB BK1064 GW1064 GE1064 NB1047_1064 NB1064_1047 NB1063_1064 NB1064_1063; clear hb hbox hg; have hnb17 := NB1063_1047.out; have hnc17 := NB1047_1063.out; have hnb18 := NB1063_1064.out; have hnc18 := NB1064_1063.out; obtain ⟨hcz19_0, hcz19_1, hcz19_2, hfz19_0, hfz19_1, hfz19_2⟩ := bt3 BK1063; have hnb20 := NB1064_1047.out; have hnc20 := NB1047_1064.out; obtain ⟨hcz21_0, hcz21_1, hcz21_2, hfz21_0, hfz21_1, hfz21_2⟩ := bt3 BK1064; obtain ⟨Ao22, co22, eo22⟩ := Kd.R_slice HO1059.out; subst eo22; obtain ⟨Ao23, co23, eo23⟩ := Kd.S_slice HO1062.out; subst eo23))
     go_loopg [4, 33] k1 (fun kq v4 v33 w' => ∃ (x4_2 : List Int) (x33_2 : Int), v33 = .int .i64 x33_2 ∧ Aside0 (spec_MetCells.l1 kq x4_2 t1049 x6_1 t1060 (t1060.length : Int) x33_2 a0_0 a0_1 l0_2 = some (r1, r2)) ∧ Aside0 (kq ≤ k1) ∧ Aside0 (Kd.R (Kd.int .i64) 3 w' w.heap.size (fun k_ => some k_ ≠ ((.slice Ao13 t1049.length co13) : Value).ownBlock) v4 x4_2) ∧ Aside0 (Kd.R (Kd.int .i64) 3 w' w.heap.size (fun k_ => some k_ ≠ (v4 : Value).ownBlock) (.slice Ao13 t1049.length co13) t1049) ∧ Aside0 (Kd.S (Kd.slice 3 (Kd.int .i64)) 22 w' w.heap.size (fun k_ => some k_ ≠ (v4 : Value).ownBlock ∧ some k_ ≠ ((.slice Ao13 t1049.length co13) : Value).ownBlock) (.slice Ao23 t1060.length co23) t1060) ∧ Aside0 (Kd.R k78 78 w' w.heap.size (fun _ => True) (.slice Ao22 t1057.length co22) t1057) ∧ Aside0 (w'.heap[gb1047]? = some (.cells #[.int .i64 a0_0, .int .i64 a0_1, (.slice A0_2 l0_2.length c0_2)] 48 (0, 0))) ∧ Aside0 (w'.heap[gb1063]? = some (.cells #[.int .i64 t1052, .int .i64 t1053, .int .i64 t1054] 90 (0, 0))) ∧ Aside0 (w'.heap[gb1064]? = some (.cells #[.int .i64 t1055, .int .i64 t1056, (.slice Ao22 t1057.length co22)] 48 (0, 0))) ∧ Aside0 (Below w.heap.size w w'))
     case atStart => exact ⟨(x4_1), (0), (by first | rfl | (simp; done) | (simp [*]; done)), H', ⟨Nat.le_refl _⟩, ⟨Kd.R_mv (Kd.R_mono (Kd.R_far (p := ⟨gb1064, 2, none⟩) (Kd.R_far (p := ⟨gb1064, 1, none⟩) (Kd.R_far (p := ⟨gb1064, 0, none⟩) (Kd.R_far (p := ⟨gb1063, 2, none⟩) (Kd.R_far (p := ⟨gb1063, 1, none⟩) (Kd.R_far (p := ⟨gb1063, 0, none⟩) (Kd.R_types (Kd.R_types HO_4.out BK1063.out (by decide)) BK1064.out (by decide)) (fun _ hk => hk.1.2) (.int .i64 t1052)) (fun _ hk => hk.1.2) (.int .i64 t1053)) (fun _ hk => hk.1.2) (.int .i64 t1054)) (fun _ hk => hk.2) (.int .i64 t1055)) (fun _ hk => hk.2) (.int .i64 t1056)) (fun _ hk => hk.2) (.slice Ao22 t1057.length co22)) (fun _ hk => hk.1.1))⟩, ⟨Kd.R_mv (Kd.R_mono (Kd.R_far (p := ⟨gb1064, 2, none⟩) (Kd.R_far (p := ⟨gb1064, 1, none⟩) (Kd.R_far (p := ⟨gb1064, 0, none⟩) (Kd.R_far (p := ⟨gb1063, 2, none⟩) (Kd.R_far (p := ⟨gb1063, 1, none⟩) (Kd.R_far (p := ⟨gb1063, 0, none⟩) (Kd.R_types (Kd.R_types HO_5.out BK1063.out (by decide)) BK1064.out (by decide)) (fun _ hk => hk.1.2) (.int .i64 t1052)) (fun _ hk => hk.1.2) (.int .i64 t1053)) (fun _ hk => hk.1.2) (.int .i64 t1054)) (fun _ hk => hk.2) (.int .i64 t1055)) (fun _ hk => hk.2) (.int .i64 t1056)) (fun _ hk => hk.2) (.slice Ao22 t1057.length co22)) (fun _ hk => hk.1.1))⟩, ⟨Kd.S_mv (Kd.S_mono (Kd.S_far (p := ⟨gb1064, 2, none⟩) (Kd.S_far (p := ⟨gb1064, 1, none⟩) (Kd.S_far (p := ⟨gb1064, 0, none⟩) (Kd.S_far (p := ⟨gb1063, 2, none⟩) (Kd.S_far (p := ⟨gb1063, 1, none⟩) (Kd.S_far (p := ⟨gb1063, 0, none⟩) (Kd.S_types (Kd.S_types HO1062.out BK1063.out (by decide)) BK1064.out (by decide)) (fun _ hk => hk.1.2) (.int .i64 t1052)) (fun _ hk => hk.1.2) (.int .i64 t1053)) (fun _ hk => hk.1.2) (.int .i64 t1054)) (fun _ hk => hk.2) (.int .i64 t1055)) (fun _ hk => hk.2) (.int .i64 t1056)) (fun _ hk => hk.2) (.slice Ao22 t1057.length co22)) (fun _ hk => ⟨hk.1.1.1.2, hk.1.1.2⟩))⟩, ⟨Kd.R_mv (Kd.R_mono (ok' := fun k_ => True) (Kd.R_far (p := ⟨gb1064, 2, none⟩) (Kd.R_far (p := ⟨gb1064, 1, none⟩) (Kd.R_far (p := ⟨gb1064, 0, none⟩) (Kd.R_far (p := ⟨gb1063, 2, none⟩) (Kd.R_far (p := ⟨gb1063, 1, none⟩) (Kd.R_far (p := ⟨gb1063, 0, none⟩) (Kd.R_types (Kd.R_types HO1059.out BK1063.out (by decide)) BK1064.out (by decide)) (fun _ hk => hk.1.2) (.int .i64 t1052)) (fun _ hk => hk.1.2) (.int .i64 t1053)) (fun _ hk => hk.1.2) (.int .i64 t1054)) (fun _ hk => hk.2) (.int .i64 t1055)) (fun _ hk => hk.2) (.int .i64 t1056)) (fun _ hk => hk.2) (.slice Ao22 t1057.length co22)) (fun _ hk => trivial))⟩, ⟨fp BK1047 rfl⟩, ⟨fp BK1063 rfl⟩, ⟨fp BK1064 rfl⟩, ⟨bm HB⟩⟩
     case round =>
      clear H'
      try clear c1
      try clear c2
      try clear p2
      try clear c3
      try clear c8
      try clear c10
      try clear c10b0
      try clear c11
      try clear c17
      try clear c18
      try clear c20
      try clear hcz12_0
      try clear hcz12_1
      try clear hcz12_2
      try clear hcz19_0
      try clear hcz19_1
      try clear hcz19_2
      try clear hcz21_0
      try clear hcz21_1
      try clear hcz21_2
      try clear hcz6_0
      try clear hcz6_1
      try clear hcz6_2
      try clear hcz8_0
      try clear hcz8_1
      try clear hcz8_2
      try clear hfz12_0
      try clear hfz12_1
      try clear hfz12_2
      try clear hfz19_0
      try clear hfz19_1
      try clear hfz19_2
      try clear hfz21_0
      try clear hfz21_1
      try clear hfz21_2
      try clear hfz6_0
      try clear hfz6_1
      try clear hfz6_2
      try clear hfz8_0
      try clear hfz8_1
      try clear hfz8_2
      try clear p2
      obtain ⟨x4_2, x33_2, rfl, HA, HK2, HO_4, HO_5, HO_9, HO_1065002, BK1047, BK1063, BK1064, HB⟩ := hrel
      cases gk with
      | zero => exact absurd HA.out (by simp [spec_MetCells.l1])
      | succ k2 =>
       have H := HA.out
       clear HA
       simp only [spec_MetCells.l1] at H
       by_cases c24 : x33_2 < (t1060.length : Int)
       ·rw [if_pos c24] at H
        have c24b0 : decide (x33_2 < (t1060.length : Int)) = true := decide_eq_true c24
        clear c24
        by_cases c25 : 0 ≤ x33_2
        ·rw [if_pos c25] at H
         have c25b0 : decide (0 ≤ x33_2) = true := decide_eq_true c25
         clear c25
         by_cases c26 : x33_2 < (t1060.length : Int)
         ·rw [if_pos c26] at H
          have c26b0 : decide (x33_2 < (t1060.length : Int)) = true := decide_eq_true c26
          clear c26
          by_cases c27 : 0 < ((rd_L3 t1060 x33_2).length : Int)
          ·rw [if_pos c27] at H
           have c27b0 : decide (0 < ((rd_L3 t1060 x33_2).length : Int)) = true := decide_eq_true c27
           have c27b1 : decide (0 < (rd_L3 t1060 x33_2).length) = true := decide_eq_true (by omega)
           clear c27
           by_cases c28 : 1 < ((rd_L3 t1060 x33_2).length : Int)
           ·rw [if_pos c28] at H
            have c28b0 : decide (1 < ((rd_L3 t1060 x33_2).length : Int)) = true := decide_eq_true c28
            have c28b1 : decide (1 < (rd_L3 t1060 x33_2).length) = true := decide_eq_true (by omega)
            clear c28
            replace H := Option.bind_eq_some_iff.mp H
            obtain ⟨t1068, A290, H⟩ := H
            replace H : (spec_MetCells.l1 k2 t1068 t1049 x6_1 t1060 (t1060.length : Int) (wrap64 (x33_2 + 1)) a0_0 a0_1 l0_2) = some (r1, r2) := H
            have A29 := Aside0.mk A290
            clear A290
            have H' := Aside0.mk H
            clear H
            have p1065 : 0 ≤ (x33_2 : Int) := of_decide_eq_true (by first | (with_reducible assumption) | assumption)
            have q1065 : x33_2 < (t1060.length : Int) := of_decide_eq_true (by first | (with_reducible assumption) | assumption)
            obtain ⟨ad1065, A1065_0, c1065_0, e1065, hx1065_0, hl1065_0, hi1065_0⟩ := at_L3 (Kd.S_reads' HO_9.out).2.2 x33_2 p1065 q1065
            cases e1065
            obtain ⟨ce1065, hce1065, hMe1065, hcc1065⟩ := Kd.S_get HO_9.out [] x33_2 p1065 (by first | exact q1065 | exact of_decide_eq_true (by first | (with_reducible assumption) | assumption) | (have e_ := (Kd.S_reads' HO_9.out).1; omega))
            obtain ⟨ve1065_0, rfl, ge1065_0⟩ := hMe1065
            have hv1065_0 := hcc1065 0 _ rfl
            rw [Nat.add_zero, show ((Kd.slice 3 (Kd.int .i64))).sz = 1 from rfl, Nat.mul_one] at hv1065_0
            replace hv1065_0 := Option.some.inj (hv1065_0.symm.trans hx1065_0)
            rw [hv1065_0] at ge1065_0
            have HL1065_0 := Aside0.mk (show Kd.R (Kd.int .i64) 3 _ _ _ _ (rd_L3 t1060 x33_2) from ge1065_0)
            clear hv1065_0 ge1065_0
            clear hcc1065 hce1065
            have HR1065_0 := Aside0.mk hi1065_0
            have HC1065_0 := Aside0.mk hl1065_0
            clear hi1065_0 hl1065_0
            replace p1065 := eq_true p1065
            replace q1065 := eq_true q1065
            try go_wp2
            refine ev10 (Kd.R_drew HO_4.out) (Kd.R_drew HO_5.out) (Kd.S_drew HO_9.out) (Kd.R_drew HO_1065002.out) (Kd.R_drew HL1065_0.out) (blk_drew BK1047.out) (blk_drew BK1063.out) (blk_drew BK1064.out) (Kd.C_drew HR1065_0.out) (below_drew1 HB.out) ?_
            clear HO_4 HO_5 HO_9 HO_1065002 HL1065_0 BK1047 BK1063 BK1064 HR1065_0 HB
            intro HO_4 HO_5 HO_9 HO_1065002 HL1065_0 BK1047 BK1063 BK1064 HR1065_0 HB
            have p1066 : 0 ≤ (0 : Int) := (by omega)
            have q1066 : 0 < ((rd_L3 t1060 x33_2).length : Int) := of_decide_eq_true (by first | (with_reducible assumption) | assumption)
            obtain ⟨ad1066, e1066, hx1066_0⟩ := Kd.at_int (by repeat (first | (with_reducible exact HR1065_0.out) | (with_reducible refine Kd.C_alloc ?_ _) | (with_reducible refine Kd.C_drewN ?_ _) | (with_reducible refine Kd.C_drew ?_) | exact HR1065_0.out)) 0 p1066 q1066
            cases e1066
            have qi1066 : (0 < (rd_L3 t1060 x33_2).length) = True := eq_true (by omega)
            (try rw [show ((0 : Int)).toNat = 0 from rfl] at hx1066_0)
            (try rw [Addr.add_zero'] at hx1066_0)
            replace p1066 := eq_true p1066
            replace q1066 := eq_true q1066
            have p1067 : 0 ≤ (1 : Int) := (by omega)
            have q1067 : 1 < ((rd_L3 t1060 x33_2).length : Int) := of_decide_eq_true (by first | (with_reducible assumption) | assumption)
            obtain ⟨ad1067, e1067, hx1067_0⟩ := Kd.at_int (by repeat (first | (with_reducible exact HR1065_0.out) | (with_reducible refine Kd.C_alloc ?_ _) | (with_reducible refine Kd.C_drewN ?_ _) | (with_reducible refine Kd.C_drew ?_) | exact HR1065_0.out)) 1 p1067 q1067
            obtain rfl : ad1066 = ad1067 := (by injection e1067)
            (try simp only [show (1 : Int).toNat = 1 from rfl, Nat.reduceMul, Nat.reduceEqDiff, Go.Addr.add, ↓reduceIte] at hx1067_0)
            have qi1067 : (1 < (rd_L3 t1060 x33_2).length) = True := eq_true (by omega)
            (try rw [show ((1 : Int)).toNat = 1 from rfl] at hx1067_0)
            replace p1067 := eq_true p1067
            replace q1067 := eq_true q1067
            obtain ⟨Ao31, co31, eo31⟩ := Kd.R_slice HO_4.out
            (first | subst eo31 | (injection eo31 with f1_ f2_ f3_; have f4_ := f1_.symm; have f5_ := f3_.symm; clear f1_ f2_ f3_; subst f4_; subst f5_))
            refine start_ (n := 13) (S := fun w' => w'.cell? ⟨gb1047, 0, none⟩ = some (.int .i64 a0_0) ∧ w'.cell? ⟨gb1047, 1, none⟩ = some (.int .i64 a0_1) ∧ w'.cell? ⟨gb1047, 2, none⟩ = some (.slice A0_2 l0_2.length c0_2) ∧ w'.cell? ad1066 = some (.int .i64 (rd (rd_L3 t1060 x33_2) 0)) ∧ w'.cell? ⟨ad1066.block, ad1066.off + 1, none⟩ = some (.int .i64 (rd (rd_L3 t1060 x33_2) 1))) (ds := []) #[false, false, false, false, false, false, false, false, false, false, false, false, false] (by kernel_rfl) rfl rfl ⟨(blk_cell BK1047.out 0).trans rfl, (blk_cell BK1047.out 1).trans rfl, (blk_cell BK1047.out 2).trans rfl, hx1066_0, hx1067_0⟩ (fun hHeld => ?_); refine with_tabW spec_MetCells.tab12 spec_MetCells.bits12 (fun HT_ HW_ => ?_)
            generalize wr.drew = w30 at HO_4 HO_5 HO_9 HO_1065002 HL1065_0 BK1047 BK1063 BK1064 HR1065_0 HB hx1066_0 hx1067_0 hHeld ⊢
            refine pure_ (i := 0) (N := some 37) (v := ?_) (a' := ?_) #[true, false, false, false, false, false, false, false, false, false, false, false, false] rfl rfl (any_of HT_.out (by kernel_rfl)) (fun _ _ _ h => h) (Or.inl ⟨by rfl, ?_⟩) ?_ ?_
            rotate_left
            ·intro w'
             go_simp
             with_reducible rfl
            rotate_left
            ·simp only [Act.put, za_, zb_, zc_, i64_w, i32_w]
             rfl
            refine pure_ (i := 1) (N := some 38) (v := ?_) (a' := ?_) #[true, true, false, false, false, false, false, false, false, false, false, false, false] rfl rfl (any_of HT_.out (by kernel_rfl)) (fun _ _ _ h => h) (Or.inl ⟨by rfl, ?_⟩) ?_ ?_
            rotate_left
            ·intro w'
             go_simp
             with_reducible rfl
            rotate_left
            ·simp only [Act.put, za_, zb_, zc_, i64_w, i32_w]
             rfl
            refine pure_ (i := 2) (N := some 39) (v := ?_) (a' := ?_) #[true, true, true, false, false, false, false, false, false, false, false, false, false] rfl rfl (any_of HT_.out (by kernel_rfl)) (fun _ _ _ h => h) (Or.inl ⟨by rfl, ?_⟩) ?_ ?_
            rotate_left
            ·intro w'
             go_simp
             with_reducible rfl
            rotate_left
            ·simp only [Act.put, za_, zb_, zc_, i64_w, i32_w]
             rfl
            refine pure_ (i := 4) (N := some 41) (v := ?_) (a' := ?_) #[true, true, true, false, true, false, false, false, false, false, false, false, false] rfl rfl (any_of HT_.out (by kernel_rfl)) (fun _ _ _ h => h) (Or.inl ⟨by rfl, ?_⟩) ?_ ?_
            rotate_left
            ·intro w'
             go_simp
             with_reducible rfl
            rotate_left
            ·simp only [Act.put, za_, zb_, zc_, i64_w, i32_w]
             rfl
            refine pure_ (i := 7) (N := some 44) (v := ?_) (a' := ?_) #[true, true, true, false, true, false, false, true, false, false, false, false, false] rfl rfl (any_of HT_.out (by kernel_rfl)) (fun _ _ _ h => h) (Or.inl ⟨by rfl, ?_⟩) ?_ ?_
            rotate_left
            ·intro w'
             go_simp
             with_reducible rfl
            rotate_left
            ·simp only [Act.put, za_, zb_, zc_, i64_w, i32_w]
             rfl
            refine pure_ (i := 8) (N := some 45) (v := ?_) (a' := ?_) #[true, true, true, false, true, false, false, true, true, false, false, false, false] rfl rfl (any_of HT_.out (by kernel_rfl)) (fun _ _ _ h => h) (Or.inl ⟨by rfl, ?_⟩) ?_ ?_
            rotate_left
            ·intro w'
             go_simp
             with_reducible rfl
            rotate_left
            ·simp only [Act.put, za_, zb_, zc_, i64_w, i32_w]
             rfl
            refine take_ (i := 3) (N := some 40) (v := ?_) (a' := ?_) #[true, true, true, true, true, false, false, true, true, false, false, false, false] rfl rfl (take_ofW HT_.out HW_.out (by kernel_rfl)) (fun _ _ _ h => h) (Or.inl ⟨by rfl, ?_⟩) hHeld ?_ ?_
            rotate_left
            ·rintro w' ⟨s0, s1, s2, s3, s4⟩
             go_simp
             with_reducible rfl
            rotate_left
            ·simp only [Act.put, za_, zb_, zc_, i64_w, i32_w]
             rfl
            refine take_ (i := 5) (N := some 42) (v := ?_) (a' := ?_) #[true, true, true, true, true, true, false, true, true, false, false, false, false] rfl rfl (take_ofW HT_.out HW_.out (by kernel_rfl)) (fun _ _ _ h => h) (Or.inl ⟨by rfl, ?_⟩) hHeld ?_ ?_
            rotate_left
            ·rintro w' ⟨s0, s1, s2, s3, s4⟩
             go_simp
             with_reducible rfl
            rotate_left
            ·simp only [Act.put, za_, zb_, zc_, i64_w, i32_w]
             rfl
            refine pure_ (i := 6) (N := some 43) (v := ?_) (a' := ?_) #[true, true, true, true, true, true, true, true, true, false, false, false, false] rfl rfl (any_of HT_.out (by kernel_rfl)) (fun _ _ _ h => h) (Or.inl ⟨by rfl, ?_⟩) ?_ ?_
            rotate_left
            ·intro w'
             go_simp
             with_reducible rfl
            rotate_left
            ·simp only [Act.put, za_, zb_, zc_, i64_w, i32_w]
             rfl
            refine take_ (i := 9) (N := some 46) (v := ?_) (a' := ?_) #[true, true, true, true, true, true, true, true, true, true, false, false, false] rfl rfl (take_ofW HT_.out HW_.out (by kernel_rfl)) (fun _ _ _ h => h) (Or.inl ⟨by rfl, ?_⟩) hHeld ?_ ?_
            rotate_left
            ·rintro w' ⟨s0, s1, s2, s3, s4⟩
             go_simp
             with_reducible rfl
            rotate_left
            ·simp only [Act.put, za_, zb_, zc_, i64_w, i32_w]
             rfl
            refine pure_ (i := 10) (N := some 47) (v := ?_) (a' := ?_) #[true, true, true, true, true, true, true, true, true, true, true, false, false] rfl rfl (any_of HT_.out (by kernel_rfl)) (fun _ _ _ h => h) (Or.inl ⟨by rfl, ?_⟩) ?_ ?_
            rotate_left
            ·intro w'
             go_simp
             with_reducible rfl
            rotate_left
            ·simp only [Act.put, za_, zb_, zc_, i64_w, i32_w]
             rfl
            refine one_ (i := 11) (N := some 48) #[true, true, true, true, true, true, true, true, true, true, true, true, false] rfl rfl (one_of HT_.out (by kernel_rfl)) (by decide) (fun K hK => ?_)
            refine goes_ Try.func138 (by kernel_rfl) rfl #[.slice Ao31 x4_2.length co31, .int .i64 (wrap64 ((wrap64 ((rd (rd_L3 t1060 x33_2) 0) * a0_1)) + (rd (rd_L3 t1060 x33_2) 1)))] (by rfl) rfl rfl (by (try simp only [ma_, mb_, mc_]); first | done | rfl | (simp only [List.length_drop, List.length_take]; rfl)) ?_
            with_reducible refine (spec_l1Put.calls k2 (fun k_ => some k_ = (.slice Ao31 x4_2.length co31 : Value).ownBlock) (.slice Ao31 x4_2.length co31) x4_2 (wrap64 ((wrap64 ((rd (rd_L3 t1060 x33_2) 0) * a0_1)) + (rd (rd_L3 t1060 x33_2) 1))) t1068 w _ ?side1 ?side2 A29.out).mono ?_
            (case side1 => exact bm HB)
            (case side2 => exact Kd.R_tight rfl HO_4.out)
            rintro e w32 ⟨v1069, rfl, ho0, hb, hkp⟩
            have HS3_ := cell_kept (hHeld.2.2.2.1) hkp (by first | (rw [add_block]; exact (fun hs_ => (((HL1065_0.out).1 _ rfl).1.1) hs_)) | (show ¬ _; simp only [add_block]; exact (fun hs_ => (((HL1065_0.out).1 _ rfl).1.1) hs_)) | exact (fun hs_ => (((HL1065_0.out).1 _ rfl).1.1) hs_))
            have HS4_ := cell_kept (hHeld.2.2.2.2) hkp (by first | (rw [add_block]; exact (fun hs_ => (((HL1065_0.out).1 _ rfl).1.1) hs_)) | (show ¬ _; simp only [add_block]; exact (fun hs_ => (((HL1065_0.out).1 _ rfl).1.1) hs_)) | exact (fun hs_ => (((HL1065_0.out).1 _ rfl).1.1) hs_))
            refine ⟨_, rfl, ?_⟩
            refine ev8 (Kd.R_mono (ok' := fun k_ => some k_ ≠ (v1069 : Value).ownBlock) (Kd.R_keptB (HO_5.out) hkp (fun k_ hk_ hs_ => (hk_) hs_)) (fun k_ hk_ => fun e_ => Or.elim (ho0.1 k_ e_.symm) (fun hs_ => hk_.2.1 hs_) (fun hn_ => Nat.not_le.2 hk_.2.2 hn_))) (Kd.S_mono (ok' := fun k_ => some k_ ≠ (.slice Ao13 t1049.length co13 : Value).ownBlock ∧ some k_ ≠ (v1069 : Value).ownBlock) (Kd.S_keptB (HO_9.out) hkp (fun k_ hk_ hs_ => (hk_.1) hs_)) (fun k_ hk_ => ⟨hk_.1.2, fun e_ => Or.elim (ho0.1 k_ e_.symm) (fun hs_ => hk_.2.1 hs_) (fun hn_ => Nat.not_le.2 hk_.2.2 hn_)⟩)) (Kd.R_mono (ok' := fun k_ => True) (Kd.R_keptB ((Kd.R_apart' HO_1065002.out (Kd.R_typed HO_4.out) (by decide))) hkp (fun k_ hk_ hs_ => (hk_.2) hs_)) (fun k_ hk_ => trivial)) (blk_kept (km_ BK1047) hkp (fun hs_ => (fun e_ => (Kd.R_ne HO_4.out BK1047.out (by decide)) e_) hs_)) (blk_kept (km_ BK1063) hkp (fun hs_ => (fun e_ => (Kd.R_ne HO_4.out BK1063.out (by decide)) e_) hs_)) (blk_kept (km_ BK1064) hkp (fun hs_ => (fun e_ => (Kd.R_ne HO_4.out BK1064.out (by decide)) e_) hs_)) (Kd.R_mono (ok' := fun k_ => some k_ ≠ (.slice Ao13 t1049.length co13 : Value).ownBlock) ho0 (fun k_ hk_ => Or.elim hk_ (fun hs_ => fun e_ => (((HO_5.out).1 k_ e_.symm)) hs_) (fun hn_ => (Kd.fresh' (Kd.R_lt (Kd.R_mv HO_5.out)) k_ hn_)))) (hb) ?_
            clear HO_5 HO_9 HO_1065002 BK1047 BK1063 BK1064 HB HO_4 HL1065_0
            intro HO_5 HO_9 HO_1065002 BK1047 BK1063 BK1064 HO1070 HB
            (try clear hb)
            (try clear hkp)
            (try clear ho0)
            refine hK.out _ _ ⟨(blk_cell BK1047.out 0).trans rfl, (blk_cell BK1047.out 1).trans rfl, (blk_cell BK1047.out 2).trans rfl, HS3_, HS4_⟩ (fun hHeld => ?_)
            clear hK K
            refine norm_ (a' := ?_) ?_ ?_
            rotate_left
            ·show Act.put _ (some 48) _ = _
             simp only [Act.put, za_, zb_, zc_, i64_w, i32_w]
             rfl
            refine pure_ (i := 12) (N := some 4) (v := ?_) (a' := ?_) #[true, true, true, true, true, true, true, true, true, true, true, true, true] rfl rfl (any_of HT_.out (by kernel_rfl)) (fun _ _ _ h => h) (Or.inl ⟨by rfl, ?_⟩) ?_ ?_
            rotate_left
            ·intro w'
             go_simp
             with_reducible rfl
            rotate_left
            ·simp only [Act.put, za_, zb_, zc_, i64_w, i32_w]
             rfl
            refine done_ (done_of HT_.out (by kernel_rfl)) ?_
            try go_wp2
            go_roundg k2
            case measure => have := HK1.out; have := HK2.out; omega
            case rel => exact ⟨(t1068), (wrap64 (x33_2 + 1)), (by first | rfl | (simp; done) | (simp [*]; done)), H', ⟨by have := HK1.out; have := HK2.out; omega⟩, ⟨Kd.R_mv HO1070.out⟩, ⟨Kd.R_mv HO_5.out⟩, ⟨Kd.S_mv (Kd.S_mono HO_9.out (fun _ hk => ⟨hk.2, hk.1⟩))⟩, ⟨Kd.R_mv HO_1065002.out⟩, ⟨km_ BK1047⟩, ⟨km_ BK1063⟩, ⟨km_ BK1064⟩, ⟨bm HB⟩⟩
           ·rw [if_neg c28] at H
            exact absurd H (by simp)
          ·rw [if_neg c27] at H
           exact absurd H (by simp)
         ·rw [if_neg c26] at H
          exact absurd H (by simp)
        ·rw [if_neg c25] at H
         exact absurd H (by simp)
       ·rw [if_neg c24] at H
        have c24b0 : decide (x33_2 < (t1060.length : Int)) = false := decide_eq_false c24
        clear c24
        have H' := Aside0.mk H
        clear H
        go_wp2
        go_roundg k2
        case measure => have := HK1.out; have := HK2.out; omega
        case rel => exact ⟨(x4_2), (wrap64 (x6_1 + 1)), (by first | rfl | (simp; done) | (simp [*]; done)), H', ⟨by have := HK1.out; have := HK2.out; omega⟩, ⟨Kd.R_mv HO_4.out⟩, ⟨Kd.R_mv HO_5.out⟩, ⟨km_ BK1047⟩, ⟨bm HB⟩⟩
    ·rw [if_neg c10] at H
     have c10b0 : decide (x6_1 < a0_1) = false := decide_eq_false c10
     clear c10
     simp only [Option.some.injEq, Prod.mk.injEq] at H
     obtain ⟨rfl, rfl⟩ := H
     obtain ⟨hcz33_0, hcz33_1, hcz33_2, hfz33_0, hfz33_1, hfz33_2⟩ := bt3 BK1047
     go_wp2
     go_ret2
     exact ⟨_, by first | rfl | (simp [e0_, e1_] <;> rfl) | (simp [*, e0_, e1_] <;> rfl), Kd.R_mv (Kd.R_mono (ok' := fun k_ => True) HO_4.out (fun _ hk => trivial)), bm HB⟩
 ·replace c3 := Bool.eq_false_iff.mpr c3
  subst c3
  have H1 : (some (([] : List Int), false)) = some (r1, r2) := by rw [if_neg (show ¬ (false = true) by decide)] at H; exact H
  clear H
  have H := H1
  clear H1
  simp only [Option.some.injEq, Prod.mk.injEq] at H
  obtain ⟨rfl, rfl⟩ := H
  go_enter Try.func119, Try.ntmps119
  go_wp2_with (first | ((with_reducible refine gate_dst (N := 1) rfl ?_); refine box_event ?hg (N := 1) ?hd (cs := #[.int .i64 a0_0, .int .i64 a0_1, .slice A0_2 l0_2.length c0_2]) (t := 48) ?hr ?_; (case hd => rfl); (case hg => rfl); (case hr => first | (go_simp; done) | (go_simp; rfl)); intro gb1047 hg w34 hbox hb; refine ev4 (bs HB hb) (hbox) (gle hg HB) (gle hg HB) ?_; clear HB; intro HB BK1047 GW1047 GE1047; clear hb hbox hg; obtain ⟨hcz35_0, hcz35_1, hcz35_2, hfz35_0, hfz35_1, hfz35_2⟩ := bt3 BK1047) | ((with_reducible refine gate_callee (f := 84) rfl ?_); refine goesL_ (some 13) rfl rfl Try.func84 (by kernel_rfl) rfl #[.agg #[.int .i64 a0_0, .int .i64 a0_1, .slice A0_2 l0_2.length c0_2]] rfl (by (try simp only [ma_, mb_, mc_]); first | done | rfl | (simp only [List.length_drop, List.length_take]; rfl)) ?_; (with_reducible refine (spec_boGood.calls k a0_0 a0_1 _ _ l0_2 false _ (Kd.C_mv (Kd.C_below HR0_2.out HB.out)) HC0_2.out A2.out).mono ?_); rintro e w36 ⟨rfl, hb⟩; refine ⟨_, rfl, ?_⟩; refine ev2 (kb BK1047 hb) (bs HB hb) ?_; clear BK1047 HB; intro BK1047 HB; (try clear hb); (try clear hb2); (try clear hk); (try clear hi)))
  go_ret2
  exact ⟨_, by first | rfl | (simp [e0_, e1_] <;> rfl) | (simp [*, e0_, e1_] <;> rfl), by first | exact Kd.R_nil _ _ _ _ _ | exact Kd.N_nil _ _ _ _ _ | exact Kd.V_nil _ _ _ _ _ | exact Kd.Q_nil _ _ _ _ _ | exact Kd.S_nil _ _ _ _ _, bm HB⟩

/-! ### spec_vfUnused: function 85 -/
def spec_vfUnused.l0 : Nat → List Int → List Int → List (S78) → Int → Int → Option (List Int)
 | 0, _, _, _, _, _ => none
 | k + 1, x3, x5, x14, x15, x16 => if x16 < x15 then (if 0 ≤ x16 then (if x16 < (x14.length : Int) then (if ((rd_T78 x14 x16).f0) = 0 then (spec_vfUnused.l0 k x3 x5 x14 x15 (wrap64 (x16 + 1))) else ((spec_l1Has.f k x3 x16).bind fun t1078 => (if t1078 = true then (spec_vfUnused.l0 k x3 x5 x14 x15 (wrap64 (x16 + 1))) else (if x5.length < 17592186044416 then (spec_vfUnused.l0 k x3 (x5 ++ [x16]) x14 x15 (wrap64 (x16 + 1))) else (none))))) else (none)) else (none)) else (some x5)
def spec_vfUnused.f (k : Nat) (a0_0 : Int) (a0_1 : Int) (l0_2 : List (S78)) : Option (List Int) := (spec_MetCells.f k a0_0 a0_1 l0_2).bind fun bt1072 => (spec_vfUnused.l0 k bt1072.1 ([] : List Int) l0_2 (l0_2.length : Int) 0)
set_option maxHeartbeats 8000000 in
set_option maxRecDepth 100000 in
theorem spec_vfUnused.calls (k : Nat) (a0_0 : Int) (a0_1 : Int) (A0_2 : Option Addr) (c0_2 : Nat) (l0_2 : List (S78)) (r : List Int) (w : World) (hr0_2 : Kd.C k78 w A0_2 l0_2.length l0_2) (hc0_2 : l0_2.length ≤ c0_2) (h : spec_vfUnused.f k a0_0 a0_1 l0_2 = some r) :
  Calls Try.prog 85 #[.agg #[.int .i64 a0_0, .int .i64 a0_1, .slice A0_2 l0_2.length c0_2]] w fun e w' => ∃ v0_ : Value, e = .returned (v0_) ∧ Kd.R (Kd.int .i64) 3 w' w.heap.size (fun _ => True) v0_ r ∧ Below w.heap.size w w' := by
 have HR0_2 := Aside0.mk hr0_2
 have HC0_2 := Aside0.mk hc0_2
 clear hr0_2 hc0_2
 have HB := Aside0.mk (Below.refl w.heap.size w)
 have H : ((spec_MetCells.f k a0_0 a0_1 l0_2).bind fun bt1072 => (spec_vfUnused.l0 k bt1072.1 ([] : List Int) l0_2 (l0_2.length : Int) 0)) = some r := h
 clear h
 replace H := Option.bind_eq_some_iff.mp H
 obtain ⟨⟨t1072, t1075⟩, A20, H⟩ := H
 replace H : (spec_vfUnused.l0 k t1072 ([] : List Int) l0_2 (l0_2.length : Int) 0) = some r := H
 have A2 := Aside0.mk A20
 clear A20
 have H' := Aside0.mk H
 clear H
 go_enter Try.func85, Try.ntmps85
 go_wp2_with (first | ((with_reducible refine gate_dst (N := 1) rfl ?_); refine box_event ?hg (N := 1) ?hd (cs := #[.int .i64 a0_0, .int .i64 a0_1, .slice A0_2 l0_2.length c0_2]) (t := 48) ?hr ?_; (case hd => rfl); (case hg => rfl); (case hr => first | (go_simp; done) | (go_simp; rfl)); intro gb1071 hg w3 hbox hb; refine ev4 (bs HB hb) (hbox) (gle hg HB) (gle hg HB) ?_; clear HB; intro HB BK1071 GW1071 GE1071; clear hb hbox hg; obtain ⟨hcz4_0, hcz4_1, hcz4_2, hfz4_0, hfz4_1, hfz4_2⟩ := bt3 BK1071) | ((with_reducible refine gate_callee (f := 119) rfl ?_); refine goesL_ (some 10) rfl rfl Try.func119 (by kernel_rfl) rfl #[.agg #[.int .i64 a0_0, .int .i64 a0_1, .slice A0_2 l0_2.length c0_2]] rfl (by (try simp only [ma_, mb_, mc_]); first | done | rfl | (simp only [List.length_drop, List.length_take]; rfl)) ?_; (with_reducible refine (spec_MetCells.calls k a0_0 a0_1 _ _ l0_2 t1072 t1075 _ (Kd.C_mv (Kd.C_below HR0_2.out HB.out)) HC0_2.out A2.out).mono ?_); rintro e w5 ⟨v1073, rfl, ho0, hb⟩; refine ⟨_, rfl, ?_⟩; refine ev3 (Kd.R_lower ho0 (below_size (bm HB))) (kb BK1071 hb) (bs HB hb) ?_; clear BK1071 HB; intro HO1074 BK1071 HB; (try clear hb); (try clear hb2); (try clear hk); (try clear hi); (try clear ho0); obtain ⟨hcz6_0, hcz6_1, hcz6_2, hfz6_0, hfz6_1, hfz6_2⟩ := bt3 BK1071))
 go_loopg [5, 16] k (fun kq v5 v16 w' => ∃ (x5_1 : List Int) (x16_1 : Int), v16 = .int .i64 x16_1 ∧ Aside0 (spec_vfUnused.l0 kq t1072 x5_1 l0_2 (l0_2.length : Int) x16_1 = some r) ∧ Aside0 (kq ≤ k) ∧ Aside0 (Kd.R (Kd.int .i64) 3 w' w.heap.size (fun k_ => some k_ ≠ (v5 : Value).ownBlock) v1073 t1072) ∧ Aside0 (Kd.R (Kd.int .i64) 3 w' w.heap.size (fun k_ => some k_ ≠ (v1073 : Value).ownBlock) v5 x5_1) ∧ Aside0 (w'.heap[gb1071]? = some (.cells #[.int .i64 a0_0, .int .i64 a0_1, (.slice A0_2 l0_2.length c0_2)] 48 (0, 0))) ∧ Aside0 (Below w.heap.size w w'))
 case atStart => exact ⟨(([] : List Int)), (0), (by first | rfl | (simp; done) | (simp [*]; done)), H', ⟨Nat.le_refl _⟩, ⟨Kd.R_mv (Kd.R_mono HO1074.out (fun _ hk => (by simp [Value.ownBlock])))⟩, ⟨by first | exact Kd.R_nil _ _ _ _ _ | exact Kd.N_nil _ _ _ _ _ | exact Kd.V_nil _ _ _ _ _ | exact Kd.Q_nil _ _ _ _ _ | exact Kd.S_nil _ _ _ _ _⟩, ⟨km_ BK1071⟩, ⟨bm HB⟩⟩
 case round =>
  clear H'
  try clear c1
  try clear p2
  try clear hcz4_0
  try clear hcz4_1
  try clear hcz4_2
  try clear hcz6_0
  try clear hcz6_1
  try clear hcz6_2
  try clear hfz4_0
  try clear hfz4_1
  try clear hfz4_2
  try clear hfz6_0
  try clear hfz6_1
  try clear hfz6_2
  obtain ⟨x5_1, x16_1, rfl, HA, HK1, HO_3, HO_5, BK1071, HB⟩ := hrel
  cases gk with
  | zero => exact absurd HA.out (by simp [spec_vfUnused.l0])
  | succ k1 =>
   have H := HA.out
   clear HA
   simp only [spec_vfUnused.l0] at H
   by_cases c7 : x16_1 < (l0_2.length : Int)
   ·rw [if_pos c7] at H
    have c7b0 : decide (x16_1 < (l0_2.length : Int)) = true := decide_eq_true c7
    clear c7
    by_cases c8 : 0 ≤ x16_1
    ·rw [if_pos c8] at H
     have c8b0 : decide (0 ≤ x16_1) = true := decide_eq_true c8
     clear c8
     by_cases c9 : x16_1 < (l0_2.length : Int)
     ·rw [if_pos c9] at H
      have c9b0 : decide (x16_1 < (l0_2.length : Int)) = true := decide_eq_true c9
      clear c9
      by_cases c10 : ((rd_T78 l0_2 x16_1).f0) = 0
      ·rw [if_pos c10] at H
       have c10b0 : (((rd_T78 l0_2 x16_1).f0) == 0) = true := beq_iff_eq.mpr c10
       have c10b1 : (((rd_T78 l0_2 x16_1).f0) != 0) = false := bne_eq_false_iff_eq.mpr c10
       clear c10
       have H' := Aside0.mk H
       clear H
       have p1076 : 0 ≤ (x16_1 : Int) := of_decide_eq_true (by first | (with_reducible assumption) | assumption)
       have q1076 : x16_1 < (l0_2.length : Int) := of_decide_eq_true (by first | (with_reducible assumption) | assumption)
       obtain ⟨ad1076, e1076, hx1076_0, hx1076_1⟩ := at_T78 HR0_2.out x16_1 p1076 q1076
       cases e1076
       replace hx1076_0 := (HB.out.cell (World.block_lt_of_cell? w _ hx1076_0)).trans hx1076_0
       replace hx1076_1 := (HB.out.cell (World.block_lt_of_cell? w _ hx1076_1)).trans hx1076_1
       replace p1076 := eq_true p1076
       replace q1076 := eq_true q1076
       go_wp2_with (first | ((with_reducible refine gate_dst (N := 7) rfl ?_); refine box_event ?hg (N := 7) ?hd (cs := #[.int .i64 0, .int .i64 0]) (t := 78) ?hr ?_; (case hd => rfl); (case hg => rfl); (case hr => first | (go_simp; done) | (go_simp; rfl)); intro gb1077 hg w11 hbox hb; refine ev9 (Kd.R_below (Kd.R_mv HO_3.out) hb) (Kd.R_below (Kd.R_mv HO_5.out) hb) (kb BK1071 hb) (bs HB hb) (hbox) (gle hg HB) (gle hg HB) (gnf hg BK1071) (gne hg BK1071) ?_; clear HO_3 HO_5 BK1071 HB; intro HO_3 HO_5 BK1071 HB BK1077 GW1077 GE1077 NB1071_1077 NB1077_1071; clear hb hbox hg; have hnb12 := NB1077_1071.out; have hnc12 := NB1071_1077.out; obtain ⟨hcz13_0, hcz13_1, hfz13_0, hfz13_1⟩ := bt2 BK1077))
       go_roundg k1
       case measure => have := HK1.out; omega
       case rel => exact ⟨(x5_1), (wrap64 (x16_1 + 1)), (by first | rfl | (simp; done) | (simp [*]; done)), H', ⟨by have := HK1.out; omega⟩, ⟨Kd.R_mv (Kd.R_mono (Kd.R_far (p := ⟨gb1077, 1, none⟩) (Kd.R_far (p := ⟨gb1077, 0, none⟩) (Kd.R_types HO_3.out BK1077.out (by decide)) (fun _ hk => hk.2) (.int .i64 ((rd_T78 l0_2 x16_1).f0))) (fun _ hk => hk.2) (.int .i64 ((rd_T78 l0_2 x16_1).f1))) (fun _ hk => hk.1))⟩, ⟨Kd.R_mv (Kd.R_mono (Kd.R_far (p := ⟨gb1077, 1, none⟩) (Kd.R_far (p := ⟨gb1077, 0, none⟩) (Kd.R_types HO_5.out BK1077.out (by decide)) (fun _ hk => hk.2) (.int .i64 ((rd_T78 l0_2 x16_1).f0))) (fun _ hk => hk.2) (.int .i64 ((rd_T78 l0_2 x16_1).f1))) (fun _ hk => hk.1))⟩, ⟨fp BK1071 rfl⟩, ⟨bm HB⟩⟩
      ·rw [if_neg c10] at H
       have c10b0 : (((rd_T78 l0_2 x16_1).f0) == 0) = false := beq_eq_false_iff_ne.mpr c10
       have c10b1 : (((rd_T78 l0_2 x16_1).f0) != 0) = true := bne_iff_ne.mpr c10
       replace H := Option.bind_eq_some_iff.mp H
       obtain ⟨t1078, A140, H⟩ := H
       replace H : (if t1078 = true then (spec_vfUnused.l0 k1 t1072 x5_1 l0_2 (l0_2.length : Int) (wrap64 (x16_1 + 1))) else (if x5_1.length < 17592186044416 then (spec_vfUnused.l0 k1 t1072 (x5_1 ++ [x16_1]) l0_2 (l0_2.length : Int) (wrap64 (x16_1 + 1))) else (none))) = some r := H
       have A14 := Aside0.mk A140
       clear A140
       by_cases c15 : t1078 = true
       ·subst c15
        have H1 : (spec_vfUnused.l0 k1 t1072 x5_1 l0_2 (l0_2.length : Int) (wrap64 (x16_1 + 1))) = some r := by rw [if_pos rfl] at H; exact H
        clear H
        have H := H1
        clear H1
        have H' := Aside0.mk H
        clear H
        have p1076 : 0 ≤ (x16_1 : Int) := of_decide_eq_true (by first | (with_reducible assumption) | assumption)
        have q1076 : x16_1 < (l0_2.length : Int) := of_decide_eq_true (by first | (with_reducible assumption) | assumption)
        obtain ⟨ad1076, e1076, hx1076_0, hx1076_1⟩ := at_T78 HR0_2.out x16_1 p1076 q1076
        cases e1076
        replace hx1076_0 := (HB.out.cell (World.block_lt_of_cell? w _ hx1076_0)).trans hx1076_0
        replace hx1076_1 := (HB.out.cell (World.block_lt_of_cell? w _ hx1076_1)).trans hx1076_1
        replace p1076 := eq_true p1076
        replace q1076 := eq_true q1076
        go_wp2_with (first | ((with_reducible refine gate_dst (N := 7) rfl ?_); refine box_event ?hg (N := 7) ?hd (cs := #[.int .i64 0, .int .i64 0]) (t := 78) ?hr ?_; (case hd => rfl); (case hg => rfl); (case hr => first | (go_simp; done) | (go_simp; rfl)); intro gb1077 hg w16 hbox hb; refine ev9 (Kd.R_below (Kd.R_mv HO_3.out) hb) (Kd.R_below (Kd.R_mv HO_5.out) hb) (kb BK1071 hb) (bs HB hb) (hbox) (gle hg HB) (gle hg HB) (gnf hg BK1071) (gne hg BK1071) ?_; clear HO_3 HO_5 BK1071 HB; intro HO_3 HO_5 BK1071 HB BK1077 GW1077 GE1077 NB1071_1077 NB1077_1071; clear hb hbox hg; have hnb17 := NB1077_1071.out; have hnc17 := NB1071_1077.out; obtain ⟨hcz18_0, hcz18_1, hfz18_0, hfz18_1⟩ := bt2 BK1077; obtain ⟨Ao19, co19, eo19⟩ := Kd.R_slice HO_3.out; subst eo19) | (go_at_call 99; (with_reducible refine (spec_l1Has.calls k1 _ _ t1072 x16_1 true _ ?side1 ((Kd.R_reads' HO_3.out).2.1) A14.out).mono ?_); (case side1 => refine (Kd.R_reads' (e := 3) (base := w.heap.size) (ok := fun k_ => some k_ ≠ (u5 : Value).ownBlock) (n := t1072.length) (c := co19) ?_).2.2; exact (Kd.R_mv (Kd.R_mono (Kd.R_far (p := ⟨gb1077, 1, none⟩) (Kd.R_far (p := ⟨gb1077, 0, none⟩) (Kd.R_types HO_3.out BK1077.out (by decide)) (fun _ hk => hk.2) (.int .i64 ((rd_T78 l0_2 x16_1).f0))) (fun _ hk => hk.2) (.int .i64 ((rd_T78 l0_2 x16_1).f1))) (fun _ h_ => h_.1)))); rintro e w' ⟨rfl, ⟨nd, rfl⟩⟩))
        go_roundg k1
        case measure => have := HK1.out; omega
        case rel => exact ⟨(x5_1), (wrap64 (x16_1 + 1)), (by first | rfl | (simp; done) | (simp [*]; done)), H', ⟨by have := HK1.out; omega⟩, ⟨Kd.R_mv (Kd.R_mono (Kd.R_far (p := ⟨gb1077, 1, none⟩) (Kd.R_far (p := ⟨gb1077, 0, none⟩) (Kd.R_types HO_3.out BK1077.out (by decide)) (fun _ hk => hk.2) (.int .i64 ((rd_T78 l0_2 x16_1).f0))) (fun _ hk => hk.2) (.int .i64 ((rd_T78 l0_2 x16_1).f1))) (fun _ hk => hk.1))⟩, ⟨Kd.R_mv (Kd.R_mono (Kd.R_far (p := ⟨gb1077, 1, none⟩) (Kd.R_far (p := ⟨gb1077, 0, none⟩) (Kd.R_types HO_5.out BK1077.out (by decide)) (fun _ hk => hk.2) (.int .i64 ((rd_T78 l0_2 x16_1).f0))) (fun _ hk => hk.2) (.int .i64 ((rd_T78 l0_2 x16_1).f1))) (fun _ hk => hk.1))⟩, ⟨fp BK1071 rfl⟩, ⟨bm HB⟩⟩
       ·replace c15 := Bool.eq_false_iff.mpr c15
        subst c15
        have H1 : (if x5_1.length < 17592186044416 then (spec_vfUnused.l0 k1 t1072 (x5_1 ++ [x16_1]) l0_2 (l0_2.length : Int) (wrap64 (x16_1 + 1))) else (none)) = some r := by rw [if_neg (show ¬ (false = true) by decide)] at H; exact H
        clear H
        have H := H1
        clear H1
        by_cases c20 : x5_1.length < 17592186044416
        ·rw [if_pos c20] at H
         have LMc20 := Aside0.mk c20
         clear c20
         obtain ⟨y1079, hy1079⟩ : ∃ y_ : List Int, y_ = (x5_1 ++ [x16_1]) := ⟨_, rfl⟩
         replace H : (spec_vfUnused.l0 k1 t1072 y1079 l0_2 (l0_2.length : Int) (wrap64 (x16_1 + 1))) = some r := by first | (rw [hy1079]; with_reducible exact H) | (have H2_ := (Option.bind_some _ _).symm.trans H; rw [hy1079]; with_reducible exact H2_) | (have H2_ := (Option.bind_some _ _).symm.trans H; with_reducible exact H2_) | with_reducible exact H | (rw [hy1079]; exact H) | exact H
         have Ny1079 := Aside0.mk hy1079
         clear hy1079
         have H' := Aside0.mk H
         clear H
         have p1076 : 0 ≤ (x16_1 : Int) := of_decide_eq_true (by first | (with_reducible assumption) | assumption)
         have q1076 : x16_1 < (l0_2.length : Int) := of_decide_eq_true (by first | (with_reducible assumption) | assumption)
         obtain ⟨ad1076, e1076, hx1076_0, hx1076_1⟩ := at_T78 HR0_2.out x16_1 p1076 q1076
         cases e1076
         replace hx1076_0 := (HB.out.cell (World.block_lt_of_cell? w _ hx1076_0)).trans hx1076_0
         replace hx1076_1 := (HB.out.cell (World.block_lt_of_cell? w _ hx1076_1)).trans hx1076_1
         replace p1076 := eq_true p1076
         replace q1076 := eq_true q1076
         go_wp2_with (first | ((with_reducible refine gate_dst (N := 7) rfl ?_); refine box_event ?hg (N := 7) ?hd (cs := #[.int .i64 0, .int .i64 0]) (t := 78) ?hr ?_; (case hd => rfl); (case hg => rfl); (case hr => first | (go_simp; done) | (go_simp; rfl)); intro gb1077 hg w21 hbox hb; refine ev9 (Kd.R_below (Kd.R_mv HO_3.out) hb) (Kd.R_below (Kd.R_mv HO_5.out) hb) (kb BK1071 hb) (bs HB hb) (hbox) (gle hg HB) (gle hg HB) (gnf hg BK1071) (gne hg BK1071) ?_; clear HO_3 HO_5 BK1071 HB; intro HO_3 HO_5 BK1071 HB BK1077 GW1077 GE1077 NB1071_1077 NB1077_1071; clear hb hbox hg; have hnb22 := NB1077_1071.out; have hnc22 := NB1071_1077.out; obtain ⟨hcz23_0, hcz23_1, hfz23_0, hfz23_1⟩ := bt2 BK1077; obtain ⟨Ao24, co24, eo24⟩ := Kd.R_slice HO_3.out; subst eo24) | (go_at_call 99; (with_reducible refine (spec_l1Has.calls k1 _ _ t1072 x16_1 false _ ?side1 ((Kd.R_reads' HO_3.out).2.1) A14.out).mono ?_); (case side1 => refine (Kd.R_reads' (e := 3) (base := w.heap.size) (ok := fun k_ => some k_ ≠ (u5 : Value).ownBlock) (n := t1072.length) (c := co24) ?_).2.2; exact (Kd.R_mv (Kd.R_mono (Kd.R_far (p := ⟨gb1077, 1, none⟩) (Kd.R_far (p := ⟨gb1077, 0, none⟩) (Kd.R_types HO_3.out BK1077.out (by decide)) (fun _ hk => hk.2) (.int .i64 ((rd_T78 l0_2 x16_1).f0))) (fun _ hk => hk.2) (.int .i64 ((rd_T78 l0_2 x16_1).f1))) (fun _ h_ => h_.1)))); rintro e w' ⟨rfl, ⟨nd, rfl⟩⟩) | ((with_reducible refine gate_builtin (b := .append) (xs := #[.tmp 30, .tmp 32]) rfl ?_); at_builtin; refine Kd.R_append (Kd.int .i64) (w0 := w) w.heap.size rfl (.tmp 30) (.tmp 32) 22 3 (.int .i64 0) 8 rfl Try.underlying22 info3 rfl (by decide) (by omega) u5 x5_1 x16_1 [.int .i64 x16_1] (fun k_ => some k_ ≠ (.slice Ao24 t1072.length co24 : Value).ownBlock) (fun _ => False) rfl (by first | (go_simp; done) | (go_simp; rfl)) ?aP (fun _ hk => hk.elim) ?aF ?aO ?aB ?aS ?aL ?_; (case aP => exact rfl); (case aB => exact (bm HB)); (case aF => exact (fun k_ hk => Kd.fresh' (Kd.R_lt (Kd.R_mv (Kd.R_mono (Kd.R_far (p := ⟨gb1077, 1, none⟩) (Kd.R_far (p := ⟨gb1077, 0, none⟩) (Kd.R_types HO_3.out BK1077.out (by decide)) (fun _ hk => hk.2) (.int .i64 ((rd_T78 l0_2 x16_1).f0))) (fun _ hk => hk.2) (.int .i64 ((rd_T78 l0_2 x16_1).f1))) (fun _ h_ => h_.1)))) k_ hk)); (case aO => exact (Kd.R_mv (Kd.R_mono (Kd.R_far (p := ⟨gb1077, 1, none⟩) (Kd.R_far (p := ⟨gb1077, 0, none⟩) (Kd.R_types HO_5.out BK1077.out (by decide)) (fun _ hk => hk.2) (.int .i64 ((rd_T78 l0_2 x16_1).f0))) (fun _ hk => hk.2) (.int .i64 ((rd_T78 l0_2 x16_1).f1))) (fun _ hk => hk.1)))); (case aS => exact (below_size (bm HB))); (case aL => have := LMc20.out; omega); intro v1080 w25 ho hb hg hat; rw [← Ny1079.out] at ho; refine ev5 (Kd.R_after (ok := (fun _ => True)) (Kd.R_mv (Kd.R_mono (Kd.R_far (p := ⟨gb1077, 1, none⟩) (Kd.R_far (p := ⟨gb1077, 0, none⟩) (Kd.R_types HO_3.out BK1077.out (by decide)) (fun _ hk => hk.2) (.int .i64 ((rd_T78 l0_2 x16_1).f0))) (fun _ hk => hk.2) (.int .i64 ((rd_T78 l0_2 x16_1).f1))) (fun _ hk => ⟨trivial, hk.1⟩))) hg hat) (blk_grown (g := gb1071) (o := .cells #[.int .i64 a0_0, .int .i64 a0_1, .slice (some ad1076) l0_2.length c0_2] 48 (0, 0)) (fp BK1071 rfl) hg (Kd.R_ne HO_5.out BK1071.out (by decide))) (blk_grown (g := gb1077) (o := .cells #[.int .i64 ((rd_T78 l0_2 x16_1).f0), .int .i64 ((rd_T78 l0_2 x16_1).f1)] 78 (0, 0)) (fp BK1077 rfl) hg (Kd.R_ne HO_5.out BK1077.out (by decide))) (hb) (ho) ?_; clear HO_3 BK1071 BK1077 HB HO_5; intro HO_3 BK1071 BK1077 HB HO1081; clear ho hb hg hat))
         go_roundg k1
         case measure => have := HK1.out; omega
         case rel => exact ⟨(y1079), (wrap64 (x16_1 + 1)), (by first | rfl | (simp; done) | (simp [*]; done)), H', ⟨by have := HK1.out; omega⟩, ⟨Kd.R_mv (Kd.R_mono HO_3.out (fun _ hk => hk.2))⟩, ⟨Kd.R_mv HO1081.out⟩, ⟨km_ BK1071⟩, ⟨bm HB⟩⟩
        ·rw [if_neg c20] at H
         exact absurd H (by simp)
     ·rw [if_neg c9] at H
      exact absurd H (by simp)
    ·rw [if_neg c8] at H
     exact absurd H (by simp)
   ·rw [if_neg c7] at H
    have c7b0 : decide (x16_1 < (l0_2.length : Int)) = false := decide_eq_false c7
    clear c7
    obtain rfl := Option.some.inj H
    go_wp2
    go_ret
    exact ⟨_, by first | rfl | (simp [e0_, e1_] <;> rfl) | (simp [*, e0_, e1_] <;> rfl), Kd.R_mv (Kd.R_mono (ok' := fun k_ => True) HO_5.out (fun _ hk => trivial)), bm HB⟩

/-! ### impl_MetCells: function 86 -/
mutual
def impl_MetCells.l0 : Nat → List Bool → Int → Int → Int → List (S78) → Option (List Int × Bool)
 | 0, _, _, _, _, _ => none
 | k + 1, x4, x5, x1088000, x1088001, x1088002 => if x5 < x1088001 then ((impl_copyBoard.f x1088000 x1088001 x1088002).bind fun bt1092 => ((impl_groupNumbers.f k x1088000 x1088001 x1088002).bind fun t1097 => ((impl_drop.f k bt1092.1 bt1092.2.1 bt1092.2.2 t1097 x5).bind fun bt1100 => (impl_MetCells.l1 k x4 x5 bt1100.2.2.2.1 (bt1100.2.2.2.1.length : Int) 0 x1088000 x1088001 x1088002)))) else (impl_MetCells.l2 k x4 (([] : List Int)) (x4.length : Int) 0)
def impl_MetCells.l1 : Nat → List Bool → Int → List Int → Int → Int → Int → Int → List (S78) → Option (List Int × Bool)
 | 0, _, _, _, _, _, _, _, _ => none
 | k + 1, x4, x5, x7, x36, x37, x1088000, x1088001, x1088002 => if x37 < x36 then (if 0 ≤ x37 then (if x37 < (x7.length : Int) then (if 0 ≤ (rd x7 x37) then (if (rd x7 x37) < (x4.length : Int) then (impl_MetCells.l1 k (x4.set ((rd x7 x37) : Int).toNat true) x5 x7 x36 (wrap64 (x37 + 1)) x1088000 x1088001 x1088002) else (none)) else (none)) else (none)) else (none)) else (impl_MetCells.l0 k x4 (wrap64 (x5 + 1)) x1088000 x1088001 x1088002)
def impl_MetCells.l2 : Nat → List Bool → List Int → Int → Int → Option (List Int × Bool)
 | 0, _, _, _, _ => none
 | k + 1, x4, x10, x47, x48 => if x48 < x47 then (if 0 ≤ x48 then (if x48 < (x4.length : Int) then (if rdOf false x4 x48 = true then (if x10.length < 17592186044416 then (impl_MetCells.l2 k x4 (x10 ++ [x48]) x47 (wrap64 (x48 + 1))) else (none)) else (impl_MetCells.l2 k x4 x10 x47 (wrap64 (x48 + 1)))) else (none)) else (none)) else (some (x10, true))
end
def impl_MetCells.f (k : Nat) (a0_0 : Int) (a0_1 : Int) (l0_2 : List (S78)) : Option (List Int × Bool) := (impl_IsBoard.f k a0_0 a0_1 l0_2).bind fun t1088 => (if t1088 = true then (if 0 ≤ (l0_2.length : Int) then (if ((l0_2.length : Int) : Int).toNat ≤ 281474976710656 then (impl_MetCells.l0 k (List.replicate ((l0_2.length : Int) : Int).toNat false) 0 a0_0 a0_1 l0_2) else (none)) else (none)) else (some (([] : List Int), false)))
def impl_MetCells.T7 : Bool × List (List Nat × List Nat) := (true, [([], []), ([0], [0]), ([], []), ([2, 1], [2]), ([], []), ([1, 3, 4, 3], [1, 3, 4]), ([5], [5]), ([6], [6]), ([6], [6]), ([], []), ([9, 7, 5, 0, 1, 2, 3, 4, 5, 6, 7, 9], [7, 9]), ([8, 10, 0, 1, 2, 3, 4, 5, 6, 7, 8, 9, 10], [8])])
def impl_MetCells.B7 : List Nat := [0, 1, 0, 7, 0, 31, 63, 127, 127, 0, 767, 2047]
theorem impl_MetCells.tab7 : rtab .any (opsOf Try.f86 7) = impl_MetCells.T7 := by kernel_rfl
theorem impl_MetCells.bits7 : waitsOk impl_MetCells.T7.2 impl_MetCells.B7 = true := by kernel_rfl
set_option maxHeartbeats 8000000 in
set_option maxRecDepth 100000 in
theorem impl_MetCells.calls (k : Nat) (a0_0 : Int) (a0_1 : Int) (A0_2 : Option Addr) (c0_2 : Nat) (l0_2 : List (S78)) (r1 : List Int) (r2 : Bool) (w : World) (hr0_2 : Kd.C k78 w A0_2 l0_2.length l0_2) (hc0_2 : l0_2.length ≤ c0_2) (h : impl_MetCells.f k a0_0 a0_1 l0_2 = some (r1, r2)) :
  Calls Try.prog 86 #[.agg #[.int .i64 a0_0, .int .i64 a0_1, .slice A0_2 l0_2.length c0_2]] w fun e w' => ∃ v0_ : Value, e = .returned (.tuple #[v0_, .bool r2]) ∧ Kd.R (Kd.int .i64) 3 w' w.heap.size (fun _ => True) v0_ r1 ∧ Below w.heap.size w w' := by
 have HR0_2 := Aside0.mk hr0_2
 have HC0_2 := Aside0.mk hc0_2
 clear hr0_2 hc0_2
 have HB := Aside0.mk (Below.refl w.heap.size w)
 have H : ((impl_IsBoard.f k a0_0 a0_1 l0_2).bind fun t1088 => (if t1088 = true then (if 0 ≤ (l0_2.length : Int) then (if ((l0_2.length : Int) : Int).toNat ≤ 281474976710656 then (impl_MetCells.l0 k (List.replicate ((l0_2.length : Int) : Int).toNat false) 0 a0_0 a0_1 l0_2) else (none)) else (none)) else (some (([] : List Int), false)))) = some (r1, r2) := h
 clear h
 replace H := Option.bind_eq_some_iff.mp H
 obtain ⟨t1088, A20, H⟩ := H
 replace H : (if t1088 = true then (if 0 ≤ (l0_2.length : Int) then (if ((l0_2.length : Int) : Int).toNat ≤ 281474976710656 then (impl_MetCells.l0 k (List.replicate ((l0_2.length : Int) : Int).toNat false) 0 a0_0 a0_1 l0_2) else (none)) else (none)) else (some (([] : List Int), false))) = some (r1, r2) := H
 have A2 := Aside0.mk A20
 clear A20
 by_cases c3 : t1088 = true
 ·subst c3
  have H1 : (if 0 ≤ (l0_2.length : Int) then (if ((l0_2.length : Int) : Int).toNat ≤ 281474976710656 then (impl_MetCells.l0 k (List.replicate ((l0_2.length : Int) : Int).toNat false) 0 a0_0 a0_1 l0_2) else (none)) else (none)) = some (r1, r2) := by rw [if_pos rfl] at H; exact H
  clear H
  have H := H1
  clear H1
  by_cases c4 : 0 ≤ (l0_2.length : Int)
  ·rw [if_pos c4] at H
   have c4b0 := eq_true c4
   have c4b1 : decide (0 ≤ (l0_2.length : Int)) = true := decide_eq_true c4
   clear c4
   by_cases c5 : ((l0_2.length : Int) : Int).toNat ≤ 281474976710656
   ·rw [if_pos c5] at H
    have c5b0 := eq_true c5
    have c5b1 : decide (((l0_2.length : Int) : Int).toNat ≤ 281474976710656) = true := decide_eq_true c5
    clear c5
    obtain ⟨y1089, hy1089⟩ : ∃ y_ : List Bool, y_ = (List.replicate ((l0_2.length : Int) : Int).toNat false) := ⟨_, rfl⟩
    replace H : (impl_MetCells.l0 k y1089 0 a0_0 a0_1 l0_2) = some (r1, r2) := by first | (rw [hy1089]; with_reducible exact H) | (have H2_ := (Option.bind_some _ _).symm.trans H; rw [hy1089]; with_reducible exact H2_) | (have H2_ := (Option.bind_some _ _).symm.trans H; with_reducible exact H2_) | with_reducible exact H | (rw [hy1089]; exact H) | exact H
    have Ny1089 := Aside0.mk hy1089
    clear hy1089
    have H' := Aside0.mk H
    clear H
    go_enter Try.func86, Try.ntmps86
    go_wp2_with (first | ((with_reducible refine gate_dst (N := 1) rfl ?_); refine box_event ?hg (N := 1) ?hd (cs := #[.int .i64 a0_0, .int .i64 a0_1, .slice A0_2 l0_2.length c0_2]) (t := 48) ?hr ?_; (case hd => rfl); (case hg => rfl); (case hr => first | (go_simp; done) | (go_simp; rfl)); intro gb1087 hg w6 hbox hb; refine ev4 (bs HB hb) (hbox) (gle hg HB) (gle hg HB) ?_; clear HB; intro HB BK1087 GW1087 GE1087; clear hb hbox hg; obtain ⟨hcz7_0, hcz7_1, hcz7_2, hfz7_0, hfz7_1, hfz7_2⟩ := bt3 BK1087) | ((with_reducible refine gate_callee (f := 114) rfl ?_); refine goesL_ (some 14) rfl rfl Try.func114 (by kernel_rfl) rfl #[.agg #[.int .i64 a0_0, .int .i64 a0_1, .slice A0_2 l0_2.length c0_2]] rfl (by (try simp only [ma_, mb_, mc_]); first | done | rfl | (simp only [List.length_drop, List.length_take]; rfl)) ?_; (with_reducible refine (impl_IsBoard.calls k a0_0 a0_1 _ _ l0_2 true _ (Kd.C_mv (Kd.C_below HR0_2.out HB.out)) HC0_2.out A2.out).mono ?_); rintro e w8 ⟨rfl, hb⟩; refine ⟨_, rfl, ?_⟩; refine ev2 (kb BK1087 hb) (bs HB hb) ?_; clear BK1087 HB; intro BK1087 HB; (try clear hb); (try clear hb2); (try clear hk); (try clear hi); obtain ⟨hcz9_0, hcz9_1, hcz9_2, hfz9_0, hfz9_1, hfz9_2⟩ := bt3 BK1087) | ((with_reducible refine gate_dst (N := 19) rfl ?_); refine Kd.R_make Kd.bool _ 4 rfl (N := 19) rfl 122 _ _ rfl (l0_2.length : Int) rfl rfl Try.underlying122 (.bool false) 1 info4 rfl (by decide) (by omega) false (ok := fun _ => True) (okp := fun _ => True) rfl (fun _ hk => hk) trivial (of_decide_eq_true (by first | (with_reducible assumption) | assumption)) (Nat.le_trans (Nat.mul_le_mul_right _ (of_decide_eq_true (by first | (with_reducible assumption) | assumption) : (l0_2.length : Int).toNat ≤ 281474976710656)) (by omega)) (Below.refl _ _) (Nat.le_refl _) ?_; intro v1090 w10 ho11 hb hg_ hnew_; clear hg_ hnew_; (first | rw [← Ny1089.out] at ho11 | (simp only [Int.reduceToNat] at ho11; rw [← Ny1089.out] at ho11)); refine ev3 (Kd.R_lower ho11 (below_size (bm HB))) (kb BK1087 hb) (bs HB hb) ?_; clear BK1087 HB; intro HO1091 BK1087 HB; clear hb ho11))
    go_loopg [5] k (fun kq v5 w' => ∃ (x4_1 : List Bool) (x5_1 : Int), v5 = .int .i64 x5_1 ∧ Aside0 (impl_MetCells.l0 kq x4_1 x5_1 a0_0 a0_1 l0_2 = some (r1, r2)) ∧ Aside0 (kq ≤ k) ∧ Aside0 (Kd.R Kd.bool 4 w' w.heap.size (fun _ => True) v1090 x4_1) ∧ Aside0 (w'.heap[gb1087]? = some (.cells #[.int .i64 a0_0, .int .i64 a0_1, (.slice A0_2 l0_2.length c0_2)] 48 (0, 0))) ∧ Aside0 (Below w.heap.size w w'))
    case atStart => exact ⟨(y1089), (0), (by first | rfl | (simp; done) | (simp [*]; done)), H', ⟨Nat.le_refl _⟩, ⟨Kd.R_mv HO1091.out⟩, ⟨km_ BK1087⟩, ⟨bm HB⟩⟩
    case round =>
     clear H'
     try clear c1
     try clear p2
     try clear c3
     try clear c4
     try clear c4b0
     try clear c4b1
     try clear c5
     try clear c5b0
     try clear c5b1
     try clear c8
     try clear c11
     try clear hcz7_0
     try clear hcz7_1
     try clear hcz7_2
     try clear hcz9_0
     try clear hcz9_1
     try clear hcz9_2
     try clear hfz7_0
     try clear hfz7_1
     try clear hfz7_2
     try clear hfz9_0
     try clear hfz9_1
     try clear hfz9_2
     obtain ⟨x4_1, x5_1, rfl, HA, HK1, HO_4, BK1087, HB⟩ := hrel
     cases gk with
     | zero => exact absurd HA.out (by simp [impl_MetCells.l0])
     | succ k1 =>
      have H := HA.out
      clear HA
      simp only [impl_MetCells.l0] at H
      by_cases c12 : x5_1 < a0_1
      ·rw [if_pos c12] at H
       have c12b0 : decide (x5_1 < a0_1) = true := decide_eq_true c12
       clear c12
       replace H := Option.bind_eq_some_iff.mp H
       obtain ⟨⟨t1092, t1093, t1094⟩, A130, H⟩ := H
       replace H : ((impl_groupNumbers.f k1 a0_0 a0_1 l0_2).bind fun t1097 => ((impl_drop.f k1 t1092 t1093 t1094 t1097 x5_1).bind fun bt1100 => (impl_MetCells.l1 k1 x4_1 x5_1 bt1100.2.2.2.1 (bt1100.2.2.2.1.length : Int) 0 a0_0 a0_1 l0_2))) = some (r1, r2) := H
       have A13 := Aside0.mk A130
       clear A130
       replace H := Option.bind_eq_some_iff.mp H
       obtain ⟨t1097, A140, H⟩ := H
       replace H : ((impl_drop.f k1 t1092 t1093 t1094 t1097 x5_1).bind fun bt1100 => (impl_MetCells.l1 k1 x4_1 x5_1 bt1100.2.2.2.1 (bt1100.2.2.2.1.length : Int) 0 a0_0 a0_1 l0_2)) = some (r1, r2) := H
       have A14 := Aside0.mk A140
       clear A140
       replace H := Option.bind_eq_some_iff.mp H
       obtain ⟨⟨t1100, t1101, t1102, t1103, t1106⟩, A150, H⟩ := H
       replace H : (impl_MetCells.l1 k1 x4_1 x5_1 t1103 (t1103.length : Int) 0 a0_0 a0_1 l0_2) = some (r1, r2) := H
       have A15 := Aside0.mk A150
       clear A150
       have H' := Aside0.mk H
       clear H
       obtain ⟨hcz16_0, hcz16_1, hcz16_2, hfz16_0, hfz16_1, hfz16_2⟩ := bt3 BK1087
       try go_wp2
       refine ev3 (Kd.R_drew HO_4.out) (blk_drew BK1087.out) (below_drew1 HB.out) ?_
       clear HO_4 BK1087 HB
       intro HO_4 BK1087 HB
       refine start_ (n := 12) (S := fun w' => w'.cell? ⟨gb1087, 0, none⟩ = some (.int .i64 a0_0) ∧ w'.cell? ⟨gb1087, 1, none⟩ = some (.int .i64 a0_1) ∧ w'.cell? ⟨gb1087, 2, none⟩ = some (.slice A0_2 l0_2.length c0_2)) (ds := []) #[false, false, false, false, false, false, false, false, false, false, false, false] (by kernel_rfl) rfl rfl ⟨(blk_cell BK1087.out 0).trans rfl, (blk_cell BK1087.out 1).trans rfl, (blk_cell BK1087.out 2).trans rfl⟩ (fun hHeld => ?_); refine with_tabW impl_MetCells.tab7 impl_MetCells.bits7 (fun HT_ HW_ => ?_)
       generalize wr.drew = w17 at HO_4 BK1087 HB hHeld ⊢
       refine pure_ (i := 4) (N := some 31) (v := ?_) (a' := ?_) #[false, false, false, false, true, false, false, false, false, false, false, false] rfl rfl (any_of HT_.out (by kernel_rfl)) (fun _ _ _ h => h) (Or.inl ⟨by rfl, ?_⟩) ?_ ?_
       rotate_left
       ·intro w'
        go_simp
        with_reducible rfl
       rotate_left
       ·simp only [Act.put, za_, zb_, zc_, i64_w, i32_w]
        rfl
       refine take_ (i := 0) (N := some 27) (v := ?_) (a' := ?_) #[true, false, false, false, true, false, false, false, false, false, false, false] rfl rfl (take_ofW HT_.out HW_.out (by kernel_rfl)) (fun _ _ _ h => h) (Or.inl ⟨by rfl, ?_⟩) hHeld ?_ ?_
       rotate_left
       ·rintro w' ⟨s0, s1, s2⟩
        go_simp
        with_reducible rfl
       rotate_left
       ·simp only [Act.put, za_, zb_, zc_, i64_w, i32_w]
        rfl
       refine take_ (i := 2) (N := some 29) (v := ?_) (a' := ?_) #[true, false, true, false, true, false, false, false, false, false, false, false] rfl rfl (take_ofW HT_.out HW_.out (by kernel_rfl)) (fun _ _ _ h => h) (Or.inl ⟨by rfl, ?_⟩) hHeld ?_ ?_
       rotate_left
       ·rintro w' ⟨s0, s1, s2⟩
        go_simp
        with_reducible rfl
       rotate_left
       ·simp only [Act.put, za_, zb_, zc_, i64_w, i32_w]
        rfl
       refine join_ (σ := Value × Value × Value × Nat) 2 #[true, true, true, true, true, true, true, true, true, true, false, false] (fun s_ => [(28, .agg #[.int .i64 t1092, .int .i64 t1093, s_.1]), (30, s_.2.1), (32, .tuple #[.agg #[.int .i64 t1100, .int .i64 t1101, .int .i64 t1102], s_.2.2.1]), (6, .pointer (some ⟨s_.2.2.2, 0, none⟩)), (26, .tuple #[.agg #[.int .i64 t1100, .int .i64 t1101, .int .i64 t1102], s_.2.2.1]), (33, .agg #[.int .i64 t1100, .int .i64 t1101, .int .i64 t1102]), (34, s_.2.2.1)]) (fun s_ w' => (w'.cell? ⟨gb1087, 0, none⟩ = some (.int .i64 a0_0) ∧ w'.cell? ⟨gb1087, 1, none⟩ = some (.int .i64 a0_1) ∧ w'.cell? ⟨gb1087, 2, none⟩ = some (.slice A0_2 l0_2.length c0_2)) ∧ (Kd.R k78 78 w' w.heap.size (fun _ => True) s_.1 t1106) ∧ (Kd.R (Kd.int .i64) 3 w' w.heap.size (fun k_ => some k_ ≠ (s_.2.2.1 : Value).ownBlock) s_.2.1 t1097) ∧ (Kd.R (Kd.int .i64) 3 w' w.heap.size (fun k_ => some k_ ≠ (s_.2.1 : Value).ownBlock) s_.2.2.1 t1103) ∧ (Kd.R Kd.bool 4 w' w.heap.size (fun _ => True) v1090 x4_1) ∧ (w'.heap[gb1087]? = some (.cells #[.int .i64 a0_0, .int .i64 a0_1, .slice A0_2 l0_2.length c0_2] 48 (0, 0))) ∧ (w'.heap[s_.2.2.2]? = some (.cells #[.int .i64 0, .int .i64 0, .int .i64 0] 90 (0, 0))) ∧ (w.heap.size ≤ s_.2.2.2) ∧ (w.heap.size ≤ s_.2.2.2) ∧ (gb1087 ≠ s_.2.2.2) ∧ (s_.2.2.2 ≠ gb1087) ∧ (Below w.heap.size w w')) ?_ ?_
       rotate_left
       ·intro hCont
        refine two_ (i := 1) (j := 9) (Ni := some 28) (Nj := some 6) #[true, true, true, false, true, false, false, false, false, false, false, false] #[true, false, true, false, true, false, false, false, false, true, false, false] rfl rfl rfl rfl (two_of HT_.out (by kernel_rfl)) (by decide) (by decide) (fun K hK => ?_) (fun K hK => ?_)
        ·skip
         refine goes_ Try.func89 (by kernel_rfl) rfl #[.agg #[.int .i64 a0_0, .int .i64 a0_1, .slice A0_2 l0_2.length c0_2]] (by rfl) rfl rfl (by (try simp only [ma_, mb_, mc_]); first | done | rfl | (simp only [List.length_drop, List.length_take]; rfl)) ?_
         with_reducible refine (impl_copyBoard.calls a0_0 a0_1 _ _ l0_2 t1092 t1093 t1094 _ ?side1 ?side2 A13.out).mono ?_
         (case side1 => exact Kd.C_mv (Kd.C_below HR0_2.out HB.out))
         (case side2 => exact HC0_2.out)
         rintro e w18 ⟨v1095, rfl, ho0, hb⟩
         refine ⟨_, rfl, ?_⟩
         refine ev4 (Kd.R_below (Kd.R_mv HO_4.out) hb) (Kd.R_lower ho0 (below_size (bm HB))) (kb BK1087 hb) (bs HB hb) ?_
         clear HO_4 BK1087 HB
         intro HO_4 HO1096 BK1087 HB
         (try clear hb)
         (try clear hb2)
         (try clear hk)
         (try clear hi)
         (try clear ho0)
         refine hK.out _ _ ⟨(blk_cell BK1087.out 0).trans rfl, (blk_cell BK1087.out 1).trans rfl, (blk_cell BK1087.out 2).trans rfl⟩ (fun hHeld => ?_)
         clear hK K
         refine norm_ (a' := ?_) ?_ ?_
         rotate_left
         ·show Act.put _ (some 28) _ = _
          simp only [Act.put, za_, zb_, zc_, i64_w, i32_w]
          rfl
         refine two_ (i := 3) (j := 9) (Ni := some 30) (Nj := some 6) #[true, true, true, true, true, false, false, false, false, false, false, false] #[true, true, true, false, true, false, false, false, false, true, false, false] rfl rfl rfl rfl (two_of HT_.out (by kernel_rfl)) (by decide) (by decide) (fun K hK => ?_) (fun K hK => ?_)
         ·skip
          refine goes_ Try.func116 (by kernel_rfl) rfl #[.agg #[.int .i64 a0_0, .int .i64 a0_1, .slice A0_2 l0_2.length c0_2]] (by rfl) rfl rfl (by (try simp only [ma_, mb_, mc_]); first | done | rfl | (simp only [List.length_drop, List.length_take]; rfl)) ?_
          with_reducible refine (impl_groupNumbers.calls k1 a0_0 a0_1 _ _ l0_2 t1097 _ ?side1 ?side2 A14.out).mono ?_
          (case side1 => exact Kd.C_mv (Kd.C_below HR0_2.out HB.out))
          (case side2 => exact HC0_2.out)
          rintro e w19 ⟨v1098, rfl, ho0, hb⟩
          refine ⟨_, rfl, ?_⟩
          refine ev5 (Kd.R_below (Kd.R_mv HO_4.out) hb) (Kd.R_below (Kd.R_mv HO1096.out) hb) (Kd.R_lower ho0 (below_size (bm HB))) (kb BK1087 hb) (bs HB hb) ?_
          clear HO_4 HO1096 BK1087 HB
          intro HO_4 HO1096 HO1099 BK1087 HB
          (try clear hb)
          (try clear hb2)
          (try clear hk)
          (try clear hi)
          (try clear ho0)
          obtain ⟨Ao20, co20, eo20⟩ := Kd.R_slice HO1096.out
          (first | subst eo20 | (injection eo20 with f1_ f2_ f3_; have f4_ := f1_.symm; have f5_ := f3_.symm; clear f1_ f2_ f3_; subst f4_; subst f5_))
          obtain ⟨Ao21, co21, eo21⟩ := Kd.R_slice HO1099.out
          (first | subst eo21 | (injection eo21 with f1_ f2_ f3_; have f4_ := f1_.symm; have f5_ := f3_.symm; clear f1_ f2_ f3_; subst f4_; subst f5_))
          refine hK.out _ _ ⟨(blk_cell BK1087.out 0).trans rfl, (blk_cell BK1087.out 1).trans rfl, (blk_cell BK1087.out 2).trans rfl⟩ (fun hHeld => ?_)
          clear hK K
          refine norm_ (a' := ?_) ?_ ?_
          rotate_left
          ·show Act.put _ (some 30) _ = _
           simp only [Act.put, za_, zb_, zc_, i64_w, i32_w]
           rfl
          refine two_ (i := 5) (j := 9) (Ni := some 32) (Nj := some 6) #[true, true, true, true, true, true, false, false, false, false, false, false] #[true, true, true, true, true, false, false, false, false, true, false, false] rfl rfl rfl rfl (two_of HT_.out (by kernel_rfl)) (by decide) (by decide) (fun K hK => ?_) (fun K hK => ?_)
          ·skip
           refine goes_ Try.func115 (by kernel_rfl) rfl #[.agg #[.int .i64 t1092, .int .i64 t1093, .slice Ao20 t1094.length co20], .slice Ao21 t1097.length co21, .int .i64 x5_1] (by rfl) rfl rfl (by (try simp only [ma_, mb_, mc_]); first | done | rfl | (simp only [List.length_drop, List.length_take]; rfl)) ?_
           with_reducible refine (impl_drop.calls k1 t1092 t1093 (fun k_ => some k_ = (.slice Ao20 t1094.length co20 : Value).ownBlock) (.slice Ao20 t1094.length co20) t1094 _ _ t1097 x5_1 t1100 t1101 t1102 t1103 t1106 w _ ?side1 ?side2 ?side3 ?side4 A15.out).mono ?_
           (case side1 => exact bm HB)
           (case side2 => exact Kd.R_tight rfl HO1096.out)
           (case side3 => exact Kd.C_kept_own ((Kd.R_apart' HO1099.out (Kd.R_typed HO1096.out) (by decide))) (fun k_ hk_ hs_ => (hk_.2) hs_))
           (case side4 => exact (Kd.R_reads' HO1099.out).2.1)
           rintro e w22 ⟨v1104, rfl, ho0, hy0, hb, hkp⟩
           refine ⟨_, rfl, ?_⟩
           refine ev6 (Kd.R_mono (ok' := fun k_ => True) (Kd.R_keptB ((Kd.R_apart' HO_4.out (Kd.R_typed HO1096.out) (by decide))) hkp (fun k_ hk_ hs_ => (hk_.2) hs_)) (fun k_ hk_ => trivial)) (blk_kept (km_ BK1087) hkp (fun hs_ => (fun e_ => (Kd.R_ne HO1096.out BK1087.out (by decide)) e_) hs_)) (Kd.R_reok rfl hy0 (fun k_ e_ => HO1096.out.1 k_ e_)) (Kd.R_mono (ok' := fun k_ => some k_ ≠ (v1104 : Value).ownBlock) (Kd.R_keptB ((Kd.R_apart' HO1099.out (Kd.R_typed HO1096.out) (by decide))) hkp (fun k_ hk_ hs_ => (hk_.2) hs_)) (fun k_ hk_ => fun e_ => Or.elim (ho0.1 k_ e_.symm) (fun hs_ => hk_.2.1 hs_) (fun hn_ => Nat.not_le.2 hk_.2.2 hn_))) (Kd.R_mono (ok' := fun k_ => some k_ ≠ (.slice Ao21 t1097.length co21 : Value).ownBlock) ho0 (fun k_ hk_ => Or.elim hk_ (fun hs_ => fun e_ => ((((Kd.R_apart' HO1099.out (Kd.R_typed HO1096.out) (by decide))).1 k_ e_.symm).2) hs_) (fun hn_ => (Kd.fresh' (Kd.R_lt (Kd.R_mv HO1099.out)) k_ hn_)))) (hb) ?_
           clear HO_4 BK1087 HO1096 HO1099 HB
           intro HO_4 BK1087 HO1096 HO1099 HO1105 HB
           (try clear hb)
           (try clear hkp)
           (try clear ho0)
           (try clear hy0)
           refine hK.out _ _ ⟨(blk_cell BK1087.out 0).trans rfl, (blk_cell BK1087.out 1).trans rfl, (blk_cell BK1087.out 2).trans rfl⟩ (fun hHeld => ?_)
           clear hK K
           refine norm_ (a' := ?_) ?_ ?_
           rotate_left
           ·show Act.put _ (some 32) _ = _
            simp only [Act.put, za_, zb_, zc_, i64_w, i32_w]
            rfl
           refine pure_ (i := 6) (N := some 26) (v := ?_) (a' := ?_) #[true, true, true, true, true, true, true, false, false, false, false, false] rfl rfl (any_of HT_.out (by kernel_rfl)) (fun _ _ _ h => h) (Or.inl ⟨by rfl, ?_⟩) ?_ ?_
           rotate_left
           ·intro w'
            go_simp
            with_reducible rfl
           rotate_left
           ·simp only [Act.put, za_, zb_, zc_, i64_w, i32_w]
            rfl
           refine pure_ (i := 7) (N := some 33) (v := ?_) (a' := ?_) #[true, true, true, true, true, true, true, true, false, false, false, false] rfl rfl (any_of HT_.out (by kernel_rfl)) (fun _ _ _ h => h) (Or.inl ⟨by rfl, ?_⟩) ?_ ?_
           rotate_left
           ·intro w'
            go_simp
            with_reducible rfl
           rotate_left
           ·simp only [Act.put, za_, zb_, zc_, i64_w, i32_w]
            rfl
           refine pure_ (i := 8) (N := some 34) (v := ?_) (a' := ?_) #[true, true, true, true, true, true, true, true, true, false, false, false] rfl rfl (any_of HT_.out (by kernel_rfl)) (fun _ _ _ h => h) (Or.inl ⟨by rfl, ?_⟩) ?_ ?_
           rotate_left
           ·intro w'
            go_simp
            with_reducible rfl
           rotate_left
           ·simp only [Act.put, za_, zb_, zc_, i64_w, i32_w]
            rfl
           refine one_ (i := 9) (N := some 6) #[true, true, true, true, true, true, true, true, true, true, false, false] rfl rfl (one_of HT_.out (by kernel_rfl)) (by decide) (fun K hK => ?_)
           refine box_step ?hg (N := 6) ?hd (cs := #[.int .i64 0, .int .i64 0, .int .i64 0]) (t := 90) ?hr ?_; (case hd => rfl); (case hg => rfl); (case hr => first | (go_simp; done) | (go_simp; rfl))
           intro gb1107 hg w23 hbox hb
           refine ev11 (Kd.R_below (Kd.R_mv HO_4.out) hb) (Kd.R_below (Kd.R_mv HO1096.out) hb) (Kd.R_below (Kd.R_mv HO1099.out) hb) (Kd.R_below (Kd.R_mv HO1105.out) hb) (kb BK1087 hb) (bs HB hb) (hbox) (gle hg HB) (gle hg HB) (gnf hg BK1087) (gne hg BK1087) ?_
           clear HO_4 HO1096 HO1099 HO1105 BK1087 HB
           intro HO_4 HO1096 HO1099 HO1105 BK1087 HB BK1107 GW1107 GE1107 NB1087_1107 NB1107_1087
           clear hb hbox hg
           refine hK.out _ _ ⟨(blk_cell BK1087.out 0).trans rfl, (blk_cell BK1087.out 1).trans rfl, (blk_cell BK1087.out 2).trans rfl⟩ (fun hHeld => ?_)
           clear hK K
           refine norm_ (a' := ?_) ?_ ?_
           rotate_left
           ·show Act.put _ (some 6) _ = _
            simp only [Act.put, za_, zb_, zc_, i64_w, i32_w]
            rfl
           exact norm_ (by simp only [putAll, Act.put, za_, zb_, zc_]) (hCont (.slice Ao20 t1094.length co20, .slice Ao21 t1097.length co21, v1104, gb1107) _ ⟨hHeld, (Kd.R_mv HO1096.out), (Kd.R_mv HO1099.out), (Kd.R_mv HO1105.out), (Kd.R_mv HO_4.out), (km_ BK1087), (km_ BK1107), GW1107.out, GE1107.out, NB1087_1107.out, NB1107_1087.out, (bm HB)⟩)
          ·skip
           refine box_step ?hg (N := 6) ?hd (cs := #[.int .i64 0, .int .i64 0, .int .i64 0]) (t := 90) ?hr ?_; (case hd => rfl); (case hg => rfl); (case hr => first | (go_simp; done) | (go_simp; rfl))
           intro gb1107 hg w20 hbox hb
           refine ev10 (Kd.R_below (Kd.R_mv HO_4.out) hb) (Kd.R_below (Kd.R_mv HO1096.out) hb) (Kd.R_below (Kd.R_mv HO1099.out) hb) (kb BK1087 hb) (bs HB hb) (hbox) (gle hg HB) (gle hg HB) (gnf hg BK1087) (gne hg BK1087) ?_
           clear HO_4 HO1096 HO1099 BK1087 HB
           intro HO_4 HO1096 HO1099 BK1087 HB BK1107 GW1107 GE1107 NB1087_1107 NB1107_1087
           clear hb hbox hg
           obtain ⟨Ao21, co21, eo21⟩ := Kd.R_slice HO1096.out
           (first | subst eo21 | (injection eo21 with f1_ f2_ f3_; have f4_ := f1_.symm; have f5_ := f3_.symm; clear f1_ f2_ f3_; subst f4_; subst f5_))
           obtain ⟨Ao22, co22, eo22⟩ := Kd.R_slice HO1099.out
           (first | subst eo22 | (injection eo22 with f1_ f2_ f3_; have f4_ := f1_.symm; have f5_ := f3_.symm; clear f1_ f2_ f3_; subst f4_; subst f5_))
           refine hK.out _ _ ⟨(blk_cell BK1087.out 0).trans rfl, (blk_cell BK1087.out 1).trans rfl, (blk_cell BK1087.out 2).trans rfl⟩ (fun hHeld => ?_)
           clear hK K
           refine norm_ (a' := ?_) ?_ ?_
           rotate_left
           ·show Act.put _ (some 6) _ = _
            simp only [Act.put, za_, zb_, zc_, i64_w, i32_w]
            rfl
           refine one_ (i := 5) (N := some 32) #[true, true, true, true, true, true, false, false, false, true, false, false] rfl rfl (one_of HT_.out (by kernel_rfl)) (by decide) (fun K hK => ?_)
           refine goes_ Try.func115 (by kernel_rfl) rfl #[.agg #[.int .i64 t1092, .int .i64 t1093, .slice Ao21 t1094.length co21], .slice Ao22 t1097.length co22, .int .i64 x5_1] (by rfl) rfl rfl (by (try simp only [ma_, mb_, mc_]); first | done | rfl | (simp only [List.length_drop, List.length_take]; rfl)) ?_
           with_reducible refine (impl_drop.calls k1 t1092 t1093 (fun k_ => some k_ = (.slice Ao21 t1094.length co21 : Value).ownBlock) (.slice Ao21 t1094.length co21) t1094 _ _ t1097 x5_1 t1100 t1101 t1102 t1103 t1106 w _ ?side1 ?side2 ?side3 ?side4 A15.out).mono ?_
           (case side1 => exact bm HB)
           (case side2 => exact Kd.R_tight rfl HO1096.out)
           (case side3 => exact Kd.C_kept_own ((Kd.R_apart' HO1099.out (Kd.R_typed HO1096.out) (by decide))) (fun k_ hk_ hs_ => (hk_.2) hs_))
           (case side4 => exact (Kd.R_reads' HO1099.out).2.1)
           rintro e w23 ⟨v1104, rfl, ho0, hy0, hb, hkp⟩
           refine ⟨_, rfl, ?_⟩
           refine ev7 (Kd.R_mono (ok' := fun k_ => True) (Kd.R_keptB ((Kd.R_apart' HO_4.out (Kd.R_typed HO1096.out) (by decide))) hkp (fun k_ hk_ hs_ => (hk_.2) hs_)) (fun k_ hk_ => trivial)) (blk_kept (km_ BK1087) hkp (fun hs_ => (fun e_ => (Kd.R_ne HO1096.out BK1087.out (by decide)) e_) hs_)) (Kd.R_reok rfl hy0 (fun k_ e_ => HO1096.out.1 k_ e_)) (Kd.R_mono (ok' := fun k_ => some k_ ≠ (v1104 : Value).ownBlock) (Kd.R_keptB ((Kd.R_apart' HO1099.out (Kd.R_typed HO1096.out) (by decide))) hkp (fun k_ hk_ hs_ => (hk_.2) hs_)) (fun k_ hk_ => fun e_ => Or.elim (ho0.1 k_ e_.symm) (fun hs_ => hk_.2.1 hs_) (fun hn_ => Nat.not_le.2 hk_.2.2 hn_))) (blk_kept (km_ BK1107) hkp (fun hs_ => (fun e_ => (Kd.R_ne HO1096.out BK1107.out (by decide)) e_) hs_)) (Kd.R_mono (ok' := fun k_ => some k_ ≠ (.slice Ao22 t1097.length co22 : Value).ownBlock) ho0 (fun k_ hk_ => Or.elim hk_ (fun hs_ => fun e_ => ((((Kd.R_apart' HO1099.out (Kd.R_typed HO1096.out) (by decide))).1 k_ e_.symm).2) hs_) (fun hn_ => (Kd.fresh' (Kd.R_lt (Kd.R_mv HO1099.out)) k_ hn_)))) (hb) ?_
           clear HO_4 BK1087 HO1096 HO1099 BK1107 HB
           intro HO_4 BK1087 HO1096 HO1099 BK1107 HO1105 HB
           (try clear hb)
           (try clear hkp)
           (try clear ho0)
           (try clear hy0)
           refine hK.out _ _ ⟨(blk_cell BK1087.out 0).trans rfl, (blk_cell BK1087.out 1).trans rfl, (blk_cell BK1087.out 2).trans rfl⟩ (fun hHeld => ?_)
           clear hK K
           refine norm_ (a' := ?_) ?_ ?_
           rotate_left
           ·show Act.put _ (some 32) _ = _
            simp only [Act.put, za_, zb_, zc_, i64_w, i32_w]
            rfl
           refine pure_ (i := 6) (N := some 26) (v := ?_) (a' := ?_) #[true, true, true, true, true, true, true, false, false, true, false, false] rfl rfl (any_of HT_.out (by kernel_rfl)) (fun _ _ _ h => h) (Or.inl ⟨by rfl, ?_⟩) ?_ ?_
           rotate_left
           ·intro w'
            go_simp
            with_reducible rfl
           rotate_left
           ·simp only [Act.put, za_, zb_, zc_, i64_w, i32_w]
            rfl
           refine pure_ (i := 7) (N := some 33) (v := ?_) (a' := ?_) #[true, true, true, true, true, true, true, true, false, true, false, false] rfl rfl (any_of HT_.out (by kernel_rfl)) (fun _ _ _ h => h) (Or.inl ⟨by rfl, ?_⟩) ?_ ?_
           rotate_left
           ·intro w'
            go_simp
            with_reducible rfl
           rotate_left
           ·simp only [Act.put, za_, zb_, zc_, i64_w, i32_w]
            rfl
           refine pure_ (i := 8) (N := some 34) (v := ?_) (a' := ?_) #[true, true, true, true, true, true, true, true, true, true, false, false] rfl rfl (any_of HT_.out (by kernel_rfl)) (fun _ _ _ h => h) (Or.inl ⟨by rfl, ?_⟩) ?_ ?_
           rotate_left
           ·intro w'
            go_simp
            with_reducible rfl
           rotate_left
           ·simp only [Act.put, za_, zb_, zc_, i64_w, i32_w]
            rfl
           exact norm_ (by simp only [putAll, Act.put, za_, zb_, zc_]) (hCont (.slice Ao21 t1094.length co21, .slice Ao22 t1097.length co22, v1104, gb1107) _ ⟨hHeld, (Kd.R_mv HO1096.out), (Kd.R_mv HO1099.out), (Kd.R_mv HO1105.out), (Kd.R_mv HO_4.out), (km_ BK1087), (km_ BK1107), GW1107.out, GE1107.out, NB1087_1107.out, NB1107_1087.out, (bm HB)⟩)
         ·skip
          refine box_step ?hg (N := 6) ?hd (cs := #[.int .i64 0, .int .i64 0, .int .i64 0]) (t := 90) ?hr ?_; (case hd => rfl); (case hg => rfl); (case hr => first | (go_simp; done) | (go_simp; rfl))
          intro gb1107 hg w19 hbox hb
          refine ev9 (Kd.R_below (Kd.R_mv HO_4.out) hb) (Kd.R_below (Kd.R_mv HO1096.out) hb) (kb BK1087 hb) (bs HB hb) (hbox) (gle hg HB) (gle hg HB) (gnf hg BK1087) (gne hg BK1087) ?_
          clear HO_4 HO1096 BK1087 HB
          intro HO_4 HO1096 BK1087 HB BK1107 GW1107 GE1107 NB1087_1107 NB1107_1087
          clear hb hbox hg
          refine hK.out _ _ ⟨(blk_cell BK1087.out 0).trans rfl, (blk_cell BK1087.out 1).trans rfl, (blk_cell BK1087.out 2).trans rfl⟩ (fun hHeld => ?_)
          clear hK K
          refine norm_ (a' := ?_) ?_ ?_
          rotate_left
          ·show Act.put _ (some 6) _ = _
           simp only [Act.put, za_, zb_, zc_, i64_w, i32_w]
           rfl
          refine one_ (i := 3) (N := some 30) #[true, true, true, true, true, false, false, false, false, true, false, false] rfl rfl (one_of HT_.out (by kernel_rfl)) (by decide) (fun K hK => ?_)
          refine goes_ Try.func116 (by kernel_rfl) rfl #[.agg #[.int .i64 a0_0, .int .i64 a0_1, .slice A0_2 l0_2.length c0_2]] (by rfl) rfl rfl (by (try simp only [ma_, mb_, mc_]); first | done | rfl | (simp only [List.length_drop, List.length_take]; rfl)) ?_
          with_reducible refine (impl_groupNumbers.calls k1 a0_0 a0_1 _ _ l0_2 t1097 _ ?side1 ?side2 A14.out).mono ?_
          (case side1 => exact Kd.C_mv (Kd.C_below HR0_2.out HB.out))
          (case side2 => exact HC0_2.out)
          rintro e w20 ⟨v1098, rfl, ho0, hb⟩
          refine ⟨_, rfl, ?_⟩
          refine ev6 (Kd.R_below (Kd.R_mv HO_4.out) hb) (Kd.R_below (Kd.R_mv HO1096.out) hb) (Kd.R_lower ho0 (below_size (bm HB))) (kb BK1087 hb) (kb BK1107 hb) (bs HB hb) ?_
          clear HO_4 HO1096 BK1087 BK1107 HB
          intro HO_4 HO1096 HO1099 BK1087 BK1107 HB
          (try clear hb)
          (try clear hb2)
          (try clear hk)
          (try clear hi)
          (try clear ho0)
          obtain ⟨Ao21, co21, eo21⟩ := Kd.R_slice HO1096.out
          (first | subst eo21 | (injection eo21 with f1_ f2_ f3_; have f4_ := f1_.symm; have f5_ := f3_.symm; clear f1_ f2_ f3_; subst f4_; subst f5_))
          obtain ⟨Ao22, co22, eo22⟩ := Kd.R_slice HO1099.out
          (first | subst eo22 | (injection eo22 with f1_ f2_ f3_; have f4_ := f1_.symm; have f5_ := f3_.symm; clear f1_ f2_ f3_; subst f4_; subst f5_))
          refine hK.out _ _ ⟨(blk_cell BK1087.out 0).trans rfl, (blk_cell BK1087.out 1).trans rfl, (blk_cell BK1087.out 2).trans rfl⟩ (fun hHeld => ?_)
          clear hK K
          refine norm_ (a' := ?_) ?_ ?_
          rotate_left
          ·show Act.put _ (some 30) _ = _
           simp only [Act.put, za_, zb_, zc_, i64_w, i32_w]
           rfl
          refine one_ (i := 5) (N := some 32) #[true, true, true, true, true, true, false, false, false, true, false, false] rfl rfl (one_of HT_.out (by kernel_rfl)) (by decide) (fun K hK => ?_)
          refine goes_ Try.func115 (by kernel_rfl) rfl #[.agg #[.int .i64 t1092, .int .i64 t1093, .slice Ao21 t1094.length co21], .slice Ao22 t1097.length co22, .int .i64 x5_1] (by rfl) rfl rfl (by (try simp only [ma_, mb_, mc_]); first | done | rfl | (simp only [List.length_drop, List.length_take]; rfl)) ?_
          with_reducible refine (impl_drop.calls k1 t1092 t1093 (fun k_ => some k_ = (.slice Ao21 t1094.length co21 : Value).ownBlock) (.slice Ao21 t1094.length co21) t1094 _ _ t1097 x5_1 t1100 t1101 t1102 t1103 t1106 w _ ?side1 ?side2 ?side3 ?side4 A15.out).mono ?_
          (case side1 => exact bm HB)
          (case side2 => exact Kd.R_tight rfl HO1096.out)
          (case side3 => exact Kd.C_kept_own ((Kd.R_apart' HO1099.out (Kd.R_typed HO1096.out) (by decide))) (fun k_ hk_ hs_ => (hk_.2) hs_))
          (case side4 => exact (Kd.R_reads' HO1099.out).2.1)
          rintro e w23 ⟨v1104, rfl, ho0, hy0, hb, hkp⟩
          refine ⟨_, rfl, ?_⟩
          refine ev7 (Kd.R_mono (ok' := fun k_ => True) (Kd.R_keptB ((Kd.R_apart' HO_4.out (Kd.R_typed HO1096.out) (by decide))) hkp (fun k_ hk_ hs_ => (hk_.2) hs_)) (fun k_ hk_ => trivial)) (blk_kept (km_ BK1087) hkp (fun hs_ => (fun e_ => (Kd.R_ne HO1096.out BK1087.out (by decide)) e_) hs_)) (Kd.R_reok rfl hy0 (fun k_ e_ => HO1096.out.1 k_ e_)) (blk_kept (km_ BK1107) hkp (fun hs_ => (fun e_ => (Kd.R_ne HO1096.out BK1107.out (by decide)) e_) hs_)) (Kd.R_mono (ok' := fun k_ => some k_ ≠ (v1104 : Value).ownBlock) (Kd.R_keptB ((Kd.R_apart' HO1099.out (Kd.R_typed HO1096.out) (by decide))) hkp (fun k_ hk_ hs_ => (hk_.2) hs_)) (fun k_ hk_ => fun e_ => Or.elim (ho0.1 k_ e_.symm) (fun hs_ => hk_.2.1 hs_) (fun hn_ => Nat.not_le.2 hk_.2.2 hn_))) (Kd.R_mono (ok' := fun k_ => some k_ ≠ (.slice Ao22 t1097.length co22 : Value).ownBlock) ho0 (fun k_ hk_ => Or.elim hk_ (fun hs_ => fun e_ => ((((Kd.R_apart' HO1099.out (Kd.R_typed HO1096.out) (by decide))).1 k_ e_.symm).2) hs_) (fun hn_ => (Kd.fresh' (Kd.R_lt (Kd.R_mv HO1099.out)) k_ hn_)))) (hb) ?_
          clear HO_4 BK1087 HO1096 BK1107 HO1099 HB
          intro HO_4 BK1087 HO1096 BK1107 HO1099 HO1105 HB
          (try clear hb)
          (try clear hkp)
          (try clear ho0)
          (try clear hy0)
          refine hK.out _ _ ⟨(blk_cell BK1087.out 0).trans rfl, (blk_cell BK1087.out 1).trans rfl, (blk_cell BK1087.out 2).trans rfl⟩ (fun hHeld => ?_)
          clear hK K
          refine norm_ (a' := ?_) ?_ ?_
          rotate_left
          ·show Act.put _ (some 32) _ = _
           simp only [Act.put, za_, zb_, zc_, i64_w, i32_w]
           rfl
          refine pure_ (i := 6) (N := some 26) (v := ?_) (a' := ?_) #[true, true, true, true, true, true, true, false, false, true, false, false] rfl rfl (any_of HT_.out (by kernel_rfl)) (fun _ _ _ h => h) (Or.inl ⟨by rfl, ?_⟩) ?_ ?_
          rotate_left
          ·intro w'
           go_simp
           with_reducible rfl
          rotate_left
          ·simp only [Act.put, za_, zb_, zc_, i64_w, i32_w]
           rfl
          refine pure_ (i := 7) (N := some 33) (v := ?_) (a' := ?_) #[true, true, true, true, true, true, true, true, false, true, false, false] rfl rfl (any_of HT_.out (by kernel_rfl)) (fun _ _ _ h => h) (Or.inl ⟨by rfl, ?_⟩) ?_ ?_
          rotate_left
          ·intro w'
           go_simp
           with_reducible rfl
          rotate_left
          ·simp only [Act.put, za_, zb_, zc_, i64_w, i32_w]
           rfl
          refine pure_ (i := 8) (N := some 34) (v := ?_) (a' := ?_) #[true, true, true, true, true, true, true, true, true, true, false, false] rfl rfl (any_of HT_.out (by kernel_rfl)) (fun _ _ _ h => h) (Or.inl ⟨by rfl, ?_⟩) ?_ ?_
          rotate_left
          ·intro w'
           go_simp
           with_reducible rfl
          rotate_left
          ·simp only [Act.put, za_, zb_, zc_, i64_w, i32_w]
           rfl
          exact norm_ (by simp only [putAll, Act.put, za_, zb_, zc_]) (hCont (.slice Ao21 t1094.length co21, .slice Ao22 t1097.length co22, v1104, gb1107) _ ⟨hHeld, (Kd.R_mv HO1096.out), (Kd.R_mv HO1099.out), (Kd.R_mv HO1105.out), (Kd.R_mv HO_4.out), (km_ BK1087), (km_ BK1107), GW1107.out, GE1107.out, NB1087_1107.out, NB1107_1087.out, (bm HB)⟩)
        ·skip
         refine box_step ?hg (N := 6) ?hd (cs := #[.int .i64 0, .int .i64 0, .int .i64 0]) (t := 90) ?hr ?_; (case hd => rfl); (case hg => rfl); (case hr => first | (go_simp; done) | (go_simp; rfl))
         intro gb1107 hg w18 hbox hb
         refine ev8 (Kd.R_below (Kd.R_mv HO_4.out) hb) (kb BK1087 hb) (bs HB hb) (hbox) (gle hg HB) (gle hg HB) (gnf hg BK1087) (gne hg BK1087) ?_
         clear HO_4 BK1087 HB
         intro HO_4 BK1087 HB BK1107 GW1107 GE1107 NB1087_1107 NB1107_1087
         clear hb hbox hg
         refine hK.out _ _ ⟨(blk_cell BK1087.out 0).trans rfl, (blk_cell BK1087.out 1).trans rfl, (blk_cell BK1087.out 2).trans rfl⟩ (fun hHeld => ?_)
         clear hK K
         refine norm_ (a' := ?_) ?_ ?_
         rotate_left
         ·show Act.put _ (some 6) _ = _
          simp only [Act.put, za_, zb_, zc_, i64_w, i32_w]
          rfl
         refine one_ (i := 1) (N := some 28) #[true, true, true, false, true, false, false, false, false, true, false, false] rfl rfl (one_of HT_.out (by kernel_rfl)) (by decide) (fun K hK => ?_)
         refine goes_ Try.func89 (by kernel_rfl) rfl #[.agg #[.int .i64 a0_0, .int .i64 a0_1, .slice A0_2 l0_2.length c0_2]] (by rfl) rfl rfl (by (try simp only [ma_, mb_, mc_]); first | done | rfl | (simp only [List.length_drop, List.length_take]; rfl)) ?_
         with_reducible refine (impl_copyBoard.calls a0_0 a0_1 _ _ l0_2 t1092 t1093 t1094 _ ?side1 ?side2 A13.out).mono ?_
         (case side1 => exact Kd.C_mv (Kd.C_below HR0_2.out HB.out))
         (case side2 => exact HC0_2.out)
         rintro e w19 ⟨v1095, rfl, ho0, hb⟩
         refine ⟨_, rfl, ?_⟩
         refine ev5 (Kd.R_below (Kd.R_mv HO_4.out) hb) (Kd.R_lower ho0 (below_size (bm HB))) (kb BK1087 hb) (kb BK1107 hb) (bs HB hb) ?_
         clear HO_4 BK1087 BK1107 HB
         intro HO_4 HO1096 BK1087 BK1107 HB
         (try clear hb)
         (try clear hb2)
         (try clear hk)
         (try clear hi)
         (try clear ho0)
         refine hK.out _ _ ⟨(blk_cell BK1087.out 0).trans rfl, (blk_cell BK1087.out 1).trans rfl, (blk_cell BK1087.out 2).trans rfl⟩ (fun hHeld => ?_)
         clear hK K
         refine norm_ (a' := ?_) ?_ ?_
         rotate_left
         ·show Act.put _ (some 28) _ = _
          simp only [Act.put, za_, zb_, zc_, i64_w, i32_w]
          rfl
         refine one_ (i := 3) (N := some 30) #[true, true, true, true, true, false, false, false, false, true, false, false] rfl rfl (one_of HT_.out (by kernel_rfl)) (by decide) (fun K hK => ?_)
         refine goes_ Try.func116 (by kernel_rfl) rfl #[.agg #[.int .i64 a0_0, .int .i64 a0_1, .slice A0_2 l0_2.length c0_2]] (by rfl) rfl rfl (by (try simp only [ma_, mb_, mc_]); first | done | rfl | (simp only [List.length_drop, List.length_take]; rfl)) ?_
         with_reducible refine (impl_groupNumbers.calls k1 a0_0 a0_1 _ _ l0_2 t1097 _ ?side1 ?side2 A14.out).mono ?_
         (case side1 => exact Kd.C_mv (Kd.C_below HR0_2.out HB.out))
         (case side2 => exact HC0_2.out)
         rintro e w20 ⟨v1098, rfl, ho0, hb⟩
         refine ⟨_, rfl, ?_⟩
         refine ev6 (Kd.R_below (Kd.R_mv HO_4.out) hb) (Kd.R_below (Kd.R_mv HO1096.out) hb) (Kd.R_lower ho0 (below_size (bm HB))) (kb BK1087 hb) (kb BK1107 hb) (bs HB hb) ?_
         clear HO_4 HO1096 BK1087 BK1107 HB
         intro HO_4 HO1096 HO1099 BK1087 BK1107 HB
         (try clear hb)
         (try clear hb2)
         (try clear hk)
         (try clear hi)
         (try clear ho0)
         obtain ⟨Ao21, co21, eo21⟩ := Kd.R_slice HO1096.out
         (first | subst eo21 | (injection eo21 with f1_ f2_ f3_; have f4_ := f1_.symm; have f5_ := f3_.symm; clear f1_ f2_ f3_; subst f4_; subst f5_))
         obtain ⟨Ao22, co22, eo22⟩ := Kd.R_slice HO1099.out
         (first | subst eo22 | (injection eo22 with f1_ f2_ f3_; have f4_ := f1_.symm; have f5_ := f3_.symm; clear f1_ f2_ f3_; subst f4_; subst f5_))
         refine hK.out _ _ ⟨(blk_cell BK1087.out 0).trans rfl, (blk_cell BK1087.out 1).trans rfl, (blk_cell BK1087.out 2).trans rfl⟩ (fun hHeld => ?_)
         clear hK K
         refine norm_ (a' := ?_) ?_ ?_
         rotate_left
         ·show Act.put _ (some 30) _ = _
          simp only [Act.put, za_, zb_, zc_, i64_w, i32_w]
          rfl
         refine one_ (i := 5) (N := some 32) #[true, true, true, true, true, true, false, false, false, true, false, false] rfl rfl (one_of HT_.out (by kernel_rfl)) (by decide) (fun K hK => ?_)
         refine goes_ Try.func115 (by kernel_rfl) rfl #[.agg #[.int .i64 t1092, .int .i64 t1093, .slice Ao21 t1094.length co21], .slice Ao22 t1097.length co22, .int .i64 x5_1] (by rfl) rfl rfl (by (try simp only [ma_, mb_, mc_]); first | done | rfl | (simp only [List.length_drop, List.length_take]; rfl)) ?_
         with_reducible refine (impl_drop.calls k1 t1092 t1093 (fun k_ => some k_ = (.slice Ao21 t1094.length co21 : Value).ownBlock) (.slice Ao21 t1094.length co21) t1094 _ _ t1097 x5_1 t1100 t1101 t1102 t1103 t1106 w _ ?side1 ?side2 ?side3 ?side4 A15.out).mono ?_
         (case side1 => exact bm HB)
         (case side2 => exact Kd.R_tight rfl HO1096.out)
         (case side3 => exact Kd.C_kept_own ((Kd.R_apart' HO1099.out (Kd.R_typed HO1096.out) (by decide))) (fun k_ hk_ hs_ => (hk_.2) hs_))
         (case side4 => exact (Kd.R_reads' HO1099.out).2.1)
         rintro e w23 ⟨v1104, rfl, ho0, hy0, hb, hkp⟩
         refine ⟨_, rfl, ?_⟩
         refine ev7 (Kd.R_mono (ok' := fun k_ => True) (Kd.R_keptB ((Kd.R_apart' HO_4.out (Kd.R_typed HO1096.out) (by decide))) hkp (fun k_ hk_ hs_ => (hk_.2) hs_)) (fun k_ hk_ => trivial)) (blk_kept (km_ BK1087) hkp (fun hs_ => (fun e_ => (Kd.R_ne HO1096.out BK1087.out (by decide)) e_) hs_)) (blk_kept (km_ BK1107) hkp (fun hs_ => (fun e_ => (Kd.R_ne HO1096.out BK1107.out (by decide)) e_) hs_)) (Kd.R_reok rfl hy0 (fun k_ e_ => HO1096.out.1 k_ e_)) (Kd.R_mono (ok' := fun k_ => some k_ ≠ (v1104 : Value).ownBlock) (Kd.R_keptB ((Kd.R_apart' HO1099.out (Kd.R_typed HO1096.out) (by decide))) hkp (fun k_ hk_ hs_ => (hk_.2) hs_)) (fun k_ hk_ => fun e_ => Or.elim (ho0.1 k_ e_.symm) (fun hs_ => hk_.2.1 hs_) (fun hn_ => Nat.not_le.2 hk_.2.2 hn_))) (Kd.R_mono (ok' := fun k_ => some k_ ≠ (.slice Ao22 t1097.length co22 : Value).ownBlock) ho0 (fun k_ hk_ => Or.elim hk_ (fun hs_ => fun e_ => ((((Kd.R_apart' HO1099.out (Kd.R_typed HO1096.out) (by decide))).1 k_ e_.symm).2) hs_) (fun hn_ => (Kd.fresh' (Kd.R_lt (Kd.R_mv HO1099.out)) k_ hn_)))) (hb) ?_
         clear HO_4 BK1087 BK1107 HO1096 HO1099 HB
         intro HO_4 BK1087 BK1107 HO1096 HO1099 HO1105 HB
         (try clear hb)
         (try clear hkp)
         (try clear ho0)
         (try clear hy0)
         refine hK.out _ _ ⟨(blk_cell BK1087.out 0).trans rfl, (blk_cell BK1087.out 1).trans rfl, (blk_cell BK1087.out 2).trans rfl⟩ (fun hHeld => ?_)
         clear hK K
         refine norm_ (a' := ?_) ?_ ?_
         rotate_left
         ·show Act.put _ (some 32) _ = _
          simp only [Act.put, za_, zb_, zc_, i64_w, i32_w]
          rfl
         refine pure_ (i := 6) (N := some 26) (v := ?_) (a' := ?_) #[true, true, true, true, true, true, true, false, false, true, false, false] rfl rfl (any_of HT_.out (by kernel_rfl)) (fun _ _ _ h => h) (Or.inl ⟨by rfl, ?_⟩) ?_ ?_
         rotate_left
         ·intro w'
          go_simp
          with_reducible rfl
         rotate_left
         ·simp only [Act.put, za_, zb_, zc_, i64_w, i32_w]
          rfl
         refine pure_ (i := 7) (N := some 33) (v := ?_) (a' := ?_) #[true, true, true, true, true, true, true, true, false, true, false, false] rfl rfl (any_of HT_.out (by kernel_rfl)) (fun _ _ _ h => h) (Or.inl ⟨by rfl, ?_⟩) ?_ ?_
         rotate_left
         ·intro w'
          go_simp
          with_reducible rfl
         rotate_left
         ·simp only [Act.put, za_, zb_, zc_, i64_w, i32_w]
          rfl
         refine pure_ (i := 8) (N := some 34) (v := ?_) (a' := ?_) #[true, true, true, true, true, true, true, true, true, true, false, false] rfl rfl (any_of HT_.out (by kernel_rfl)) (fun _ _ _ h => h) (Or.inl ⟨by rfl, ?_⟩) ?_ ?_
         rotate_left
         ·intro w'
          go_simp
          with_reducible rfl
         rotate_left
         ·simp only [Act.put, za_, zb_, zc_, i64_w, i32_w]
          rfl
         exact norm_ (by simp only [putAll, Act.put, za_, zb_, zc_]) (hCont (.slice Ao21 t1094.length co21, .slice Ao22 t1097.length co22, v1104, gb1107) _ ⟨hHeld, (Kd.R_mv HO1096.out), (Kd.R_mv HO1099.out), (Kd.R_mv HO1105.out), (Kd.R_mv HO_4.out), (km_ BK1087), (km_ BK1107), GW1107.out, GE1107.out, NB1087_1107.out, NB1107_1087.out, (bm HB)⟩)
       rintro ⟨v1095, v1098, v1104, gb1107⟩ w24 ⟨hS_, h0_, h1_, h2_, h3_, h4_, h5_, h6_, h7_, h8_, h9_, h10_⟩
       have n0_ : Aside0 (Kd.R k78 78 w24 w.heap.size (fun _ => True) v1095 t1106) := ⟨h0_⟩
       have n1_ : Aside0 (Kd.R (Kd.int .i64) 3 w24 w.heap.size (fun k_ => some k_ ≠ (v1104 : Value).ownBlock) v1098 t1097) := ⟨h1_⟩
       have n2_ : Aside0 (Kd.R (Kd.int .i64) 3 w24 w.heap.size (fun k_ => some k_ ≠ (v1098 : Value).ownBlock) v1104 t1103) := ⟨h2_⟩
       have n3_ : Aside0 (Kd.R Kd.bool 4 w24 w.heap.size (fun _ => True) v1090 x4_1) := ⟨h3_⟩
       have n4_ : Aside0 (w24.heap[gb1087]? = some (.cells #[.int .i64 a0_0, .int .i64 a0_1, .slice A0_2 l0_2.length c0_2] 48 (0, 0))) := ⟨h4_⟩
       have n5_ : Aside0 (w24.heap[gb1107]? = some (.cells #[.int .i64 0, .int .i64 0, .int .i64 0] 90 (0, 0))) := ⟨h5_⟩
       have n6_ : Aside0 (w.heap.size ≤ gb1107) := ⟨h6_⟩
       have n7_ : Aside0 (w.heap.size ≤ gb1107) := ⟨h7_⟩
       have n8_ : Aside0 (gb1087 ≠ gb1107) := ⟨h8_⟩
       have n9_ : Aside0 (gb1107 ≠ gb1087) := ⟨h9_⟩
       have n10_ : Aside0 (Below w.heap.size w w24) := ⟨h10_⟩
       clear HO_4
       clear BK1087
       clear HB
       clear h0_ h1_ h2_ h3_ h4_ h5_ h6_ h7_ h8_ h9_ h10_
       have HO1096 := n0_
       have HO1099 := n1_
       have HO1105 := n2_
       have HO_4 := n3_
       have BK1087 := n4_
       have BK1107 := n5_
       have GW1107 := n6_
       have GE1107 := n7_
       have NB1087_1107 := n8_
       have NB1107_1087 := n9_
       have HB := n10_
       clear n0_ n1_ n2_ n3_ n4_ n5_ n6_ n7_ n8_ n9_ n10_
       have hHeld : w24.cell? ⟨gb1087, 0, none⟩ = some (.int .i64 a0_0) ∧ w24.cell? ⟨gb1087, 1, none⟩ = some (.int .i64 a0_1) ∧ w24.cell? ⟨gb1087, 2, none⟩ = some (.slice A0_2 l0_2.length c0_2) := hS_
       refine norm_ (a' := ?_) ?_ ?_
       rotate_left
       ·simp only [putAll, Act.put, za_, zb_, zc_]
        rfl
       refine one_ (i := 10) (N := none) #[true, true, true, true, true, true, true, true, true, true, true, false] rfl rfl (one_of HT_.out (by kernel_rfl)) (by decide) (fun K hK => ?_)
       have hs25 : w24.cell? ⟨gb1107, 0, none⟩ = some (.int .i64 0) := (blk_cell BK1107.out 0).trans rfl
       have hfs25 := blk_frozen BK1107.out 0
       have hns25_0 := NB1087_1107.out
       have hms25_0 := NB1107_1087.out
       have hs26 : w24.cell? ⟨gb1107, 1, none⟩ = some (.int .i64 0) := (blk_cell BK1107.out 1).trans rfl
       have hfs26 := blk_frozen BK1107.out 1
       have hns26_0 := NB1087_1107.out
       have hms26_0 := NB1107_1087.out
       have hs27 : w24.cell? ⟨gb1107, 2, none⟩ = some (.int .i64 0) := (blk_cell BK1107.out 2).trans rfl
       have hfs27 := blk_frozen BK1107.out 2
       have hns27_0 := NB1087_1107.out
       have hms27_0 := NB1107_1087.out
       refine skip_ (w1 := ?_) (by rfl) rfl ?_ ?_
       rotate_left
       ·go_simp
        rfl
       refine hK.out _ _ ⟨((cell_far (p := ⟨gb1107, _, none⟩) NB1087_1107.out _).trans (((cell_far (p := ⟨gb1107, _, none⟩) NB1087_1107.out _).trans (((cell_far (p := ⟨gb1107, _, none⟩) NB1087_1107.out _).trans (hHeld.1)))))), ((cell_far (p := ⟨gb1107, _, none⟩) NB1087_1107.out _).trans (((cell_far (p := ⟨gb1107, _, none⟩) NB1087_1107.out _).trans (((cell_far (p := ⟨gb1107, _, none⟩) NB1087_1107.out _).trans (hHeld.2.1)))))), ((cell_far (p := ⟨gb1107, _, none⟩) NB1087_1107.out _).trans (((cell_far (p := ⟨gb1107, _, none⟩) NB1087_1107.out _).trans (((cell_far (p := ⟨gb1107, _, none⟩) NB1087_1107.out _).trans (hHeld.2.2))))))⟩ (fun hHeld => ?_)
       clear hK K
       refine pure_ (i := 11) (N := some 7) (v := ?_) (a' := ?_) #[true, true, true, true, true, true, true, true, true, true, true, true] rfl rfl (any_of HT_.out (by kernel_rfl)) (fun _ _ _ h => h) (Or.inl ⟨by rfl, ?_⟩) ?_ ?_
       rotate_left
       ·intro w'
        go_simp
        with_reducible rfl
       rotate_left
       ·simp only [Act.put, za_, zb_, zc_, i64_w, i32_w]
        rfl
       refine done_ (done_of HT_.out (by kernel_rfl)) ?_
       obtain ⟨Ao28, co28, eo28⟩ := Kd.R_slice HO1105.out
       subst eo28
       try go_wp2
       go_loopg [37] k1 (fun kq v37 w' => ∃ (x4_2 : List Bool) (x37_2 : Int), v37 = .int .i64 x37_2 ∧ Aside0 (impl_MetCells.l1 kq x4_2 x5_1 t1103 (t1103.length : Int) x37_2 a0_0 a0_1 l0_2 = some (r1, r2)) ∧ Aside0 (kq ≤ k1) ∧ Aside0 (Kd.R Kd.bool 4 w' w.heap.size (fun _ => True) v1090 x4_2) ∧ Aside0 (Kd.R (Kd.int .i64) 3 w' w.heap.size (fun _ => True) (.slice Ao28 t1103.length co28) t1103) ∧ Aside0 (w'.heap[gb1087]? = some (.cells #[.int .i64 a0_0, .int .i64 a0_1, (.slice A0_2 l0_2.length c0_2)] 48 (0, 0))) ∧ Aside0 (w'.heap[gb1107]? = some (.cells #[.int .i64 t1100, .int .i64 t1101, .int .i64 t1102] 90 (0, 0))) ∧ Aside0 (Below w.heap.size w w'))
       case atStart => exact ⟨(x4_1), (0), (by first | rfl | (simp; done) | (simp [*]; done)), H', ⟨Nat.le_refl _⟩, ⟨Kd.R_mv (Kd.R_mono (ok' := fun k_ => True) (Kd.R_far (p := ⟨gb1107, 2, none⟩) (Kd.R_far (p := ⟨gb1107, 1, none⟩) (Kd.R_far (p := ⟨gb1107, 0, none⟩) (Kd.R_types HO_4.out BK1107.out (by decide)) (fun _ hk => hk.2) (.int .i64 t1100)) (fun _ hk => hk.2) (.int .i64 t1101)) (fun _ hk => hk.2) (.int .i64 t1102)) (fun _ hk => trivial))⟩, ⟨Kd.R_mv (Kd.R_mono (ok' := fun k_ => True) (Kd.R_far (p := ⟨gb1107, 2, none⟩) (Kd.R_far (p := ⟨gb1107, 1, none⟩) (Kd.R_far (p := ⟨gb1107, 0, none⟩) (Kd.R_types HO1105.out BK1107.out (by decide)) (fun _ hk => hk.2) (.int .i64 t1100)) (fun _ hk => hk.2) (.int .i64 t1101)) (fun _ hk => hk.2) (.int .i64 t1102)) (fun _ hk => trivial))⟩, ⟨fp BK1087 rfl⟩, ⟨fp BK1107 rfl⟩, ⟨bm HB⟩⟩
       case round =>
        clear H'
        try clear c1
        try clear p2
        try clear c3
        try clear c4
        try clear c4b0
        try clear c4b1
        try clear c5
        try clear c5b0
        try clear c5b1
        try clear c8
        try clear c11
        try clear c12
        try clear c12b0
        try clear hcz16_0
        try clear hcz16_1
        try clear hcz16_2
        try clear hcz7_0
        try clear hcz7_1
        try clear hcz7_2
        try clear hcz9_0
        try clear hcz9_1
        try clear hcz9_2
        try clear hfz16_0
        try clear hfz16_1
        try clear hfz16_2
        try clear hfz7_0
        try clear hfz7_1
        try clear hfz7_2
        try clear hfz9_0
        try clear hfz9_1
        try clear hfz9_2
        try clear p2
        obtain ⟨x4_2, x37_2, rfl, HA, HK2, HO_4, HO_7, BK1087, BK1107, HB⟩ := hrel
        cases gk with
        | zero => exact absurd HA.out (by simp [impl_MetCells.l1])
        | succ k2 =>
         have H := HA.out
         clear HA
         simp only [impl_MetCells.l1] at H
         by_cases c29 : x37_2 < (t1103.length : Int)
         ·rw [if_pos c29] at H
          have c29b0 : decide (x37_2 < (t1103.length : Int)) = true := decide_eq_true c29
          clear c29
          by_cases c30 : 0 ≤ x37_2
          ·rw [if_pos c30] at H
           have c30b0 : decide (0 ≤ x37_2) = true := decide_eq_true c30
           clear c30
           by_cases c31 : x37_2 < (t1103.length : Int)
           ·rw [if_pos c31] at H
            have c31b0 : decide (x37_2 < (t1103.length : Int)) = true := decide_eq_true c31
            clear c31
            by_cases c32 : 0 ≤ (rd t1103 x37_2)
            ·rw [if_pos c32] at H
             have c32b0 : decide (0 ≤ (rd t1103 x37_2)) = true := decide_eq_true c32
             clear c32
             by_cases c33 : (rd t1103 x37_2) < (x4_2.length : Int)
             ·rw [if_pos c33] at H
              have c33b0 : decide ((rd t1103 x37_2) < (x4_2.length : Int)) = true := decide_eq_true c33
              clear c33
              obtain ⟨y1109, hy1109⟩ : ∃ y_ : List Bool, y_ = (x4_2.set ((rd t1103 x37_2) : Int).toNat true) := ⟨_, rfl⟩
              replace H : (impl_MetCells.l1 k2 y1109 x5_1 t1103 (t1103.length : Int) (wrap64 (x37_2 + 1)) a0_0 a0_1 l0_2) = some (r1, r2) := by first | (rw [hy1109]; with_reducible exact H) | (have H2_ := (Option.bind_some _ _).symm.trans H; rw [hy1109]; with_reducible exact H2_) | (have H2_ := (Option.bind_some _ _).symm.trans H; with_reducible exact H2_) | with_reducible exact H | (rw [hy1109]; exact H) | exact H
              have Ny1109 := Aside0.mk hy1109
              clear hy1109
              have H' := Aside0.mk H
              clear H
              have p1108 : 0 ≤ (x37_2 : Int) := of_decide_eq_true (by first | (with_reducible assumption) | assumption)
              have q1108 : x37_2 < (t1103.length : Int) := of_decide_eq_true (by first | (with_reducible assumption) | assumption)
              obtain ⟨ad1108, e1108, hx1108_0⟩ := Kd.at_int (Kd.R_reads' HO_7.out).2.2 x37_2 p1108 q1108
              cases e1108
              replace p1108 := eq_true p1108
              replace q1108 := eq_true q1108
              have p34 : 0 ≤ ((rd t1103 x37_2) : Int) := of_decide_eq_true (by first | (with_reducible assumption) | assumption)
              have q34 : ((rd t1103 x37_2) : Int) < ((x4_2.length : Int) : Int) := of_decide_eq_true (by first | (with_reducible assumption) | assumption)
              obtain ⟨go34, co34, eo34, gb34, gl34, cl34, HG34⟩ := Kd.R_form HO_4.out (by omega)
              (first | cases eo34 | (injection eo34 with ea_ en_ ec_; (first | subst ea_ | (injection ea_ with ea_; subst ea_)); subst ec_; clear en_))
              have GB34 := Aside0.mk gb34
              have GG34 := Aside0.mk HG34
              clear gb34 gl34 HG34
              obtain ⟨hx34_0, hf34_0⟩ := Kd.R_celln false HO_4.out ((rd t1103 x37_2) : Int) p34 q34
              replace p34 := eq_true p34
              replace q34 := eq_true q34
              have HP35 := Kd.R_putg HO_4.out ((rd t1103 x37_2) : Int) true
              go_wp2_with (first | ((with_reducible refine gate_store (t := 4) (p := 43) rfl ?_); refine store_event (t := 4) (p := 43) (v := ?vo_w36) (w1 := (wr.setCell ⟨go34, ((rd t1103 x37_2) : Int).toNat, none⟩ (.bool true))) ?hg ?ho ?hn ?hr ?_; (case ho => rfl); (case hg => rfl); (case hn => rfl); (case hr => first | (go_simp; done) | (go_simp; rfl)); intro w36 hw; have hg : wr.grownBy w36 (some go34) := (by rw [hw]; exact HP35.2); have hp_ : Kd.R Kd.bool 4 w36 w.heap.size (fun _ => True) (.slice (some ⟨go34, 0, none⟩) x4_2.length co34) y1109 := (by rw [hw, Ny1109.out]; exact HP35.1); clear HP35; refine ev5 (hp_) (Kd.R_over' (v := (.slice (some ⟨go34, 0, none⟩) x4_2.length co34)) (Kd.R_mv HO_7.out) (Kd.R_typed HO_4.out) (by decide) hg) (blk_grown (km_ BK1087) hg (Kd.R_ne HO_4.out BK1087.out (by decide))) (blk_grown (km_ BK1107) hg (Kd.R_ne HO_4.out BK1107.out (by decide))) ((by rw [hw]; exact below_set (HB.out) GB34.out : Below w.heap.size w w36)) ?_; clear HO_4 HO_7 BK1087 BK1107 HB; intro HO_4 HO_7 BK1087 BK1107 HB; clear hg hw hp_))
              go_roundg k2
              case measure => have := HK1.out; have := HK2.out; omega
              case rel => exact ⟨(y1109), (wrap64 (x37_2 + 1)), (by first | rfl | (simp; done) | (simp [*]; done)), H', ⟨by have := HK1.out; have := HK2.out; omega⟩, ⟨Kd.R_mv HO_4.out⟩, ⟨Kd.R_mv HO_7.out⟩, ⟨km_ BK1087⟩, ⟨km_ BK1107⟩, ⟨bm HB⟩⟩
             ·rw [if_neg c33] at H
              exact absurd H (by simp)
            ·rw [if_neg c32] at H
             exact absurd H (by simp)
           ·rw [if_neg c31] at H
            exact absurd H (by simp)
          ·rw [if_neg c30] at H
           exact absurd H (by simp)
         ·rw [if_neg c29] at H
          have c29b0 : decide (x37_2 < (t1103.length : Int)) = false := decide_eq_false c29
          clear c29
          have H' := Aside0.mk H
          clear H
          go_wp2
          go_roundg k2
          case measure => have := HK1.out; have := HK2.out; omega
          case rel => exact ⟨(x4_2), (wrap64 (x5_1 + 1)), (by first | rfl | (simp; done) | (simp [*]; done)), H', ⟨by have := HK1.out; have := HK2.out; omega⟩, ⟨Kd.R_mv HO_4.out⟩, ⟨km_ BK1087⟩, ⟨bm HB⟩⟩
      ·rw [if_neg c12] at H
       have c12b0 : decide (x5_1 < a0_1) = false := decide_eq_false c12
       clear c12
       obtain ⟨y1110, hy1110⟩ : ∃ y_ : List Int, y_ = (([] : List Int)) := ⟨_, rfl⟩
       replace H : (impl_MetCells.l2 k1 x4_1 y1110 (x4_1.length : Int) 0) = some (r1, r2) := by first | (rw [hy1110]; with_reducible exact H) | (have H2_ := (Option.bind_some _ _).symm.trans H; rw [hy1110]; with_reducible exact H2_) | (have H2_ := (Option.bind_some _ _).symm.trans H; with_reducible exact H2_) | with_reducible exact H | (rw [hy1110]; exact H) | exact H
       have Ny1110 := Aside0.mk hy1110
       clear hy1110
       have H' := Aside0.mk H
       clear H
       obtain ⟨hcz37_0, hcz37_1, hcz37_2, hfz37_0, hfz37_1, hfz37_2⟩ := bt3 BK1087
       go_wp2_with (first | ((with_reducible refine gate_dst (N := 45) rfl ?_); refine Kd.R_lit (Kd.int .i64) _ 3 ?hg (N := 45) ?hd (xs := ([] : List Int)) (inner := []) (ok := fun _ => True) (okp := fun _ => True) ?hr ?hp (fun _ hk => hk) trivial (Below.refl _ _) (Nat.le_refl _) (by simp) ?_; (case hd => rfl); (case hg => rfl); (case hr => first | (go_simp; done) | (go_simp; rfl)); (case hp => exact (Reps.none _ _)); intro v1111 w38 ho39 hb hg_ hnew_; clear hg_ hnew_; (first | rw [← Ny1110.out] at ho39 | (simp only [Int.reduceToNat] at ho39; rw [← Ny1110.out] at ho39)); refine ev4 (Kd.R_below (Kd.R_mv HO_4.out) hb) (Kd.R_lower ho39 (below_size (bm HB))) (kb BK1087 hb) (bs HB hb) ?_; clear HO_4 BK1087 HB; intro HO_4 HO1112 BK1087 HB; clear hb ho39; obtain ⟨Ao40, co40, eo40⟩ := Kd.R_slice HO_4.out; subst eo40))
       go_loopg [10, 48] k1 (fun kq v10 v48 w' => ∃ (x10_2 : List Int) (x48_2 : Int), v48 = .int .i64 x48_2 ∧ Aside0 (impl_MetCells.l2 kq x4_1 x10_2 (x4_1.length : Int) x48_2 = some (r1, r2)) ∧ Aside0 (kq ≤ k1) ∧ Aside0 (Kd.R Kd.bool 4 w' w.heap.size (fun _ => True) (.slice Ao40 x4_1.length co40) x4_1) ∧ Aside0 (Kd.R (Kd.int .i64) 3 w' w.heap.size (fun _ => True) v10 x10_2) ∧ Aside0 (w'.heap[gb1087]? = some (.cells #[.int .i64 a0_0, .int .i64 a0_1, (.slice A0_2 l0_2.length c0_2)] 48 (0, 0))) ∧ Aside0 (Below w.heap.size w w'))
       case atStart => exact ⟨(y1110), (0), (by first | rfl | (simp; done) | (simp [*]; done)), H', ⟨Nat.le_refl _⟩, ⟨Kd.R_mv HO_4.out⟩, ⟨Kd.R_mv HO1112.out⟩, ⟨km_ BK1087⟩, ⟨bm HB⟩⟩
       case round =>
        clear H'
        try clear c1
        try clear p2
        try clear c3
        try clear c4
        try clear c4b0
        try clear c4b1
        try clear c5
        try clear c5b0
        try clear c5b1
        try clear c8
        try clear c11
        try clear c12
        try clear c12b0
        try clear hcz37_0
        try clear hcz37_1
        try clear hcz37_2
        try clear hcz7_0
        try clear hcz7_1
        try clear hcz7_2
        try clear hcz9_0
        try clear hcz9_1
        try clear hcz9_2
        try clear hfz37_0
        try clear hfz37_1
        try clear hfz37_2
        try clear hfz7_0
        try clear hfz7_1
        try clear hfz7_2
        try clear hfz9_0
        try clear hfz9_1
        try clear hfz9_2
        try clear p2
        obtain ⟨x10_2, x48_2, rfl, HA, HK2, HO_4, HO_10, BK1087, HB⟩ := hrel
        cases gk with
        | zero => exact absurd HA.out (by simp [impl_MetCells.l2])
        | succ k2 =>
         have H := HA.out
         clear HA
         simp only [impl_MetCells.l2] at H
         by_cases c41 : x48_2 < (x4_1.length : Int)
         ·rw [if_pos c41] at H
          have c41b0 : decide (x48_2 < (x4_1.length : Int)) = true := decide_eq_true c41
          clear c41
          by_cases c42 : 0 ≤ x48_2
          ·rw [if_pos c42] at H
           have c42b0 : decide (0 ≤ x48_2) = true := decide_eq_true c42
           clear c42
           by_cases c43 : x48_2 < (x4_1.length : Int)
           ·rw [if_pos c43] at H
            have c43b0 : decide (x48_2 < (x4_1.length : Int)) = true := decide_eq_true c43
            clear c43
            obtain ⟨bq44, hbq44⟩ : ∃ b_ : Bool, b_ = (rdOf false x4_1 x48_2) := ⟨_, rfl⟩
            replace H : (if bq44 = true then (if x10_2.length < 17592186044416 then (impl_MetCells.l2 k2 x4_1 (x10_2 ++ [x48_2]) (x4_1.length : Int) (wrap64 (x48_2 + 1))) else (none)) else (impl_MetCells.l2 k2 x4_1 x10_2 (x4_1.length : Int) (wrap64 (x48_2 + 1)))) = some (r1, r2) := by rw [← hbq44] at H; exact H
            have Nbq44 := Aside0.mk hbq44
            clear hbq44
            by_cases c45 : bq44 = true
            ·subst c45
             have H1 : (if x10_2.length < 17592186044416 then (impl_MetCells.l2 k2 x4_1 (x10_2 ++ [x48_2]) (x4_1.length : Int) (wrap64 (x48_2 + 1))) else (none)) = some (r1, r2) := by rw [if_pos rfl] at H; exact H
             clear H
             have H := H1
             clear H1
             by_cases c46 : x10_2.length < 17592186044416
             ·rw [if_pos c46] at H
              have LMc46 := Aside0.mk c46
              clear c46
              obtain ⟨y1114, hy1114⟩ : ∃ y_ : List Int, y_ = (x10_2 ++ [x48_2]) := ⟨_, rfl⟩
              replace H : (impl_MetCells.l2 k2 x4_1 y1114 (x4_1.length : Int) (wrap64 (x48_2 + 1))) = some (r1, r2) := by first | (rw [hy1114]; with_reducible exact H) | (have H2_ := (Option.bind_some _ _).symm.trans H; rw [hy1114]; with_reducible exact H2_) | (have H2_ := (Option.bind_some _ _).symm.trans H; with_reducible exact H2_) | with_reducible exact H | (rw [hy1114]; exact H) | exact H
              have Ny1114 := Aside0.mk hy1114
              clear hy1114
              have H' := Aside0.mk H
              clear H
              have p1113 : 0 ≤ (x48_2 : Int) := of_decide_eq_true (by first | (with_reducible assumption) | assumption)
              have q1113 : x48_2 < (x4_1.length : Int) := of_decide_eq_true (by first | (with_reducible assumption) | assumption)
              obtain ⟨ad1113, e1113, hx1113_0⟩ := Kd.at_bool (Kd.R_reads' HO_4.out).2.2 x48_2 p1113 q1113
              (try rw [← Nbq44.out] at hx1113_0)
              cases e1113
              replace p1113 := eq_true p1113
              replace q1113 := eq_true q1113
              go_wp2_with (first | ((with_reducible refine gate_builtin (b := .append) (xs := #[.tmp 54, .tmp 56]) rfl ?_); at_builtin; refine Kd.R_append (Kd.int .i64) (w0 := w) w.heap.size rfl (.tmp 54) (.tmp 56) 22 3 (.int .i64 0) 8 rfl Try.underlying22 info3 rfl (by decide) (by omega) u10 x10_2 x48_2 [.int .i64 x48_2] (fun _ => True) (fun _ => False) rfl rfl ?aP (fun _ hk => hk.elim) ?aF ?aO ?aB ?aS ?aL ?_; (case aP => exact rfl); (case aB => exact (bm HB)); (case aF => exact (fun _ _ => trivial)); (case aO => exact (Kd.R_mv HO_10.out)); (case aS => exact (below_size (bm HB))); (case aL => have := LMc46.out; omega); intro v1115 w47 ho hb hg hat; rw [← Ny1114.out] at ho; refine ev4 (Kd.R_over' (Kd.R_mv HO_4.out) (Kd.R_typed (Kd.R_mv HO_10.out)) (by decide) hg) (blk_grown (km_ BK1087) hg (Kd.R_ne HO_10.out BK1087.out (by decide))) (hb) (ho) ?_; clear HO_4 BK1087 HB HO_10; intro HO_4 BK1087 HB HO1116; clear ho hb hg hat))
              go_roundg k2
              case measure => have := HK1.out; have := HK2.out; omega
              case rel => exact ⟨(y1114), (wrap64 (x48_2 + 1)), (by first | rfl | (simp; done) | (simp [*]; done)), H', ⟨by have := HK1.out; have := HK2.out; omega⟩, ⟨Kd.R_mv HO_4.out⟩, ⟨Kd.R_mv HO1116.out⟩, ⟨km_ BK1087⟩, ⟨bm HB⟩⟩
             ·rw [if_neg c46] at H
              exact absurd H (by simp)
            ·replace c45 := Bool.eq_false_iff.mpr c45
             subst c45
             have H1 : (impl_MetCells.l2 k2 x4_1 x10_2 (x4_1.length : Int) (wrap64 (x48_2 + 1))) = some (r1, r2) := by rw [if_neg (show ¬ (false = true) by decide)] at H; exact H
             clear H
             have H := H1
             clear H1
             have H' := Aside0.mk H
             clear H
             have p1113 : 0 ≤ (x48_2 : Int) := of_decide_eq_true (by first | (with_reducible assumption) | assumption)
             have q1113 : x48_2 < (x4_1.length : Int) := of_decide_eq_true (by first | (with_reducible assumption) | assumption)
             obtain ⟨ad1113, e1113, hx1113_0⟩ := Kd.at_bool (Kd.R_reads' HO_4.out).2.2 x48_2 p1113 q1113
             (try rw [← Nbq44.out] at hx1113_0)
             cases e1113
             replace p1113 := eq_true p1113
             replace q1113 := eq_true q1113
             go_wp2
             go_roundg k2
             case measure => have := HK1.out; have := HK2.out; omega
             case rel => exact ⟨(x10_2), (wrap64 (x48_2 + 1)), (by first | rfl | (simp; done) | (simp [*]; done)), H', ⟨by have := HK1.out; have := HK2.out; omega⟩, ⟨Kd.R_mv HO_4.out⟩, ⟨Kd.R_mv HO_10.out⟩, ⟨km_ BK1087⟩, ⟨bm HB⟩⟩
           ·rw [if_neg c43] at H
            exact absurd H (by simp)
          ·rw [if_neg c42] at H
           exact absurd H (by simp)
         ·rw [if_neg c41] at H
          have c41b0 : decide (x48_2 < (x4_1.length : Int)) = false := decide_eq_false c41
          clear c41
          simp only [Option.some.injEq, Prod.mk.injEq] at H
          obtain ⟨rfl, rfl⟩ := H
          go_wp2
          go_ret2
          exact ⟨_, by first | rfl | (simp [e0_, e1_] <;> rfl) | (simp [*, e0_, e1_] <;> rfl), Kd.R_mv HO_10.out, bm HB⟩
   ·rw [if_neg c5] at H
    exact absurd H (by simp)
  ·rw [if_neg c4] at H
   exact absurd H (by simp)
 ·replace c3 := Bool.eq_false_iff.mpr c3
  subst c3
  have H1 : (some (([] : List Int), false)) = some (r1, r2) := by rw [if_neg (show ¬ (false = true) by decide)] at H; exact H
  clear H
  have H := H1
  clear H1
  simp only [Option.some.injEq, Prod.mk.injEq] at H
  obtain ⟨rfl, rfl⟩ := H
  go_enter Try.func86, Try.ntmps86
  go_wp2_with (first | ((with_reducible refine gate_dst (N := 1) rfl ?_); refine box_event ?hg (N := 1) ?hd (cs := #[.int .i64 a0_0, .int .i64 a0_1, .slice A0_2 l0_2.length c0_2]) (t := 48) ?hr ?_; (case hd => rfl); (case hg => rfl); (case hr => first | (go_simp; done) | (go_simp; rfl)); intro gb1087 hg w48 hbox hb; refine ev4 (bs HB hb) (hbox) (gle hg HB) (gle hg HB) ?_; clear HB; intro HB BK1087 GW1087 GE1087; clear hb hbox hg; obtain ⟨hcz49_0, hcz49_1, hcz49_2, hfz49_0, hfz49_1, hfz49_2⟩ := bt3 BK1087) | ((with_reducible refine gate_callee (f := 114) rfl ?_); refine goesL_ (some 14) rfl rfl Try.func114 (by kernel_rfl) rfl #[.agg #[.int .i64 a0_0, .int .i64 a0_1, .slice A0_2 l0_2.length c0_2]] rfl (by (try simp only [ma_, mb_, mc_]); first | done | rfl | (simp only [List.length_drop, List.length_take]; rfl)) ?_; (with_reducible refine (impl_IsBoard.calls k a0_0 a0_1 _ _ l0_2 false _ (Kd.C_mv (Kd.C_below HR0_2.out HB.out)) HC0_2.out A2.out).mono ?_); rintro e w50 ⟨rfl, hb⟩; refine ⟨_, rfl, ?_⟩; refine ev2 (kb BK1087 hb) (bs HB hb) ?_; clear BK1087 HB; intro BK1087 HB; (try clear hb); (try clear hb2); (try clear hk); (try clear hi)))
  go_ret2
  exact ⟨_, by first | rfl | (simp [e0_, e1_] <;> rfl) | (simp [*, e0_, e1_] <;> rfl), by first | exact Kd.R_nil _ _ _ _ _ | exact Kd.N_nil _ _ _ _ _ | exact Kd.V_nil _ _ _ _ _ | exact Kd.Q_nil _ _ _ _ _ | exact Kd.S_nil _ _ _ _ _, bm HB⟩

/-! ### impl_UnusedCells: function 38 -/
def impl_UnusedCells.l0 : Nat → List Int → List Int → List (S78) → Int → Int → Option (List Int × Bool)
 | 0, _, _, _, _, _ => none
 | k + 1, x4, x6, x18, x19, x20 => if x20 < x19 then (if 0 ≤ x20 then (if x20 < (x18.length : Int) then (if ((rd_T78 x18 x20).f0) = 0 then (impl_UnusedCells.l0 k x4 x6 x18 x19 (wrap64 (x20 + 1))) else ((slices_Contains_int_int.f k x4 x20).bind fun t1129 => (if t1129 = true then (impl_UnusedCells.l0 k x4 x6 x18 x19 (wrap64 (x20 + 1))) else (if x6.length < 17592186044416 then (impl_UnusedCells.l0 k x4 (x6 ++ [x20]) x18 x19 (wrap64 (x20 + 1))) else (none))))) else (none)) else (none)) else (some (x6, true))
def impl_UnusedCells.f (k : Nat) (a0_0 : Int) (a0_1 : Int) (l0_2 : List (S78)) : Option (List Int × Bool) := (impl_MetCells.f k a0_0 a0_1 l0_2).bind fun bt1120 => (if bt1120.2 = true then (impl_UnusedCells.l0 k bt1120.1 (([] : List Int)) l0_2 (l0_2.length : Int) 0) else (some (([] : List Int), false)))
set_option maxHeartbeats 8000000 in
set_option maxRecDepth 100000 in
theorem impl_UnusedCells.calls (k : Nat) (a0_0 : Int) (a0_1 : Int) (A0_2 : Option Addr) (c0_2 : Nat) (l0_2 : List (S78)) (r1 : List Int) (r2 : Bool) (w : World) (hr0_2 : Kd.C k78 w A0_2 l0_2.length l0_2) (hc0_2 : l0_2.length ≤ c0_2) (h : impl_UnusedCells.f k a0_0 a0_1 l0_2 = some (r1, r2)) :
  Calls Try.prog 38 #[.agg #[.int .i64 a0_0, .int .i64 a0_1, .slice A0_2 l0_2.length c0_2]] w fun e w' => ∃ v0_ : Value, e = .returned (.tuple #[v0_, .bool r2]) ∧ Kd.R (Kd.int .i64) 3 w' w.heap.size (fun _ => True) v0_ r1 ∧ Below w.heap.size w w' := by
 have HR0_2 := Aside0.mk hr0_2
 have HC0_2 := Aside0.mk hc0_2
 clear hr0_2 hc0_2
 have HB := Aside0.mk (Below.refl w.heap.size w)
 have H : ((impl_MetCells.f k a0_0 a0_1 l0_2).bind fun bt1120 => (if bt1120.2 = true then (impl_UnusedCells.l0 k bt1120.1 (([] : List Int)) l0_2 (l0_2.length : Int) 0) else (some (([] : List Int), false)))) = some (r1, r2) := h
 clear h
 replace H := Option.bind_eq_some_iff.mp H
 obtain ⟨⟨t1120, t1123⟩, A20, H⟩ := H
 replace H : (if t1123 = true then (impl_UnusedCells.l0 k t1120 (([] : List Int)) l0_2 (l0_2.length : Int) 0) else (some (([] : List Int), false))) = some (r1, r2) := H
 have A2 := Aside0.mk A20
 clear A20
 by_cases c3 : t1123 = true
 ·subst c3
  have H1 : (impl_UnusedCells.l0 k t1120 (([] : List Int)) l0_2 (l0_2.length : Int) 0) = some (r1, r2) := by rw [if_pos rfl] at H; exact H
  clear H
  have H := H1
  clear H1
  obtain ⟨y1124, hy1124⟩ : ∃ y_ : List Int, y_ = (([] : List Int)) := ⟨_, rfl⟩
  replace H : (impl_UnusedCells.l0 k t1120 y1124 l0_2 (l0_2.length : Int) 0) = some (r1, r2) := by first | (rw [hy1124]; with_reducible exact H) | (have H2_ := (Option.bind_some _ _).symm.trans H; rw [hy1124]; with_reducible exact H2_) | (have H2_ := (Option.bind_some _ _).symm.trans H; with_reducible exact H2_) | with_reducible exact H | (rw [hy1124]; exact H) | exact H
  have Ny1124 := Aside0.mk hy1124
  clear hy1124
  have H' := Aside0.mk H
  clear H
  go_enter Try.func38, Try.ntmps38
  go_wp2_with (first | ((with_reducible refine gate_dst (N := 1) rfl ?_); refine box_event ?hg (N := 1) ?hd (cs := #[.int .i64 a0_0, .int .i64 a0_1, .slice A0_2 l0_2.length c0_2]) (t := 48) ?hr ?_; (case hd => rfl); (case hg => rfl); (case hr => first | (go_simp; done) | (go_simp; rfl)); intro gb1119 hg w4 hbox hb; refine ev4 (bs HB hb) (hbox) (gle hg HB) (gle hg HB) ?_; clear HB; intro HB BK1119 GW1119 GE1119; clear hb hbox hg; obtain ⟨hcz5_0, hcz5_1, hcz5_2, hfz5_0, hfz5_1, hfz5_2⟩ := bt3 BK1119) | ((with_reducible refine gate_callee (f := 86) rfl ?_); refine goesL_ (some 11) rfl rfl Try.func86 (by kernel_rfl) rfl #[.agg #[.int .i64 a0_0, .int .i64 a0_1, .slice A0_2 l0_2.length c0_2]] rfl (by (try simp only [ma_, mb_, mc_]); first | done | rfl | (simp only [List.length_drop, List.length_take]; rfl)) ?_; (with_reducible refine (impl_MetCells.calls k a0_0 a0_1 _ _ l0_2 t1120 true _ (Kd.C_mv (Kd.C_below HR0_2.out HB.out)) HC0_2.out A2.out).mono ?_); rintro e w6 ⟨v1121, rfl, ho0, hb⟩; refine ⟨_, rfl, ?_⟩; refine ev3 (Kd.R_lower ho0 (below_size (bm HB))) (kb BK1119 hb) (bs HB hb) ?_; clear BK1119 HB; intro HO1122 BK1119 HB; (try clear hb); (try clear hb2); (try clear hk); (try clear hi); (try clear ho0)) | ((with_reducible refine gate_dst (N := 16) rfl ?_); refine Kd.R_lit (Kd.int .i64) _ 3 ?hg (N := 16) ?hd (xs := ([] : List Int)) (inner := []) (ok := fun _ => True) (okp := fun _ => True) ?hr ?hp (fun _ hk => hk) trivial (Below.refl _ _) (Nat.le_refl _) (by simp) ?_; (case hd => rfl); (case hg => rfl); (case hr => first | (go_simp; done) | (go_simp; rfl)); (case hp => exact (Reps.none _ _)); intro v1125 w7 ho8 hb hg_ hnew_; clear hg_ hnew_; (first | rw [← Ny1124.out] at ho8 | (simp only [Int.reduceToNat] at ho8; rw [← Ny1124.out] at ho8)); refine ev4 (Kd.R_elder' (Kd.R_mv HO1122.out) (Kd.R_base ho8) hb) (Kd.R_lower (Kd.R_new' ho8 (Kd.R_lt (Kd.R_mv HO1122.out))) (below_size (bm HB))) (kb BK1119 hb) (bs HB hb) ?_; clear HO1122 BK1119 HB; intro HO1122 HO1126 BK1119 HB; clear hb ho8; obtain ⟨hcz9_0, hcz9_1, hcz9_2, hfz9_0, hfz9_1, hfz9_2⟩ := bt3 BK1119))
  go_loopg [6, 20] k (fun kq v6 v20 w' => ∃ (x6_1 : List Int) (x20_1 : Int), v20 = .int .i64 x20_1 ∧ Aside0 (impl_UnusedCells.l0 kq t1120 x6_1 l0_2 (l0_2.length : Int) x20_1 = some (r1, r2)) ∧ Aside0 (kq ≤ k) ∧ Aside0 (Kd.R (Kd.int .i64) 3 w' w.heap.size (fun k_ => some k_ ≠ (v6 : Value).ownBlock) v1121 t1120) ∧ Aside0 (Kd.R (Kd.int .i64) 3 w' w.heap.size (fun k_ => some k_ ≠ (v1121 : Value).ownBlock) v6 x6_1) ∧ Aside0 (w'.heap[gb1119]? = some (.cells #[.int .i64 a0_0, .int .i64 a0_1, (.slice A0_2 l0_2.length c0_2)] 48 (0, 0))) ∧ Aside0 (Below w.heap.size w w'))
  case atStart => exact ⟨(y1124), (0), (by first | rfl | (simp; done) | (simp [*]; done)), H', ⟨Nat.le_refl _⟩, ⟨Kd.R_mv (Kd.R_mono HO1122.out (fun _ hk => hk.2))⟩, ⟨Kd.R_mv (Kd.R_mono HO1126.out (fun _ hk => hk.2))⟩, ⟨km_ BK1119⟩, ⟨bm HB⟩⟩
  case round =>
   clear H'
   try clear p2
   try clear c3
   try clear c8
   try clear hcz5_0
   try clear hcz5_1
   try clear hcz5_2
   try clear hcz9_0
   try clear hcz9_1
   try clear hcz9_2
   try clear hfz5_0
   try clear hfz5_1
   try clear hfz5_2
   try clear hfz9_0
   try clear hfz9_1
   try clear hfz9_2
   obtain ⟨x6_1, x20_1, rfl, HA, HK1, HO_4, HO_6, BK1119, HB⟩ := hrel
   cases gk with
   | zero => exact absurd HA.out (by simp [impl_UnusedCells.l0])
   | succ k1 =>
    have H := HA.out
    clear HA
    simp only [impl_UnusedCells.l0] at H
    by_cases c10 : x20_1 < (l0_2.length : Int)
    ·rw [if_pos c10] at H
     have c10b0 : decide (x20_1 < (l0_2.length : Int)) = true := decide_eq_true c10
     clear c10
     by_cases c11 : 0 ≤ x20_1
     ·rw [if_pos c11] at H
      have c11b0 : decide (0 ≤ x20_1) = true := decide_eq_true c11
      clear c11
      by_cases c12 : x20_1 < (l0_2.length : Int)
      ·rw [if_pos c12] at H
       have c12b0 : decide (x20_1 < (l0_2.length : Int)) = true := decide_eq_true c12
       clear c12
       by_cases c13 : ((rd_T78 l0_2 x20_1).f0) = 0
       ·rw [if_pos c13] at H
        have c13b0 : (((rd_T78 l0_2 x20_1).f0) == 0) = true := beq_iff_eq.mpr c13
        have c13b1 : (((rd_T78 l0_2 x20_1).f0) != 0) = false := bne_eq_false_iff_eq.mpr c13
        clear c13
        have H' := Aside0.mk H
        clear H
        have p1127 : 0 ≤ (x20_1 : Int) := of_decide_eq_true (by first | (with_reducible assumption) | assumption)
        have q1127 : x20_1 < (l0_2.length : Int) := of_decide_eq_true (by first | (with_reducible assumption) | assumption)
        obtain ⟨ad1127, e1127, hx1127_0, hx1127_1⟩ := at_T78 HR0_2.out x20_1 p1127 q1127
        cases e1127
        replace hx1127_0 := (HB.out.cell (World.block_lt_of_cell? w _ hx1127_0)).trans hx1127_0
        replace hx1127_1 := (HB.out.cell (World.block_lt_of_cell? w _ hx1127_1)).trans hx1127_1
        replace p1127 := eq_true p1127
        replace q1127 := eq_true q1127
        go_wp2_with (first | ((with_reducible refine gate_dst (N := 8) rfl ?_); refine box_event ?hg (N := 8) ?hd (cs := #[.int .i64 0, .int .i64 0]) (t := 78) ?hr ?_; (case hd => rfl); (case hg => rfl); (case hr => first | (go_simp; done) | (go_simp; rfl)); intro gb1128 hg w14 hbox hb; refine ev9 (Kd.R_below (Kd.R_mv HO_4.out) hb) (Kd.R_below (Kd.R_mv HO_6.out) hb) (kb BK1119 hb) (bs HB hb) (hbox) (gle hg HB) (gle hg HB) (gnf hg BK1119) (gne hg BK1119) ?_; clear HO_4 HO_6 BK1119 HB; intro HO_4 HO_6 BK1119 HB BK1128 GW1128 GE1128 NB1119_1128 NB1128_1119; clear hb hbox hg; have hnb15 := NB1128_1119.out; have hnc15 := NB1119_1128.out; obtain ⟨hcz16_0, hcz16_1, hfz16_0, hfz16_1⟩ := bt2 BK1128))
        go_roundg k1
        case measure => have := HK1.out; omega
        case rel => exact ⟨(x6_1), (wrap64 (x20_1 + 1)), (by first | rfl | (simp; done) | (simp [*]; done)), H', ⟨by have := HK1.out; omega⟩, ⟨Kd.R_mv (Kd.R_mono (Kd.R_far (p := ⟨gb1128, 1, none⟩) (Kd.R_far (p := ⟨gb1128, 0, none⟩) (Kd.R_types HO_4.out BK1128.out (by decide)) (fun _ hk => hk.2) (.int .i64 ((rd_T78 l0_2 x20_1).f0))) (fun _ hk => hk.2) (.int .i64 ((rd_T78 l0_2 x20_1).f1))) (fun _ hk => hk.1))⟩, ⟨Kd.R_mv (Kd.R_mono (Kd.R_far (p := ⟨gb1128, 1, none⟩) (Kd.R_far (p := ⟨gb1128, 0, none⟩) (Kd.R_types HO_6.out BK1128.out (by decide)) (fun _ hk => hk.2) (.int .i64 ((rd_T78 l0_2 x20_1).f0))) (fun _ hk => hk.2) (.int .i64 ((rd_T78 l0_2 x20_1).f1))) (fun _ hk => hk.1))⟩, ⟨fp BK1119 rfl⟩, ⟨bm HB⟩⟩
       ·rw [if_neg c13] at H
        have c13b0 : (((rd_T78 l0_2 x20_1).f0) == 0) = false := beq_eq_false_iff_ne.mpr c13
        have c13b1 : (((rd_T78 l0_2 x20_1).f0) != 0) = true := bne_iff_ne.mpr c13
        replace H := Option.bind_eq_some_iff.mp H
        obtain ⟨t1129, A170, H⟩ := H
        replace H : (if t1129 = true then (impl_UnusedCells.l0 k1 t1120 x6_1 l0_2 (l0_2.length : Int) (wrap64 (x20_1 + 1))) else (if x6_1.length < 17592186044416 then (impl_UnusedCells.l0 k1 t1120 (x6_1 ++ [x20_1]) l0_2 (l0_2.length : Int) (wrap64 (x20_1 + 1))) else (none))) = some (r1, r2) := H
        have A17 := Aside0.mk A170
        clear A170
        by_cases c18 : t1129 = true
        ·subst c18
         have H1 : (impl_UnusedCells.l0 k1 t1120 x6_1 l0_2 (l0_2.length : Int) (wrap64 (x20_1 + 1))) = some (r1, r2) := by rw [if_pos rfl] at H; exact H
         clear H
         have H := H1
         clear H1
         have H' := Aside0.mk H
         clear H
         have p1127 : 0 ≤ (x20_1 : Int) := of_decide_eq_true (by first | (with_reducible assumption) | assumption)
         have q1127 : x20_1 < (l0_2.length : Int) := of_decide_eq_true (by first | (with_reducible assumption) | assumption)
         obtain ⟨ad1127, e1127, hx1127_0, hx1127_1⟩ := at_T78 HR0_2.out x20_1 p1127 q1127
         cases e1127
         replace hx1127_0 := (HB.out.cell (World.block_lt_of_cell? w _ hx1127_0)).trans hx1127_0
         replace hx1127_1 := (HB.out.cell (World.block_lt_of_cell? w _ hx1127_1)).trans hx1127_1
         replace p1127 := eq_true p1127
         replace q1127 := eq_true q1127
         go_wp2_with (first | ((with_reducible refine gate_dst (N := 8) rfl ?_); refine box_event ?hg (N := 8) ?hd (cs := #[.int .i64 0, .int .i64 0]) (t := 78) ?hr ?_; (case hd => rfl); (case hg => rfl); (case hr => first | (go_simp; done) | (go_simp; rfl)); intro gb1128 hg w19 hbox hb; refine ev9 (Kd.R_below (Kd.R_mv HO_4.out) hb) (Kd.R_below (Kd.R_mv HO_6.out) hb) (kb BK1119 hb) (bs HB hb) (hbox) (gle hg HB) (gle hg HB) (gnf hg BK1119) (gne hg BK1119) ?_; clear HO_4 HO_6 BK1119 HB; intro HO_4 HO_6 BK1119 HB BK1128 GW1128 GE1128 NB1119_1128 NB1128_1119; clear hb hbox hg; have hnb20 := NB1128_1119.out; have hnc20 := NB1119_1128.out; obtain ⟨hcz21_0, hcz21_1, hfz21_0, hfz21_1⟩ := bt2 BK1128; obtain ⟨Ao22, co22, eo22⟩ := Kd.R_slice HO_4.out; subst eo22) | (go_at_call 87; (with_reducible refine (slices_Contains_int_int.calls k1 _ _ t1120 x20_1 true _ ?side1 ((Kd.R_reads' HO_4.out).2.1) A17.out).mono ?_); (case side1 => refine (Kd.R_reads' (e := 3) (base := w.heap.size) (ok := fun k_ => some k_ ≠ (u6 : Value).ownBlock) (n := t1120.length) (c := co22) ?_).2.2; exact (Kd.R_mv (Kd.R_mono (Kd.R_far (p := ⟨gb1128, 1, none⟩) (Kd.R_far (p := ⟨gb1128, 0, none⟩) (Kd.R_types HO_4.out BK1128.out (by decide)) (fun _ hk => hk.2) (.int .i64 ((rd_T78 l0_2 x20_1).f0))) (fun _ hk => hk.2) (.int .i64 ((rd_T78 l0_2 x20_1).f1))) (fun _ h_ => h_.1)))); rintro e w' ⟨rfl, ⟨nd, rfl⟩⟩))
         go_roundg k1
         case measure => have := HK1.out; omega
         case rel => exact ⟨(x6_1), (wrap64 (x20_1 + 1)), (by first | rfl | (simp; done) | (simp [*]; done)), H', ⟨by have := HK1.out; omega⟩, ⟨Kd.R_mv (Kd.R_mono (Kd.R_far (p := ⟨gb1128, 1, none⟩) (Kd.R_far (p := ⟨gb1128, 0, none⟩) (Kd.R_types HO_4.out BK1128.out (by decide)) (fun _ hk => hk.2) (.int .i64 ((rd_T78 l0_2 x20_1).f0))) (fun _ hk => hk.2) (.int .i64 ((rd_T78 l0_2 x20_1).f1))) (fun _ hk => hk.1))⟩, ⟨Kd.R_mv (Kd.R_mono (Kd.R_far (p := ⟨gb1128, 1, none⟩) (Kd.R_far (p := ⟨gb1128, 0, none⟩) (Kd.R_types HO_6.out BK1128.out (by decide)) (fun _ hk => hk.2) (.int .i64 ((rd_T78 l0_2 x20_1).f0))) (fun _ hk => hk.2) (.int .i64 ((rd_T78 l0_2 x20_1).f1))) (fun _ hk => hk.1))⟩, ⟨fp BK1119 rfl⟩, ⟨bm HB⟩⟩
        ·replace c18 := Bool.eq_false_iff.mpr c18
         subst c18
         have H1 : (if x6_1.length < 17592186044416 then (impl_UnusedCells.l0 k1 t1120 (x6_1 ++ [x20_1]) l0_2 (l0_2.length : Int) (wrap64 (x20_1 + 1))) else (none)) = some (r1, r2) := by rw [if_neg (show ¬ (false = true) by decide)] at H; exact H
         clear H
         have H := H1
         clear H1
         by_cases c23 : x6_1.length < 17592186044416
         ·rw [if_pos c23] at H
          have LMc23 := Aside0.mk c23
          clear c23
          obtain ⟨y1130, hy1130⟩ : ∃ y_ : List Int, y_ = (x6_1 ++ [x20_1]) := ⟨_, rfl⟩
          replace H : (impl_UnusedCells.l0 k1 t1120 y1130 l0_2 (l0_2.length : Int) (wrap64 (x20_1 + 1))) = some (r1, r2) := by first | (rw [hy1130]; with_reducible exact H) | (have H2_ := (Option.bind_some _ _).symm.trans H; rw [hy1130]; with_reducible exact H2_) | (have H2_ := (Option.bind_some _ _).symm.trans H; with_reducible exact H2_) | with_reducible exact H | (rw [hy1130]; exact H) | exact H
          have Ny1130 := Aside0.mk hy1130
          clear hy1130
          have H' := Aside0.mk H
          clear H
          have p1127 : 0 ≤ (x20_1 : Int) := of_decide_eq_true (by first | (with_reducible assumption) | assumption)
          have q1127 : x20_1 < (l0_2.length : Int) := of_decide_eq_true (by first | (with_reducible assumption) | assumption)
          obtain ⟨ad1127, e1127, hx1127_0, hx1127_1⟩ := at_T78 HR0_2.out x20_1 p1127 q1127
          cases e1127
          replace hx1127_0 := (HB.out.cell (World.block_lt_of_cell? w _ hx1127_0)).trans hx1127_0
          replace hx1127_1 := (HB.out.cell (World.block_lt_of_cell? w _ hx1127_1)).trans hx1127_1
          replace p1127 := eq_true p1127
          replace q1127 := eq_true q1127
          go_wp2_with (first | ((with_reducible refine gate_dst (N := 8) rfl ?_); refine box_event ?hg (N := 8) ?hd (cs := #[.int .i64 0, .int .i64 0]) (t := 78) ?hr ?_; (case hd => rfl); (case hg => rfl); (case hr => first | (go_simp; done) | (go_simp; rfl)); intro gb1128 hg w24 hbox hb; refine ev9 (Kd.R_below (Kd.R_mv HO_4.out) hb) (Kd.R_below (Kd.R_mv HO_6.out) hb) (kb BK1119 hb) (bs HB hb) (hbox) (gle hg HB) (gle hg HB) (gnf hg BK1119) (gne hg BK1119) ?_; clear HO_4 HO_6 BK1119 HB; intro HO_4 HO_6 BK1119 HB BK1128 GW1128 GE1128 NB1119_1128 NB1128_1119; clear hb hbox hg; have hnb25 := NB1128_1119.out; have hnc25 := NB1119_1128.out; obtain ⟨hcz26_0, hcz26_1, hfz26_0, hfz26_1⟩ := bt2 BK1128; obtain ⟨Ao27, co27, eo27⟩ := Kd.R_slice HO_4.out; subst eo27) | (go_at_call 87; (with_reducible refine (slices_Contains_int_int.calls k1 _ _ t1120 x20_1 false _ ?side1 ((Kd.R_reads' HO_4.out).2.1) A17.out).mono ?_); (case side1 => refine (Kd.R_reads' (e := 3) (base := w.heap.size) (ok := fun k_ => some k_ ≠ (u6 : Value).ownBlock) (n := t1120.length) (c := co27) ?_).2.2; exact (Kd.R_mv (Kd.R_mono (Kd.R_far (p := ⟨gb1128, 1, none⟩) (Kd.R_far (p := ⟨gb1128, 0, none⟩) (Kd.R_types HO_4.out BK1128.out (by decide)) (fun _ hk => hk.2) (.int .i64 ((rd_T78 l0_2 x20_1).f0))) (fun _ hk => hk.2) (.int .i64 ((rd_T78 l0_2 x20_1).f1))) (fun _ h_ => h_.1)))); rintro e w' ⟨rfl, ⟨nd, rfl⟩⟩) | ((with_reducible refine gate_builtin (b := .append) (xs := #[.tmp 34, .tmp 36]) rfl ?_); at_builtin; refine Kd.R_append (Kd.int .i64) (w0 := w) w.heap.size rfl (.tmp 34) (.tmp 36) 22 3 (.int .i64 0) 8 rfl Try.underlying22 info3 rfl (by decide) (by omega) u6 x6_1 x20_1 [.int .i64 x20_1] (fun k_ => some k_ ≠ (.slice Ao27 t1120.length co27 : Value).ownBlock) (fun _ => False) rfl (by first | (go_simp; done) | (go_simp; rfl)) ?aP (fun _ hk => hk.elim) ?aF ?aO ?aB ?aS ?aL ?_; (case aP => exact rfl); (case aB => exact (bm HB)); (case aF => exact (fun k_ hk => Kd.fresh' (Kd.R_lt (Kd.R_mv (Kd.R_mono (Kd.R_far (p := ⟨gb1128, 1, none⟩) (Kd.R_far (p := ⟨gb1128, 0, none⟩) (Kd.R_types HO_4.out BK1128.out (by decide)) (fun _ hk => hk.2) (.int .i64 ((rd_T78 l0_2 x20_1).f0))) (fun _ hk => hk.2) (.int .i64 ((rd_T78 l0_2 x20_1).f1))) (fun _ h_ => h_.1)))) k_ hk)); (case aO => exact (Kd.R_mv (Kd.R_mono (Kd.R_far (p := ⟨gb1128, 1, none⟩) (Kd.R_far (p := ⟨gb1128, 0, none⟩) (Kd.R_types HO_6.out BK1128.out (by decide)) (fun _ hk => hk.2) (.int .i64 ((rd_T78 l0_2 x20_1).f0))) (fun _ hk => hk.2) (.int .i64 ((rd_T78 l0_2 x20_1).f1))) (fun _ hk => hk.1)))); (case aS => exact (below_size (bm HB))); (case aL => have := LMc23.out; omega); intro v1131 w28 ho hb hg hat; rw [← Ny1130.out] at ho; refine ev5 (Kd.R_after (ok := (fun _ => True)) (Kd.R_mv (Kd.R_mono (Kd.R_far (p := ⟨gb1128, 1, none⟩) (Kd.R_far (p := ⟨gb1128, 0, none⟩) (Kd.R_types HO_4.out BK1128.out (by decide)) (fun _ hk => hk.2) (.int .i64 ((rd_T78 l0_2 x20_1).f0))) (fun _ hk => hk.2) (.int .i64 ((rd_T78 l0_2 x20_1).f1))) (fun _ hk => ⟨trivial, hk.1⟩))) hg hat) (blk_grown (g := gb1119) (o := .cells #[.int .i64 a0_0, .int .i64 a0_1, .slice (some ad1127) l0_2.length c0_2] 48 (0, 0)) (fp BK1119 rfl) hg (Kd.R_ne HO_6.out BK1119.out (by decide))) (blk_grown (g := gb1128) (o := .cells #[.int .i64 ((rd_T78 l0_2 x20_1).f0), .int .i64 ((rd_T78 l0_2 x20_1).f1)] 78 (0, 0)) (fp BK1128 rfl) hg (Kd.R_ne HO_6.out BK1128.out (by decide))) (hb) (ho) ?_; clear HO_4 BK1119 BK1128 HB HO_6; intro HO_4 BK1119 BK1128 HB HO1132; clear ho hb hg hat))
          go_roundg k1
          case measure => have := HK1.out; omega
          case rel => exact ⟨(y1130), (wrap64 (x20_1 + 1)), (by first | rfl | (simp; done) | (simp [*]; done)), H', ⟨by have := HK1.out; omega⟩, ⟨Kd.R_mv (Kd.R_mono HO_4.out (fun _ hk => hk.2))⟩, ⟨Kd.R_mv HO1132.out⟩, ⟨km_ BK1119⟩, ⟨bm HB⟩⟩
         ·rw [if_neg c23] at H
          exact absurd H (by simp)
      ·rw [if_neg c12] at H
       exact absurd H (by simp)
     ·rw [if_neg c11] at H
      exact absurd H (by simp)
    ·rw [if_neg c10] at H
     have c10b0 : decide (x20_1 < (l0_2.length : Int)) = false := decide_eq_false c10
     clear c10
     simp only [Option.some.injEq, Prod.mk.injEq] at H
     obtain ⟨rfl, rfl⟩ := H
     go_wp2
     go_ret2
     exact ⟨_, by first | rfl | (simp [e0_, e1_] <;> rfl) | (simp [*, e0_, e1_] <;> rfl), Kd.R_mv (Kd.R_mono (ok' := fun k_ => True) HO_6.out (fun _ hk => trivial)), bm HB⟩
 ·replace c3 := Bool.eq_false_iff.mpr c3
  subst c3
  have H1 : (some (([] : List Int), false)) = some (r1, r2) := by rw [if_neg (show ¬ (false = true) by decide)] at H; exact H
  clear H
  have H := H1
  clear H1
  simp only [Option.some.injEq, Prod.mk.injEq] at H
  obtain ⟨rfl, rfl⟩ := H
  go_enter Try.func38, Try.ntmps38
  go_wp2_with (first | ((with_reducible refine gate_dst (N := 1) rfl ?_); refine box_event ?hg (N := 1) ?hd (cs := #[.int .i64 a0_0, .int .i64 a0_1, .slice A0_2 l0_2.length c0_2]) (t := 48) ?hr ?_; (case hd => rfl); (case hg => rfl); (case hr => first | (go_simp; done) | (go_simp; rfl)); intro gb1119 hg w29 hbox hb; refine ev4 (bs HB hb) (hbox) (gle hg HB) (gle hg HB) ?_; clear HB; intro HB BK1119 GW1119 GE1119; clear hb hbox hg; obtain ⟨hcz30_0, hcz30_1, hcz30_2, hfz30_0, hfz30_1, hfz30_2⟩ := bt3 BK1119) | ((with_reducible refine gate_callee (f := 86) rfl ?_); refine goesL_ (some 11) rfl rfl Try.func86 (by kernel_rfl) rfl #[.agg #[.int .i64 a0_0, .int .i64 a0_1, .slice A0_2 l0_2.length c0_2]] rfl (by (try simp only [ma_, mb_, mc_]); first | done | rfl | (simp only [List.length_drop, List.length_take]; rfl)) ?_; (with_reducible refine (impl_MetCells.calls k a0_0 a0_1 _ _ l0_2 t1120 false _ (Kd.C_mv (Kd.C_below HR0_2.out HB.out)) HC0_2.out A2.out).mono ?_); rintro e w31 ⟨v1121, rfl, ho0, hb⟩; refine ⟨_, rfl, ?_⟩; refine ev3 (Kd.R_lower ho0 (below_size (bm HB))) (kb BK1119 hb) (bs HB hb) ?_; clear BK1119 HB; intro HO1122 BK1119 HB; (try clear hb); (try clear hb2); (try clear hk); (try clear hi); (try clear ho0)))
  go_ret2
  exact ⟨_, by first | rfl | (simp [e0_, e1_] <;> rfl) | (simp [*, e0_, e1_] <;> rfl), by first | exact Kd.R_nil _ _ _ _ _ | exact Kd.N_nil _ _ _ _ _ | exact Kd.V_nil _ _ _ _ _ | exact Kd.Q_nil _ _ _ _ _ | exact Kd.S_nil _ _ _ _ _, bm HB⟩
end Go.Proofs.Ytjogiiobaakjkaa.F
