-- Written by a program of this session (a patched print) out of the translation; Lean checks it.
import Derived.Test.YtjogiiobaakjkaaF0
import Derived.Test.YtjogiiobaakjkaaF2
import Derived.Test.YtjogiiobaakjkaaF6
namespace Go.Proofs.Ytjogiiobaakjkaa.F
open Go.RowKit Go.Proofs.YtjogiiobaakjkaaV.PrintWords Go.Proofs.YtjogiiobaakjkaaV.PrintLast Go.Proofs.YtjogiiobaakjkaaV.PrintMore
attribute [local go_sem] max2_int min2_int max_two min_two max_three min_three max_four min_four
attribute [local go_sem] Try.underlying30 Try.underlying35 Try.underlying44 Try.underlying48 Try.underlying62 Try.underlying66 Try.underlying78 Try.underlying90 Try.underlying112
set_option linter.unusedVariables false
set_option linter.unusedSimpArgs false

/-! ### spec_boOwn: function 88 -/
def spec_boOwn.f (a0_0 : Int) (a0_1 : Int) (l0_2 : List (S78)) : Option (Int × Int × (List (S78))) := (some (([] : List (S78)) : List (S78))).bind fun y537 => (if y537.length + l0_2.length < 8796093022208 then (some (a0_0, a0_1, (y537 ++ l0_2))) else (none))
def spec_boOwn.T1 : Bool × List (List Nat × List Nat) := (true, [([], []), ([0], [0]), ([], []), ([2], [2]), ([], []), ([], []), ([5], [5]), ([4, 6], [4, 6]), ([1, 3, 7], [1, 3, 7]), ([8, 7, 0, 1, 2, 3, 4, 5, 6, 7, 8], [8])])
def spec_boOwn.B1 : List Nat := [0, 1, 0, 4, 0, 0, 32, 112, 255, 511]
theorem spec_boOwn.tab1 : rtab .any (opsOf Try.f88 1) = spec_boOwn.T1 := by kernel_rfl
theorem spec_boOwn.bits1 : waitsOk spec_boOwn.T1.2 spec_boOwn.B1 = true := by kernel_rfl
set_option maxHeartbeats 8000000 in
set_option maxRecDepth 100000 in
theorem spec_boOwn.calls (a0_0 : Int) (a0_1 : Int) (A0_2 : Option Addr) (c0_2 : Nat) (l0_2 : List (S78)) (r1 : Int) (r2 : Int) (r3 : List (S78)) (w : World) (hr0_2 : Kd.C k78 w A0_2 l0_2.length l0_2) (hc0_2 : l0_2.length ≤ c0_2) (h : spec_boOwn.f a0_0 a0_1 l0_2 = some (r1, r2, r3)) :
  Calls Try.prog 88 #[.agg #[.int .i64 a0_0, .int .i64 a0_1, .slice A0_2 l0_2.length c0_2]] w fun e w' => ∃ v2_ : Value, e = .returned (.agg #[.int .i64 r1, .int .i64 r2, v2_]) ∧ Kd.R k78 78 w' w.heap.size (fun _ => True) v2_ r3 ∧ Below w.heap.size w w' := by
 have HR0_2 := Aside0.mk hr0_2
 have HC0_2 := Aside0.mk hc0_2
 clear hr0_2 hc0_2
 have HB := Aside0.mk (Below.refl w.heap.size w)
 have H : ((some (([] : List (S78)) : List (S78))).bind fun y537 => (if y537.length + l0_2.length < 8796093022208 then (some (a0_0, a0_1, (y537 ++ l0_2))) else (none))) = some (r1, r2, r3) := h
 clear h
 obtain ⟨y537, hy537⟩ : ∃ y_ : List (S78), y_ = (([] : List (S78))) := ⟨_, rfl⟩
 replace H : (if y537.length + l0_2.length < 8796093022208 then (some (a0_0, a0_1, (y537 ++ l0_2))) else (none)) = some (r1, r2, r3) := by first | (rw [hy537]; with_reducible exact H) | (have H2_ := (Option.bind_some _ _).symm.trans H; rw [hy537]; with_reducible exact H2_) | (have H2_ := (Option.bind_some _ _).symm.trans H; with_reducible exact H2_) | with_reducible exact H | (rw [hy537]; exact H) | exact H
 have Ny537 := Aside0.mk hy537
 clear hy537
 by_cases c2 : y537.length + l0_2.length < 8796093022208
 ·rw [if_pos c2] at H
  have LMc2 := Aside0.mk c2
  clear c2
  obtain ⟨y540, hy540⟩ : ∃ y_ : List (S78), y_ = (y537 ++ l0_2) := ⟨_, rfl⟩
  replace H : (some (a0_0, a0_1, y540)) = some (r1, r2, r3) := by first | (rw [hy540]; with_reducible exact H) | (have H2_ := (Option.bind_some _ _).symm.trans H; rw [hy540]; with_reducible exact H2_) | (have H2_ := (Option.bind_some _ _).symm.trans H; with_reducible exact H2_) | with_reducible exact H | (rw [hy540]; exact H) | exact H
  have Ny540 := Aside0.mk hy540
  clear hy540
  simp only [Option.some.injEq, Prod.mk.injEq] at H
  obtain ⟨rfl, rfl, rfl⟩ := H
  go_enter Try.func88, Try.ntmps88
  try go_wp2_with (first | ((with_reducible refine gate_dst (N := 1) rfl ?_); refine box_event ?hg (N := 1) ?hd (cs := #[.int .i64 a0_0, .int .i64 a0_1, .slice A0_2 l0_2.length c0_2]) (t := 48) ?hr ?_; (case hd => rfl); (case hg => rfl); (case hr => first | (go_simp; done) | (go_simp; rfl)); intro gb535 hg w3 hbox hb; refine ev4 (bs HB hb) (hbox) (gle hg HB) (gle hg HB) ?_; clear HB; intro HB BK535 GW535 GE535; clear hb hbox hg) | ((with_reducible refine gate_dst (N := 2) rfl ?_); refine box_event ?hg (N := 2) ?hd (cs := #[.int .i64 0, .int .i64 0, .slice none 0 0]) (t := 48) ?hr ?_; (case hd => rfl); (case hg => rfl); (case hr => first | (go_simp; done) | (go_simp; rfl)); intro gb536 hg w4 hbox hb; refine ev7 (kb BK535 hb) (bs HB hb) (hbox) (gle hg HB) (gle hg HB) (gnf hg BK535) (gne hg BK535) ?_; clear BK535 HB; intro BK535 HB BK536 GW536 GE536 NB535_536 NB536_535; clear hb hbox hg))
  refine ev3 (blk_drew BK535.out) (blk_drew BK536.out) (below_drew1 HB.out) ?_
  clear BK535 BK536 HB
  intro BK535 BK536 HB
  refine start_ (n := 10) (S := fun w' => w'.cell? ⟨gb535, 0, none⟩ = some (.int .i64 a0_0) ∧ w'.cell? ⟨gb535, 1, none⟩ = some (.int .i64 a0_1) ∧ w'.cell? ⟨gb535, 2, none⟩ = some (.slice A0_2 l0_2.length c0_2)) (ds := []) #[false, false, false, false, false, false, false, false, false, false] (by kernel_rfl) rfl rfl ⟨(blk_cell BK535.out 0).trans rfl, (blk_cell BK535.out 1).trans rfl, (blk_cell BK535.out 2).trans rfl⟩ (fun hHeld => ?_); refine with_tabW spec_boOwn.tab1 spec_boOwn.bits1 (fun HT_ HW_ => ?_)
  generalize w4.drew = w5 at BK535 BK536 HB hHeld ⊢
  refine pure_ (i := 0) (N := some 3) (v := ?_) (a' := ?_) #[true, false, false, false, false, false, false, false, false, false] rfl rfl (any_of HT_.out (by kernel_rfl)) (fun _ _ _ h => h) (Or.inl ⟨by rfl, ?_⟩) ?_ ?_
  rotate_left
  ·intro w'
   go_simp
   with_reducible rfl
  rotate_left
  ·simp only [Act.put, za_, zb_, zc_, i64_w, i32_w]
   rfl
  refine pure_ (i := 2) (N := some 5) (v := ?_) (a' := ?_) #[true, false, true, false, false, false, false, false, false, false] rfl rfl (any_of HT_.out (by kernel_rfl)) (fun _ _ _ h => h) (Or.inl ⟨by rfl, ?_⟩) ?_ ?_
  rotate_left
  ·intro w'
   go_simp
   with_reducible rfl
  rotate_left
  ·simp only [Act.put, za_, zb_, zc_, i64_w, i32_w]
   rfl
  refine pure_ (i := 5) (N := some 8) (v := ?_) (a' := ?_) #[true, false, true, false, false, true, false, false, false, false] rfl rfl (any_of HT_.out (by kernel_rfl)) (fun _ _ _ h => h) (Or.inl ⟨by rfl, ?_⟩) ?_ ?_
  rotate_left
  ·intro w'
   go_simp
   with_reducible rfl
  rotate_left
  ·simp only [Act.put, za_, zb_, zc_, i64_w, i32_w]
   rfl
  refine take_ (i := 1) (N := some 4) (v := ?_) (a' := ?_) #[true, true, true, false, false, true, false, false, false, false] rfl rfl (take_ofW HT_.out HW_.out (by kernel_rfl)) (fun _ _ _ h => h) (Or.inl ⟨by rfl, ?_⟩) hHeld ?_ ?_
  rotate_left
  ·rintro w' ⟨s0, s1, s2⟩
   go_simp
   with_reducible rfl
  rotate_left
  ·simp only [Act.put, za_, zb_, zc_, i64_w, i32_w]
   rfl
  refine take_ (i := 3) (N := some 6) (v := ?_) (a' := ?_) #[true, true, true, true, false, true, false, false, false, false] rfl rfl (take_ofW HT_.out HW_.out (by kernel_rfl)) (fun _ _ _ h => h) (Or.inl ⟨by rfl, ?_⟩) hHeld ?_ ?_
  rotate_left
  ·rintro w' ⟨s0, s1, s2⟩
   go_simp
   with_reducible rfl
  rotate_left
  ·simp only [Act.put, za_, zb_, zc_, i64_w, i32_w]
   rfl
  refine take_ (i := 6) (N := some 9) (v := ?_) (a' := ?_) #[true, true, true, true, false, true, true, false, false, false] rfl rfl (take_ofW HT_.out HW_.out (by kernel_rfl)) (fun _ _ _ h => h) (Or.inl ⟨by rfl, ?_⟩) hHeld ?_ ?_
  rotate_left
  ·rintro w' ⟨s0, s1, s2⟩
   go_simp
   with_reducible rfl
  rotate_left
  ·simp only [Act.put, za_, zb_, zc_, i64_w, i32_w]
   rfl
  refine one_ (i := 4) (N := some 7) #[true, true, true, true, true, true, true, false, false, false] rfl rfl (one_of HT_.out (by kernel_rfl)) (by decide) (fun K hK => ?_)
  refine Kd.R_lit_step k78 _ 78 ?hg (N := 7) ?hd (xs := ([] : List (S78))) (inner := []) (ok := fun _ => True) (okp := fun _ => True) ?hr ?hp (fun _ hk => hk) trivial (Below.refl _ _) (Nat.le_refl _) (by simp) ?_; (case hd => rfl); (case hg => rfl); (case hr => first | (go_simp; done) | (go_simp; rfl)); (case hp => exact (Reps.none _ _))
  intro v538 w6 ho7 hb hg_ hnew_
  clear hg_ hnew_
  (first | rw [← Ny537.out] at ho7 | (simp only [Int.reduceToNat] at ho7; rw [← Ny537.out] at ho7))
  refine ev4 (Kd.R_lower ho7 (below_size (bm HB))) (kb BK535 hb) (kb BK536 hb) (bs HB hb) ?_
  clear BK535 BK536 HB
  intro HO539 BK535 BK536 HB
  clear hb ho7
  refine hK.out _ _ ⟨(blk_cell BK535.out 0).trans rfl, (blk_cell BK535.out 1).trans rfl, (blk_cell BK535.out 2).trans rfl⟩ (fun hHeld => ?_)
  clear hK K
  refine norm_ (a' := ?_) ?_ ?_
  rotate_left
  ·show Act.put _ (some 7) _ = _
   simp only [Act.put, za_, zb_, zc_, i64_w, i32_w]
   rfl
  refine one_ (i := 7) (N := some 10) #[true, true, true, true, true, true, true, true, false, false] rfl rfl (one_of HT_.out (by kernel_rfl)) (by decide) (fun K hK => ?_)
  refine Kd.R_append_rows_step k78 (w0 := w) w.heap.size (by rfl) (.tmp 7) (.tmp 9) 33 78 (.agg #[(.int .i64 0), (.int .i64 0)]) 16 rfl Try.underlying33 info78 rfl (by decide) (by omega) v538 y537 l0_2 _ _ _ (fun _ => True) (fun _ => False) rfl rfl ?aO ?aR (fun _ _ h => h) (fun _ h => h.elim) ?aF ?aB ?aS ?aL ?_
  (case aR => exact Kd.C_mv (Kd.C_below HR0_2.out HB.out))
  (case aB => exact (bm HB))
  (case aF => exact (fun _ _ => trivial))
  (case aO => exact (Kd.R_mv HO539.out))
  (case aS => exact (below_size (bm HB)))
  (case aL => have := LMc2.out; omega)
  intro v541 w8 ho hb hg hat
  rw [← Ny540.out] at ho
  refine ev4 (blk_grown (km_ BK535) hg (Kd.R_ne HO539.out BK535.out (by decide))) (blk_grown (km_ BK536) hg (Kd.R_ne HO539.out BK536.out (by decide))) (hb) (ho) ?_
  clear BK535 BK536 HB HO539
  intro BK535 BK536 HB HO542
  clear ho hb hg hat
  obtain ⟨Ao9, co9, eo9⟩ := Kd.R_slice HO542.out
  (first | subst eo9 | (injection eo9 with f1_ f2_ f3_; have f4_ := f1_.symm; have f5_ := f3_.symm; clear f1_ f2_ f3_; subst f4_; subst f5_))
  refine hK.out _ _ ⟨(blk_cell BK535.out 0).trans rfl, (blk_cell BK535.out 1).trans rfl, (blk_cell BK535.out 2).trans rfl⟩ (fun hHeld => ?_)
  clear hK K
  refine norm_ (a' := ?_) ?_ ?_
  rotate_left
  ·show Act.put _ (some 10) _ = _
   simp only [Act.put, za_, zb_, zc_, i64_w, i32_w]
   rfl
  refine pure_ (i := 8) (N := some 11) (v := ?_) (a' := ?_) #[true, true, true, true, true, true, true, true, true, false] rfl rfl (any_of HT_.out (by kernel_rfl)) (fun _ _ _ h => h) (Or.inl ⟨by rfl, ?_⟩) ?_ ?_
  rotate_left
  ·intro w'
   go_simp
   with_reducible rfl
  rotate_left
  ·simp only [Act.put, za_, zb_, zc_, i64_w, i32_w]
   rfl
  refine one_ (i := 9) (N := none) #[true, true, true, true, true, true, true, true, true, true] rfl rfl (one_of HT_.out (by kernel_rfl)) (by decide) (fun K hK => ?_)
  have hs10 : w8.cell? ⟨gb536, 0, none⟩ = some (.int .i64 0) := (blk_cell BK536.out 0).trans rfl
  have hfs10 := blk_frozen BK536.out 0
  have hns10_0 := NB535_536.out
  have hms10_0 := NB536_535.out
  have hs11 : w8.cell? ⟨gb536, 1, none⟩ = some (.int .i64 0) := (blk_cell BK536.out 1).trans rfl
  have hfs11 := blk_frozen BK536.out 1
  have hns11_0 := NB535_536.out
  have hms11_0 := NB536_535.out
  have hs12 : w8.cell? ⟨gb536, 2, none⟩ = some (.slice none 0 0) := (blk_cell BK536.out 2).trans rfl
  have hfs12 := blk_frozen BK536.out 2
  have hns12_0 := NB535_536.out
  have hms12_0 := NB536_535.out
  refine skip_ (w1 := ?_) (by rfl) rfl ?_ ?_
  rotate_left
  ·go_simp
   rfl
  refine hK.out _ _ ⟨((cell_far (p := ⟨gb536, _, none⟩) NB535_536.out _).trans (((cell_far (p := ⟨gb536, _, none⟩) NB535_536.out _).trans (((cell_far (p := ⟨gb536, _, none⟩) NB535_536.out _).trans (hHeld.1)))))), ((cell_far (p := ⟨gb536, _, none⟩) NB535_536.out _).trans (((cell_far (p := ⟨gb536, _, none⟩) NB535_536.out _).trans (((cell_far (p := ⟨gb536, _, none⟩) NB535_536.out _).trans (hHeld.2.1)))))), ((cell_far (p := ⟨gb536, _, none⟩) NB535_536.out _).trans (((cell_far (p := ⟨gb536, _, none⟩) NB535_536.out _).trans (((cell_far (p := ⟨gb536, _, none⟩) NB535_536.out _).trans (hHeld.2.2))))))⟩ (fun hHeld => ?_)
  clear hK K
  refine done_ (done_of HT_.out (by kernel_rfl)) ?_
  try go_wp2
  refine bodyPost_ret (results_cell_row rfl _ _ gb536 48 #[.int .i64 a0_0, .int .i64 a0_1, .slice Ao9 y540.length co9] (0, 0) _ rfl (fp BK536 rfl) Try.underlying48 rfl (by kernel_rfl)) rfl ?_
  exact ⟨_, by first | rfl | (simp [e0_, e1_] <;> rfl) | (simp [*, e0_, e1_] <;> rfl), Kd.R_mv (Kd.R_mono (ok' := fun k_ => True) (Kd.R_far (p := ⟨gb536, 2, none⟩) (Kd.R_far (p := ⟨gb536, 1, none⟩) (Kd.R_far (p := ⟨gb536, 0, none⟩) (Kd.R_types HO542.out BK536.out (by decide)) (fun _ hk => hk.2) (.int .i64 a0_0)) (fun _ hk => hk.2) (.int .i64 a0_1)) (fun _ hk => hk.2) (.slice Ao9 y540.length co9)) (fun _ hk => trivial)), bm HB⟩
 ·rw [if_neg c2] at H
  exact absurd H (by simp)

/-! ### spec_boAt: function 128 -/
def spec_boAt.f (a0_0 : Int) (a0_1 : Int) (l0_2 : List (S78)) (a1 : Int) (a2 : Int) : Option (Int × Int) := if 0 ≤ (wrap64 ((wrap64 (a1 * a0_1)) + a2)) then (if (wrap64 ((wrap64 (a1 * a0_1)) + a2)) < (l0_2.length : Int) then (some ((rd_T78 l0_2 (wrap64 ((wrap64 (a1 * a0_1)) + a2))).f0, (rd_T78 l0_2 (wrap64 ((wrap64 (a1 * a0_1)) + a2))).f1)) else (none)) else (none)
set_option maxHeartbeats 8000000 in
set_option maxRecDepth 100000 in
theorem spec_boAt.calls (a0_0 : Int) (a0_1 : Int) (A0_2 : Option Addr) (c0_2 : Nat) (l0_2 : List (S78)) (a1 : Int) (a2 : Int) (r1 : Int) (r2 : Int) (w : World) (hr0_2 : Kd.C k78 w A0_2 l0_2.length l0_2) (hc0_2 : l0_2.length ≤ c0_2) (h : spec_boAt.f a0_0 a0_1 l0_2 a1 a2 = some (r1, r2)) :
  Calls Try.prog 128 #[.agg #[.int .i64 a0_0, .int .i64 a0_1, .slice A0_2 l0_2.length c0_2], .int .i64 a1, .int .i64 a2] w fun e w' => e = .returned (.agg #[.int .i64 r1, .int .i64 r2]) ∧ Below w.heap.size w w' := by
 have HR0_2 := Aside0.mk hr0_2
 have HC0_2 := Aside0.mk hc0_2
 clear hr0_2 hc0_2
 have HB := Aside0.mk (Below.refl w.heap.size w)
 have H : (if 0 ≤ (wrap64 ((wrap64 (a1 * a0_1)) + a2)) then (if (wrap64 ((wrap64 (a1 * a0_1)) + a2)) < (l0_2.length : Int) then (some ((rd_T78 l0_2 (wrap64 ((wrap64 (a1 * a0_1)) + a2))).f0, (rd_T78 l0_2 (wrap64 ((wrap64 (a1 * a0_1)) + a2))).f1)) else (none)) else (none)) = some (r1, r2) := h
 clear h
 obtain ⟨ji4, hji4⟩ : ∃ j_ : Int, (wrap64 ((wrap64 (a1 * a0_1)) + a2)) = j_ := ⟨_, rfl⟩
 replace H : (if 0 ≤ (ji4) then (if (ji4) < (l0_2.length : Int) then (some ((rd_T78 l0_2 (ji4)).f0, (rd_T78 l0_2 (ji4)).f1)) else (none)) else (none)) = some (r1, r2) := by first | (rw [hji4] at H; exact H) | (simp only [hji4] at H ⊢; exact H)
 have hji4w : (IntKind.i64.wrap ((wrap64 (a1 * a0_1)) + a2)) = ji4 := (i64_w _).trans hji4
 by_cases c5 : 0 ≤ (ji4)
 ·rw [if_pos c5] at H
  have c5b0 : decide (0 ≤ (ji4)) = true := decide_eq_true c5
  clear c5
  by_cases c6 : (ji4) < (l0_2.length : Int)
  ·rw [if_pos c6] at H
   have c6b0 : decide ((ji4) < (l0_2.length : Int)) = true := decide_eq_true c6
   clear c6
   simp only [Option.some.injEq, Prod.mk.injEq] at H
   obtain ⟨rfl, rfl⟩ := H
   go_enter Try.func128, Try.ntmps128
   go_wp2_with (first | ((with_reducible refine gate_dst (N := 3) rfl ?_); refine box_event ?hg (N := 3) ?hd (cs := #[.int .i64 a0_0, .int .i64 a0_1, .slice A0_2 l0_2.length c0_2]) (t := 48) ?hr ?_; (case hd => rfl); (case hg => rfl); (case hr => first | (go_simp; done) | (go_simp; rfl)); intro gb543 hg w7 hbox hb; refine ev4 (bs HB hb) (hbox) (gle hg HB) (gle hg HB) ?_; clear HB; intro HB BK543 GW543 GE543; clear hb hbox hg) | ((with_reducible refine gate_dst (N := 6) rfl ?_); refine box_event ?hg (N := 6) ?hd (cs := #[.int .i64 0, .int .i64 0]) (t := 78) ?hr ?_; (case hd => rfl); (case hg => rfl); (case hr => first | (go_simp; done) | (go_simp; rfl)); intro gb544 hg w8 hbox hb; refine ev7 (kb BK543 hb) (bs HB hb) (hbox) (gle hg HB) (gle hg HB) (gnf hg BK543) (gne hg BK543) ?_; clear BK543 HB; intro BK543 HB BK544 GW544 GE544 NB543_544 NB544_543; clear hb hbox hg; have hnb9 := NB543_544.out; have hnc9 := NB544_543.out; obtain ⟨hcz10_0, hcz10_1, hcz10_2, hfz10_0, hfz10_1, hfz10_2⟩ := bt3 BK543; have p545 : 0 ≤ ((ji4) : Int) := of_decide_eq_true (by first | (with_reducible assumption) | assumption); have q545 : (ji4) < (l0_2.length : Int) := of_decide_eq_true (by first | (with_reducible assumption) | assumption); obtain ⟨ad545, e545, hx545_0, hx545_1⟩ := at_T78 HR0_2.out (ji4) p545 q545; cases e545; replace hx545_0 := (HB.out.cell (World.block_lt_of_cell? w _ hx545_0)).trans hx545_0; replace hx545_1 := (HB.out.cell (World.block_lt_of_cell? w _ hx545_1)).trans hx545_1; replace p545 := eq_true p545; replace q545 := eq_true q545; obtain ⟨hcz11_0, hcz11_1, hfz11_0, hfz11_1⟩ := bt2 BK544))
   refine bodyPost_ret (results_cell_row rfl _ _ gb544 78 #[.int .i64 ((rd_T78 l0_2 (ji4)).f0), .int .i64 ((rd_T78 l0_2 (ji4)).f1)] (0, 0) _ rfl (fp BK544 rfl) Try.underlying78 rfl (by kernel_rfl)) rfl ?_
   exact ⟨by first | rfl | (simp [e0_, e1_] <;> rfl) | (simp only [← hji4]; first | rfl | (simp [e0_, e1_] <;> rfl)) | (simp [*, e0_, e1_] <;> rfl), bm HB⟩
  ·rw [if_neg c6] at H
   exact absurd H (by simp)
 ·rw [if_neg c5] at H
  exact absurd H (by simp)

/-! ### spec_paGoes: function 129 -/
def spec_paGoes.j0 : Nat → Int → Int → Bool → Int → Int → Option (Int)
 | 0, _, _, _, _, _ => none
 | k + 1, x1, x6, x11, x547000, x547001 => if x11 = true then (some (wrap64 ((wrap64 (2 * x547001)) - 1))) else (if x6 = 4 then (some (wrap64 (-x1))) else (some 0))
def spec_paGoes.f (k : Nat) (a0_0 : Int) (a0_1 : Int) (a1 : Int) : Option (Int) := if a0_0 = 1 then (some (-1)) else (if a0_0 = 2 then (some 1) else (if a0_0 = 3 then (spec_paGoes.j0 k a1 a0_0 (a0_0 == 3) a0_0 a0_1) else (spec_paGoes.j0 k a1 a0_0 (a0_0 == 6) a0_0 a0_1)))
set_option maxHeartbeats 8000000 in
set_option maxRecDepth 100000 in
theorem spec_paGoes.calls (k : Nat) (a0_0 : Int) (a0_1 : Int) (a1 : Int) (r : Int) (w : World) (h : spec_paGoes.f k a0_0 a0_1 a1 = some r) :
  Calls Try.prog 129 #[.agg #[.int .i64 a0_0, .int .i64 a0_1], .int .i64 a1] w fun e w' => e = .returned (.int .i64 r) ∧ Below w.heap.size w w' := by
 have HB := Aside0.mk (Below.refl w.heap.size w)
 have H : (if a0_0 = 1 then (some (-1)) else (if a0_0 = 2 then (some 1) else (if a0_0 = 3 then (spec_paGoes.j0 k a1 a0_0 (a0_0 == 3) a0_0 a0_1) else (spec_paGoes.j0 k a1 a0_0 (a0_0 == 6) a0_0 a0_1)))) = some r := h
 clear h
 by_cases c3 : a0_0 = 1
 ·rw [if_pos c3] at H
  have c3b0 : (a0_0 == 1) = true := beq_iff_eq.mpr c3
  have c3b1 : (a0_0 != 1) = false := bne_eq_false_iff_eq.mpr c3
  clear c3
  obtain rfl := Option.some.inj H
  go_enter Try.func129, Try.ntmps129
  go_wp2_with (first | ((with_reducible refine gate_dst (N := 2) rfl ?_); refine box_event ?hg (N := 2) ?hd (cs := #[.int .i64 a0_0, .int .i64 a0_1]) (t := 78) ?hr ?_; (case hd => rfl); (case hg => rfl); (case hr => first | (go_simp; done) | (go_simp; rfl)); intro gb546 hg w4 hbox hb; refine ev4 (bs HB hb) (hbox) (gle hg HB) (gle hg HB) ?_; clear HB; intro HB BK546 GW546 GE546; clear hb hbox hg; obtain ⟨hcz5_0, hcz5_1, hfz5_0, hfz5_1⟩ := bt2 BK546))
  go_ret
  exact ⟨by first | rfl | (simp [e0_, e1_] <;> rfl) | (simp [*, e0_, e1_] <;> rfl), bm HB⟩
 ·rw [if_neg c3] at H
  have c3b0 : (a0_0 == 1) = false := beq_eq_false_iff_ne.mpr c3
  have c3b1 : (a0_0 != 1) = true := bne_iff_ne.mpr c3
  by_cases c6 : a0_0 = 2
  ·rw [if_pos c6] at H
   have c6b0 : (a0_0 == 2) = true := beq_iff_eq.mpr c6
   have c6b1 : (a0_0 != 2) = false := bne_eq_false_iff_eq.mpr c6
   clear c6
   obtain rfl := Option.some.inj H
   go_enter Try.func129, Try.ntmps129
   go_wp2_with (first | ((with_reducible refine gate_dst (N := 2) rfl ?_); refine box_event ?hg (N := 2) ?hd (cs := #[.int .i64 a0_0, .int .i64 a0_1]) (t := 78) ?hr ?_; (case hd => rfl); (case hg => rfl); (case hr => first | (go_simp; done) | (go_simp; rfl)); intro gb546 hg w7 hbox hb; refine ev4 (bs HB hb) (hbox) (gle hg HB) (gle hg HB) ?_; clear HB; intro HB BK546 GW546 GE546; clear hb hbox hg; obtain ⟨hcz8_0, hcz8_1, hfz8_0, hfz8_1⟩ := bt2 BK546))
   go_ret
   exact ⟨by first | rfl | (simp [e0_, e1_] <;> rfl) | (simp [*, e0_, e1_] <;> rfl), bm HB⟩
  ·rw [if_neg c6] at H
   have c6b0 : (a0_0 == 2) = false := beq_eq_false_iff_ne.mpr c6
   have c6b1 : (a0_0 != 2) = true := bne_iff_ne.mpr c6
   have HC9 := Aside0.mk H
   clear H
   go_enter Try.func129, Try.ntmps129
   go_upto_if 11 with (first | ((with_reducible refine gate_dst (N := 2) rfl ?_); refine box_event ?hg (N := 2) ?hd (cs := #[.int .i64 a0_0, .int .i64 a0_1]) (t := 78) ?hr ?_; (case hd => rfl); (case hg => rfl); (case hr => first | (go_simp; done) | (go_simp; rfl)); intro gb546 hg w10 hbox hb; refine ev4 (bs HB hb) (hbox) (gle hg HB) (gle hg HB) ?_; clear HB; intro HB BK546 GW546 GE546; clear hb hbox hg; obtain ⟨hcz11_0, hcz11_1, hfz11_0, hfz11_1⟩ := bt2 BK546))
   (try simp only [Act.put, za_, zb_, zc_])
   go_cut [11] (fun v11 wc => ∃ (kq : Nat) (x11_8 : Bool), v11 = .bool x11_8 ∧ Aside0 (spec_paGoes.j0 kq a1 a0_0 x11_8 a0_0 a0_1 = some r) ∧ Aside0 (kq ≤ k) ∧ Aside0 (wc.heap[gb546]? = some (.cells #[.int .i64 a0_0, .int .i64 a0_1] 78 (0, 0))) ∧ Aside0 (Below w.heap.size w wc))
   case first =>
    have H := HC9.out
    clear HC9
    by_cases c12 : a0_0 = 3
    ·rw [if_pos c12] at H
     have c12b0 : (a0_0 == 3) = true := beq_iff_eq.mpr c12
     have c12b1 : (a0_0 != 3) = false := bne_eq_false_iff_eq.mpr c12
     clear c12
     (first | rw [c12b0] | (simp only [i64_w, i32_w]; rw [c12b0]) | skip)
     have H' := Aside0.mk H
     clear H
     go_wp2
     go_meet
     case rel => exact ⟨_, ((a0_0 == 3)), (by first | rfl | (simp; done) | (simp [*]; done)), H', ⟨by first | omega | exact Nat.le_refl _⟩, ⟨km_ BK546⟩, ⟨bm HB⟩⟩
    ·rw [if_neg c12] at H
     have c12b0 : (a0_0 == 3) = false := beq_eq_false_iff_ne.mpr c12
     have c12b1 : (a0_0 != 3) = true := bne_iff_ne.mpr c12
     (first | rw [c12b0] | (simp only [i64_w, i32_w]; rw [c12b0]) | skip)
     have H' := Aside0.mk H
     clear H
     go_wp2
     go_meet
     case rel => exact ⟨_, ((a0_0 == 6)), (by first | rfl | (simp; done) | (simp [*]; done)), H', ⟨by first | omega | exact Nat.le_refl _⟩, ⟨km_ BK546⟩, ⟨bm HB⟩⟩
   case rest =>
    clear HC9
    try clear c1
    try clear c3
    try clear c3b0
    try clear c3b1
    try clear c6
    try clear c6b0
    try clear c6b1
    try clear c12
    try clear hcz11_0
    try clear hcz11_1
    try clear hfz11_0
    try clear hfz11_1
    obtain ⟨kq, x11_8, rfl, HA, HJ8, BK546, HB⟩ := hcut
    cases kq with
    | zero => exact absurd HA.out (by simp [spec_paGoes.j0])
    | succ kj8 =>
     have H := HA.out
     clear HA
     simp only [spec_paGoes.j0] at H
     by_cases c13 : x11_8 = true
     ·subst c13
      have H1 : (some (wrap64 ((wrap64 (2 * a0_1)) - 1))) = some r := by rw [if_pos rfl] at H; exact H
      clear H
      have H := H1
      clear H1
      obtain rfl := Option.some.inj H
      obtain ⟨hcz14_0, hcz14_1, hfz14_0, hfz14_1⟩ := bt2 BK546
      go_wp2
      go_ret
      exact ⟨by first | rfl | (simp [e0_, e1_] <;> rfl) | (simp [*, e0_, e1_] <;> rfl), bm HB⟩
     ·replace c13 := Bool.eq_false_iff.mpr c13
      subst c13
      have H1 : (if a0_0 = 4 then (some (wrap64 (-a1))) else (some 0)) = some r := by rw [if_neg (show ¬ (false = true) by decide)] at H; exact H
      clear H
      have H := H1
      clear H1
      by_cases c15 : a0_0 = 4
      ·rw [if_pos c15] at H
       have c15b0 : (a0_0 == 4) = true := beq_iff_eq.mpr c15
       have c15b1 : (a0_0 != 4) = false := bne_eq_false_iff_eq.mpr c15
       clear c15
       obtain rfl := Option.some.inj H
       go_wp2
       go_ret
       exact ⟨by first | rfl | (simp [e0_, e1_] <;> rfl) | (simp [*, e0_, e1_] <;> rfl), bm HB⟩
      ·rw [if_neg c15] at H
       have c15b0 : (a0_0 == 4) = false := beq_eq_false_iff_ne.mpr c15
       have c15b1 : (a0_0 != 4) = true := bne_iff_ne.mpr c15
       obtain rfl := Option.some.inj H
       go_wp2
       go_ret
       exact ⟨by first | rfl | (simp [e0_, e1_] <;> rfl) | (simp [*, e0_, e1_] <;> rfl), bm HB⟩

/-! ### spec_flPass: function 130 -/
def spec_flPass.l0 : Nat → List Int → Int → Int → Int → Int → Int → List (S78) → Option ((List (S78)))
 | 0, _, _, _, _, _, _, _ => none
 | k + 1, x1, x2, x28, x29, x548000, x548001, x548002 => if x29 < x28 then (if 0 ≤ x29 then (if x29 < (x548002.length : Int) then (if ((rd_T78 x548002 x29).f0) = 6 then (if x29 < (x1.length : Int) then (if 0 ≤ x2 then (if x2 < (x1.length : Int) then (if (rd x1 x29) = (rd x1 x2) then ((spec_paTurn.f ((rd_T78 x548002 x29).f0) ((rd_T78 x548002 x29).f1)).bind fun bt557 => (spec_flPass.l0 k x1 x2 x28 (wrap64 (x29 + 1)) x548000 x548001 (x548002.set (x29 : Int).toNat (⟨bt557.1, bt557.2⟩ : S78)))) else (spec_flPass.l0 k x1 x2 x28 (wrap64 (x29 + 1)) x548000 x548001 x548002)) else (none)) else (none)) else (none)) else (spec_flPass.l0 k x1 x2 x28 (wrap64 (x29 + 1)) x548000 x548001 x548002)) else (none)) else (none)) else (some x548002)
def spec_flPass.f (k : Nat) (a0_0 : Int) (a0_1 : Int) (l0_2 : List (S78)) (l1 : List Int) (a2 : Int) : Option ((List (S78))) := if 0 ≤ a2 then (if a2 < (l0_2.length : Int) then (if ((rd_T78 l0_2 a2).f0) = 3 then ((spec_paTurn.f ((rd_T78 l0_2 a2).f0) ((rd_T78 l0_2 a2).f1)).bind fun bt550 => (some (l0_2.set (a2 : Int).toNat (⟨bt550.1, bt550.2⟩ : S78)))) else (if ((rd_T78 l0_2 a2).f0) = 6 then (spec_flPass.l0 k l1 a2 (l0_2.length : Int) 0 a0_0 a0_1 l0_2) else (some l0_2))) else (none)) else (none)
def spec_flPass.T9 : Bool × List (List Nat × List Nat) := (true, [([], []), ([0], [0]), ([1], [1]), ([2], [2]), ([3], [3]), ([3], [3]), ([4, 5, 3], [3, 4, 5]), ([6, 3], [3, 6]), ([3], [3]), ([3], [3]), ([8, 9, 3], [3, 8, 9]), ([10, 3], [3, 10]), ([7, 11, 3], [3, 7, 11]), ([3, 12], [3, 12])])
def spec_flPass.B9 : List Nat := [0, 1, 3, 7, 15, 15, 63, 127, 15, 15, 783, 1807, 4095, 8191]
theorem spec_flPass.tab9 : rtab .any (opsOf Try.f130 9) = spec_flPass.T9 := by kernel_rfl
theorem spec_flPass.bits9 : waitsOk spec_flPass.T9.2 spec_flPass.B9 = true := by kernel_rfl
set_option maxHeartbeats 8000000 in
set_option maxRecDepth 100000 in
theorem spec_flPass.calls (k : Nat) (a0_0 : Int) (a0_1 : Int) (P0_2_ : Nat → Prop) (u9000_ : Value) (l0_2 : List (S78)) (A1 : Option Addr) (c1 : Nat) (l1 : List Int) (a2 : Int) (r : List (S78)) (w0 w : World) (hB : Below w0.heap.size w0 w) (ho0_2 : Kd.R k78 78 w w0.heap.size P0_2_ u9000_ l0_2) (hr1 : ∀ W_, Kept w W_ (fun k_ => P0_2_ k_) → Kd.C (Kd.int .i64) W_ A1 l1.length l1) (hc1 : l1.length ≤ c1) (h : spec_flPass.f k a0_0 a0_1 l0_2 l1 a2 = some r) :
  Calls Try.prog 130 #[.agg #[.int .i64 a0_0, .int .i64 a0_1, u9000_], .slice A1 l1.length c1, .int .i64 a2] w fun e w' => e = .returned (.tuple #[]) ∧ Kd.R k78 78 w' w0.heap.size (fun k_ => (P0_2_ k_ ∨ w.heap.size ≤ k_)) u9000_ r ∧ Below w0.heap.size w0 w' ∧ Kept w w' (fun k_ => P0_2_ k_) := by
 have HO0_2 := Aside0.mk (show Kd.R k78 78 w w0.heap.size (fun k_ => (P0_2_ k_ ∨ w.heap.size ≤ k_)) u9000_ l0_2 from Kd.R_mono ho0_2 (fun k_ hk => (.inl hk)))
 have HR1 := Aside0.mk hr1
 have HC1 := Aside0.mk hc1
 clear hr1 hc1
 have HK := Aside0.mk (Kept.refl w (fun k_ => P0_2_ k_))
 have HW0 := Aside0.mk hB.size
 have HB := Aside0.mk hB
 clear hB
 have H : (if 0 ≤ a2 then (if a2 < (l0_2.length : Int) then (if ((rd_T78 l0_2 a2).f0) = 3 then ((spec_paTurn.f ((rd_T78 l0_2 a2).f0) ((rd_T78 l0_2 a2).f1)).bind fun bt550 => (some (l0_2.set (a2 : Int).toNat (⟨bt550.1, bt550.2⟩ : S78)))) else (if ((rd_T78 l0_2 a2).f0) = 6 then (spec_flPass.l0 k l1 a2 (l0_2.length : Int) 0 a0_0 a0_1 l0_2) else (some l0_2))) else (none)) else (none)) = some r := h
 clear h
 by_cases c4 : 0 ≤ a2
 ·rw [if_pos c4] at H
  have c4b0 : decide (0 ≤ a2) = true := decide_eq_true c4
  clear c4
  by_cases c5 : a2 < (l0_2.length : Int)
  ·rw [if_pos c5] at H
   have c5b0 : decide (a2 < (l0_2.length : Int)) = true := decide_eq_true c5
   clear c5
   by_cases c6 : ((rd_T78 l0_2 a2).f0) = 3
   ·rw [if_pos c6] at H
    have c6b0 : (((rd_T78 l0_2 a2).f0) == 3) = true := beq_iff_eq.mpr c6
    have c6b1 : (((rd_T78 l0_2 a2).f0) != 3) = false := bne_eq_false_iff_eq.mpr c6
    clear c6
    replace H := Option.bind_eq_some_iff.mp H
    obtain ⟨⟨t550, t551⟩, A70, H⟩ := H
    replace H : (some (l0_2.set (a2 : Int).toNat (⟨t550, t551⟩ : S78))) = some r := H
    have A7 := Aside0.mk A70
    clear A70
    obtain ⟨y552, hy552⟩ : ∃ y_ : List (S78), y_ = (l0_2.set (a2 : Int).toNat (⟨t550, t551⟩ : S78)) := ⟨_, rfl⟩
    replace H : (some y552) = some r := by first | (rw [hy552]; with_reducible exact H) | (have H2_ := (Option.bind_some _ _).symm.trans H; rw [hy552]; with_reducible exact H2_) | (have H2_ := (Option.bind_some _ _).symm.trans H; with_reducible exact H2_) | with_reducible exact H | (rw [hy552]; exact H) | exact H
    have Ny552 := Aside0.mk hy552
    clear hy552
    obtain rfl := Option.some.inj H
    obtain ⟨Ao9, co9, eo9⟩ := Kd.R_slice HO0_2.out
    subst eo9
    go_enter Try.func130, Try.ntmps130
    try go_wp2_with (first | ((with_reducible refine gate_dst (N := 3) rfl ?_); refine box_event ?hg (N := 3) ?hd (cs := #[.int .i64 a0_0, .int .i64 a0_1, .slice Ao9 l0_2.length co9]) (t := 48) ?hr ?_; (case hd => rfl); (case hg => rfl); (case hr => first | (go_simp; done) | (go_simp; rfl)); intro gb547 hg w10 hbox hb; refine ev6 (Kd.R_below (Kd.R_mv HO0_2.out) hb) (Kept.below (S := (fun k_ => P0_2_ k_)) (km HK) hb) (bs HB hb) (hbox) ((by rw [hg]; exact (by first | exact HK.out.1 | exact (show Kept w _ (fun k_ => P0_2_ k_) from km HK).1) : w.heap.size ≤ gb547)) (gle hg HB) ?_; clear HO0_2 HK HB; intro HO0_2 HK HB BK547 GW547 GE547; clear hb hbox hg; obtain ⟨hcz11_0, hcz11_1, hcz11_2, hfz11_0, hfz11_1, hfz11_2⟩ := bt3 BK547; have p548 : 0 ≤ (a2 : Int) := of_decide_eq_true (by first | (with_reducible assumption) | assumption); have q548 : a2 < (l0_2.length : Int) := of_decide_eq_true (by first | (with_reducible assumption) | assumption); obtain ⟨ad548, e548, hx548_0, hx548_1⟩ := at_T78 (Kd.R_reads' HO0_2.out).2.2 a2 p548 q548; cases e548; replace p548 := eq_true p548; replace q548 := eq_true q548) | ((with_reducible refine gate_dst (N := 6) rfl ?_); refine box_event ?hg (N := 6) ?hd (cs := #[.int .i64 0, .int .i64 0]) (t := 78) ?hr ?_; (case hd => rfl); (case hg => rfl); (case hr => first | (go_simp; done) | (go_simp; rfl)); intro gb549 hg w12 hbox hb; refine ev9 (Kd.R_below (Kd.R_elderB (Kd.R_mv HO0_2.out) gb549 (Nat.le_of_eq hg.symm)) hb) (kb BK547 hb) (Kept.below (S := (fun k_ => P0_2_ k_)) (km HK) hb) (bs HB hb) (hbox) ((by rw [hg]; exact (by first | exact HK.out.1 | exact (show Kept w _ (fun k_ => P0_2_ k_) from km HK).1) : w.heap.size ≤ gb549)) (gle hg HB) (gnf hg BK547) (gne hg BK547) ?_; clear HO0_2 BK547 HK HB; intro HO0_2 BK547 HK HB BK549 GW549 GE549 NB547_549 NB549_547; clear hb hbox hg; have hnb13 := NB549_547.out; have hnc13 := NB547_549.out; obtain ⟨hcz14_0, hcz14_1, hfz14_0, hfz14_1⟩ := bt2 BK549))
    have n0_ : Aside0 (Kd.R k78 78 ((w12.setCell ⟨gb549, 0, none⟩ (.int .i64 ((rd_T78 l0_2 a2).f0))).setCell ⟨gb549, 1, none⟩ (.int .i64 ((rd_T78 l0_2 a2).f1))) w0.heap.size (fun k_ => (P0_2_ k_ ∨ w.heap.size ≤ k_) ∧ k_ ≠ gb549) (.slice (some ad548) l0_2.length co9) l0_2) := ⟨Kd.R_mv (Kd.R_mono (ok' := fun k_ => (((P0_2_ k_ ∨ w.heap.size ≤ k_)) ∧ k_ ≠ gb549)) (Kd.R_far (p := ⟨gb549, 1, none⟩) (Kd.R_far (p := ⟨gb549, 0, none⟩) (Kd.R_mono HO0_2.out (fun k_ hk => (⟨hk, hk.2⟩ : _ ∧ k_ ≠ gb549))) (fun _ hk => hk.2) (.int .i64 ((rd_T78 l0_2 a2).f0))) (fun _ hk => hk.2) (.int .i64 ((rd_T78 l0_2 a2).f1))) (fun _ hk => ⟨hk.1.1, hk.1.2⟩))⟩
    have n1_ : Aside0 (((w12.setCell ⟨gb549, 0, none⟩ (.int .i64 ((rd_T78 l0_2 a2).f0))).setCell ⟨gb549, 1, none⟩ (.int .i64 ((rd_T78 l0_2 a2).f1))).heap[gb547]? = some (.cells #[.int .i64 a0_0, .int .i64 a0_1, .slice (some ad548) l0_2.length co9] 48 (0, 0))) := ⟨fp BK547 rfl⟩
    have n2_ : Aside0 (((w12.setCell ⟨gb549, 0, none⟩ (.int .i64 ((rd_T78 l0_2 a2).f0))).setCell ⟨gb549, 1, none⟩ (.int .i64 ((rd_T78 l0_2 a2).f1))).heap[gb549]? = some (.cells #[.int .i64 ((rd_T78 l0_2 a2).f0), .int .i64 ((rd_T78 l0_2 a2).f1)] 78 (0, 0))) := ⟨fp BK549 rfl⟩
    have n3_ : Aside0 (Kept w ((w12.setCell ⟨gb549, 0, none⟩ (.int .i64 ((rd_T78 l0_2 a2).f0))).setCell ⟨gb549, 1, none⟩ (.int .i64 ((rd_T78 l0_2 a2).f1))) (fun k_ => P0_2_ k_)) := ⟨km HK⟩
    have n4_ : Aside0 (Below w0.heap.size w0 ((w12.setCell ⟨gb549, 0, none⟩ (.int .i64 ((rd_T78 l0_2 a2).f0))).setCell ⟨gb549, 1, none⟩ (.int .i64 ((rd_T78 l0_2 a2).f1)))) := ⟨bm HB⟩
    (try clear HO0_2)
    (try clear BK547)
    (try clear BK549)
    (try clear HK)
    (try clear HB)
    generalize ((w12.setCell ⟨gb549, 0, none⟩ (.int .i64 ((rd_T78 l0_2 a2).f0))).setCell ⟨gb549, 1, none⟩ (.int .i64 ((rd_T78 l0_2 a2).f1))) = w15 at n0_ n1_ n2_ n3_ n4_ ⊢
    have HO0_2 := n0_
    have BK547 := n1_
    have BK549 := n2_
    have HK := n3_
    have HB := n4_
    clear n0_ n1_ n2_ n3_ n4_
    refine ev5 (Kd.R_drew HO0_2.out) (blk_drew BK547.out) (blk_drew BK549.out) (Kept.drew HK.out) (below_drew1 HB.out) ?_
    clear HO0_2 BK547 BK549 HK HB
    intro HO0_2 BK547 BK549 HK HB
    refine start_ (n := 7) (S := fun w' => w'.cell? ⟨gb547, 0, none⟩ = some (.int .i64 a0_0) ∧ w'.cell? ⟨gb547, 1, none⟩ = some (.int .i64 a0_1) ∧ w'.cell? ⟨gb547, 2, none⟩ = some (.slice (some ad548) l0_2.length co9) ∧ w'.cell? ⟨gb549, 0, none⟩ = some (.int .i64 ((rd_T78 l0_2 a2).f0)) ∧ w'.cell? ⟨gb549, 1, none⟩ = some (.int .i64 ((rd_T78 l0_2 a2).f1))) (ds := [6]) #[false, false, false, false, false, false, false] (by kernel_rfl) rfl rfl ⟨(blk_cell BK547.out 0).trans rfl, (blk_cell BK547.out 1).trans rfl, (blk_cell BK547.out 2).trans rfl, (blk_cell BK549.out 0).trans rfl, (blk_cell BK549.out 1).trans rfl⟩ (fun hHeld => ?_)
    generalize w15.drew = w16 at HO0_2 BK547 BK549 HK HB hHeld ⊢
    refine pure_ (i := 0) (N := some 18) (v := ?_) (a' := ?_) #[true, false, false, false, false, false, false] rfl rfl (by kernel_rfl) (fun _ _ _ h => h) (Or.inl ⟨by rfl, ?_⟩) ?_ ?_
    rotate_left
    ·intro w'
     go_simp
     with_reducible rfl
    rotate_left
    ·simp only [Act.put, za_, zb_, zc_, i64_w, i32_w]
     rfl
    refine pure_ (i := 2) (N := some 20) (v := ?_) (a' := ?_) #[true, false, true, false, false, false, false] rfl rfl (by kernel_rfl) (fun _ _ _ h => h) (Or.inl ⟨by rfl, ?_⟩) ?_ ?_
    rotate_left
    ·intro w'
     go_simp
     with_reducible rfl
    rotate_left
    ·simp only [Act.put, za_, zb_, zc_, i64_w, i32_w]
     rfl
    refine take_ (i := 1) (N := some 19) (v := ?_) (a' := ?_) #[true, true, true, false, false, false, false] rfl rfl (by kernel_rfl) (fun _ _ _ h => h) (Or.inl ⟨by rfl, ?_⟩) hHeld ?_ ?_
    rotate_left
    ·rintro w' ⟨s0, s1, s2, s3, s4⟩
     go_simp
     with_reducible rfl
    rotate_left
    ·simp only [Act.put, za_, zb_, zc_, i64_w, i32_w]
     rfl
    refine take_ (i := 3) (N := some 21) (v := ?_) (a' := ?_) #[true, true, true, true, false, false, false] rfl rfl (by kernel_rfl) (fun _ _ _ h => h) (Or.inl ⟨by rfl, ?_⟩) hHeld ?_ ?_
    rotate_left
    ·rintro w' ⟨s0, s1, s2, s3, s4⟩
     go_simp
     with_reducible rfl
    rotate_left
    ·simp only [Act.put, za_, zb_, zc_, i64_w, i32_w]
     rfl
    refine one_ (i := 4) (N := some 22) #[true, true, true, true, true, false, false] rfl rfl (by kernel_rfl) (by decide) (fun K hK => ?_)
    refine goes_ Try.func111 (by kernel_rfl) rfl #[.agg #[.int .i64 ((rd_T78 l0_2 a2).f0), .int .i64 ((rd_T78 l0_2 a2).f1)]] (by rfl) rfl rfl (by (try simp only [ma_, mb_, mc_]); first | done | rfl | (simp only [List.length_drop, List.length_take]; rfl)) ?_
    with_reducible refine (spec_paTurn.calls ((rd_T78 l0_2 a2).f0) ((rd_T78 l0_2 a2).f1) t550 t551 _ A7.out).mono ?_
    rintro e w17 ⟨rfl, hb⟩
    refine ⟨_, rfl, ?_⟩
    refine ev5 (Kd.R_below (Kd.R_mv HO0_2.out) hb) (kb BK547 hb) (kb BK549 hb) (Kept.below (S := (fun k_ => P0_2_ k_)) (km HK) hb) (bs HB hb) ?_
    clear HO0_2 BK547 BK549 HK HB
    intro HO0_2 BK547 BK549 HK HB
    (try clear hb)
    (try clear hb2)
    (try clear hk)
    (try clear hi)
    have p8 : 0 ≤ (a2 : Int) := of_decide_eq_true (by first | (with_reducible assumption) | assumption)
    have q8 : (a2 : Int) < ((l0_2.length : Int) : Int) := of_decide_eq_true (by first | (with_reducible assumption) | assumption)
    obtain ⟨go8, co8, eo8, gb8, gl8, cl8, HG8⟩ := Kd.R_form HO0_2.out (by omega)
    (first | cases eo8 | (injection eo8 with ea_ en_ ec_; (first | subst ea_ | (injection ea_ with ea_; subst ea_)); subst ec_; clear en_))
    have GB8 := Aside0.mk gb8
    have GG8 := Aside0.mk HG8
    clear gb8 gl8 HG8
    have HMgo8 := Aside0.mk (show (P0_2_ go8 ∨ w.heap.size ≤ go8) from (HO0_2.out.1 _ rfl).1)
    (first | simp only [add_plain] at hx548_0 | skip)
    (first | simp only [add_plain] at hx548_1 | skip)
    obtain ⟨ce8, hcl8, hM8, hcc8, hfr8⟩ := Kd.R_elem HO0_2.out z78 (a2 : Int) p8 q8
    obtain rfl := k78_openM hM8
    have hx8_0 : World.cell? _ ⟨go8, (a2 : Int).toNat * 2, none⟩ = some (.int .i64 ((rd_T78 l0_2 a2).f0)) := hcc8 0 _ rfl
    have hx8_1 : World.cell? _ ⟨go8, (a2 : Int).toNat * 2 + 1, none⟩ = some (.int .i64 ((rd_T78 l0_2 a2).f1)) := hcc8 1 _ rfl
    have hf8_0 : World.frozen? _ ⟨go8, (a2 : Int).toNat * 2, none⟩ = false := hfr8 0
    have hf8_1 : World.frozen? _ ⟨go8, (a2 : Int).toNat * 2 + 1, none⟩ = false := hfr8 1
    clear hcl8 hcc8 hfr8 hM8
    replace p8 := eq_true p8
    replace q8 := eq_true q8
    obtain ⟨ce18, hcl18, hM18, hcc18, hfr18⟩ := Kd.R_elem HO0_2.out z78 (a2 : Int) (of_decide_eq_true (by first | (with_reducible assumption) | assumption)) (by have h_ : (a2 : Int) < ((l0_2.length : Int) : Int) := of_decide_eq_true (by first | (with_reducible assumption) | assumption); first | exact h_ | (have e_ := (Kd.R_reads' HO0_2.out).1; omega) | simpa using h_)
    obtain rfl := k78_openM hM18
    have HP18 := (Kd.R_seg HO0_2.out (a2 : Int) (of_decide_eq_true (by first | (with_reducible assumption) | assumption)) (by have h_ : (a2 : Int) < ((l0_2.length : Int) : Int) := of_decide_eq_true (by first | (with_reducible assumption) | assumption); first | exact h_ | (have e_ := (Kd.R_reads' HO0_2.out).1; omega) | simpa using h_) (seg := [.int .i64 t550, .int .i64 t551]) (j := 0) hcl18 hcc18 (show 2 ≤ 2 from by decide) (x' := (⟨t550, t551⟩ : S78)) (k78_mkM _ _ _ (⟨t550, t551⟩ : S78) ) (fun _ hk => hk)).1
    rw [← Ny552.out] at HP18
    have HQ18 := Aside0.mk HP18
    clear hcl18 hcc18 hfr18 hM18 HP18
    refine hK.out _ _ ⟨(blk_cell BK547.out 0).trans rfl, (blk_cell BK547.out 1).trans rfl, (blk_cell BK547.out 2).trans rfl, (blk_cell BK549.out 0).trans rfl, (blk_cell BK549.out 1).trans rfl⟩ (fun hHeld => ?_)
    clear hK K
    refine norm_ (a' := ?_) ?_ ?_
    rotate_left
    ·show Act.put _ (some 22) _ = _
     simp only [Act.put, za_, zb_, zc_, i64_w, i32_w]
     rfl
    refine pure_ (i := 5) (N := some 23) (v := ?_) (a' := ?_) #[true, true, true, true, true, true, false] rfl rfl (by kernel_rfl) (fun _ _ _ h => h) (Or.inl ⟨by rfl, ?_⟩) ?_ ?_
    rotate_left
    ·intro w'
     go_simp
     with_reducible rfl
    rotate_left
    ·simp only [Act.put, za_, zb_, zc_, i64_w, i32_w]
     rfl
    refine last_ (i := 6) (N := none) #[true, true, true, true, true, true, true] rfl rfl (by kernel_rfl) (by decide) (fun K hK => ?_)
    refine skip_ (w1 := ?_) (by rfl) rfl ?_ ?_
    rotate_left
    ·go_simp
     rfl
    refine hK.out _ _ ?_
    clear hK K
    refine done_ (by kernel_rfl) ?_
    try go_wp2
    first | go_end0 | ((try simp only [Exit.inBlock, Exit.then]); refine bodyPost_ret (results_none rfl _ _ _) rfl ?_)
    exact ⟨by first | rfl | (simp [e0_, e1_] <;> rfl) | (simp [*, e0_, e1_] <;> rfl), by (with_reducible repeat (first | apply Kd.R_alloc | apply Kd.R_drewN | apply Kd.R_drew)); exact Kd.R_mono (ok' := fun k_ => ((P0_2_ k_ ∨ w.heap.size ≤ k_))) HQ18.out (fun _ hk => hk.1), by repeat (first | (with_reducible first | exact HB.out | apply below_alloc | apply pw_below_drewN | apply below_drew1 | refine below_set ?_ GB8.out | refine below_set ?_ GB8.out | refine below_set ?_ GE547.out | refine below_set ?_ GE549.out) | exact HB.out), by repeat (first | (with_reducible first | exact HK.out | apply Kept.alloc | apply Kept.drewN | apply Kept.drew | refine Kept.setCell ?_ HMgo8.out _ | refine Kept.setCell ?_ HMgo8.out _ | refine Kept.setCell ?_ (.inr GW547.out) _ | refine Kept.setCell ?_ (.inr GW549.out) _) | exact HK.out)⟩
   ·rw [if_neg c6] at H
    have c6b0 : (((rd_T78 l0_2 a2).f0) == 3) = false := beq_eq_false_iff_ne.mpr c6
    have c6b1 : (((rd_T78 l0_2 a2).f0) != 3) = true := bne_iff_ne.mpr c6
    by_cases c19 : ((rd_T78 l0_2 a2).f0) = 6
    ·rw [if_pos c19] at H
     have c19b0 : (((rd_T78 l0_2 a2).f0) == 6) = true := beq_iff_eq.mpr c19
     have c19b1 : (((rd_T78 l0_2 a2).f0) != 6) = false := bne_eq_false_iff_eq.mpr c19
     clear c19
     have H' := Aside0.mk H
     clear H
     obtain ⟨Ao20, co20, eo20⟩ := Kd.R_slice HO0_2.out
     subst eo20
     go_enter Try.func130, Try.ntmps130
     go_wp2_with (first | ((with_reducible refine gate_dst (N := 3) rfl ?_); refine box_event ?hg (N := 3) ?hd (cs := #[.int .i64 a0_0, .int .i64 a0_1, .slice Ao20 l0_2.length co20]) (t := 48) ?hr ?_; (case hd => rfl); (case hg => rfl); (case hr => first | (go_simp; done) | (go_simp; rfl)); intro gb547 hg w21 hbox hb; refine ev6 (Kd.R_below (Kd.R_mv HO0_2.out) hb) (Kept.below (S := (fun k_ => P0_2_ k_)) (km HK) hb) (bs HB hb) (hbox) ((by rw [hg]; exact (by first | exact HK.out.1 | exact (show Kept w _ (fun k_ => P0_2_ k_) from km HK).1) : w.heap.size ≤ gb547)) (gle hg HB) ?_; clear HO0_2 HK HB; intro HO0_2 HK HB BK547 GW547 GE547; clear hb hbox hg; obtain ⟨hcz22_0, hcz22_1, hcz22_2, hfz22_0, hfz22_1, hfz22_2⟩ := bt3 BK547; have p548 : 0 ≤ (a2 : Int) := of_decide_eq_true (by first | (with_reducible assumption) | assumption); have q548 : a2 < (l0_2.length : Int) := of_decide_eq_true (by first | (with_reducible assumption) | assumption); obtain ⟨ad548, e548, hx548_0, hx548_1⟩ := at_T78 (Kd.R_reads' HO0_2.out).2.2 a2 p548 q548; cases e548; replace p548 := eq_true p548; replace q548 := eq_true q548) | ((with_reducible refine gate_dst (N := 6) rfl ?_); refine box_event ?hg (N := 6) ?hd (cs := #[.int .i64 0, .int .i64 0]) (t := 78) ?hr ?_; (case hd => rfl); (case hg => rfl); (case hr => first | (go_simp; done) | (go_simp; rfl)); intro gb549 hg w23 hbox hb; refine ev9 (Kd.R_below (Kd.R_elderB (Kd.R_mv HO0_2.out) gb549 (Nat.le_of_eq hg.symm)) hb) (kb BK547 hb) (Kept.below (S := (fun k_ => P0_2_ k_)) (km HK) hb) (bs HB hb) (hbox) ((by rw [hg]; exact (by first | exact HK.out.1 | exact (show Kept w _ (fun k_ => P0_2_ k_) from km HK).1) : w.heap.size ≤ gb549)) (gle hg HB) (gnf hg BK547) (gne hg BK547) ?_; clear HO0_2 BK547 HK HB; intro HO0_2 BK547 HK HB BK549 GW549 GE549 NB547_549 NB549_547; clear hb hbox hg; have hnb24 := NB549_547.out; have hnc24 := NB547_549.out; obtain ⟨hcz25_0, hcz25_1, hfz25_0, hfz25_1⟩ := bt2 BK549; obtain ⟨hcz26_0, hcz26_1, hcz26_2, hfz26_0, hfz26_1, hfz26_2⟩ := bt3 BK547))
     go_loopg [29] k (fun kq v29 w' => ∃ (x29_1 : Int) (x548002_1 : List (S78)) (x550000_1 : Int) (x550001_1 : Int), v29 = .int .i64 x29_1 ∧ Aside0 (spec_flPass.l0 kq l1 a2 (l0_2.length : Int) x29_1 a0_0 a0_1 x548002_1 = some r) ∧ Aside0 (kq ≤ k) ∧ Aside0 (Kd.R k78 78 w' w0.heap.size (fun k_ => (P0_2_ k_ ∨ w.heap.size ≤ k_) ∧ k_ ≠ gb549) (.slice (some ad548) l0_2.length co20) x548002_1) ∧ Aside0 (w'.heap[gb547]? = some (.cells #[.int .i64 a0_0, .int .i64 a0_1, (.slice (some ad548) l0_2.length co20)] 48 (0, 0))) ∧ Aside0 (w'.heap[gb549]? = some (.cells #[.int .i64 x550000_1, .int .i64 x550001_1] 78 (0, 0))) ∧ Aside0 (Kept w w' (fun k_ => P0_2_ k_)) ∧ Aside0 (Below w0.heap.size w0 w'))
     case atStart => exact ⟨(0), (l0_2), ((rd_T78 l0_2 a2).f0), ((rd_T78 l0_2 a2).f1), (by first | rfl | (simp; done) | (simp [*]; done)), H', ⟨Nat.le_refl _⟩, ⟨Kd.R_mv (Kd.R_mono (ok' := fun k_ => (((P0_2_ k_ ∨ w.heap.size ≤ k_)) ∧ k_ ≠ gb549)) (Kd.R_far (p := ⟨gb549, 1, none⟩) (Kd.R_far (p := ⟨gb549, 0, none⟩) (Kd.R_mono HO0_2.out (fun k_ hk => (⟨hk, hk.2⟩ : _ ∧ k_ ≠ gb549))) (fun _ hk => hk.2) (.int .i64 ((rd_T78 l0_2 a2).f0))) (fun _ hk => hk.2) (.int .i64 ((rd_T78 l0_2 a2).f1))) (fun _ hk => ⟨hk.1.1, hk.1.2⟩))⟩, ⟨fp BK547 rfl⟩, ⟨fp BK549 rfl⟩, ⟨km HK⟩, ⟨bm HB⟩⟩
     case round =>
      clear H'
      try clear c1
      try clear c2
      try clear p2
      try clear c4
      try clear c4b0
      try clear c5
      try clear c5b0
      try clear p5
      try clear q5
      try clear hx5
      try clear c6
      try clear c6b0
      try clear c6b1
      try clear c13
      try clear c19
      try clear c19b0
      try clear c19b1
      try clear c24
      try clear hcz22_0
      try clear hcz22_1
      try clear hcz22_2
      try clear hcz25_0
      try clear hcz25_1
      try clear hcz26_0
      try clear hcz26_1
      try clear hcz26_2
      try clear hfz22_0
      try clear hfz22_1
      try clear hfz22_2
      try clear hfz25_0
      try clear hfz25_1
      try clear hfz26_0
      try clear hfz26_1
      try clear hfz26_2
      try clear hx548_0
      try clear hx548_1
      try clear p548
      try clear q548
      obtain ⟨x29_1, x548002_1, x550000_1, x550001_1, rfl, HA, HK1, HO_548002, BK547, BK549, HK, HB⟩ := hrel
      have hl548002_1 := (Kd.R_reads' HO_548002.out).1
      rw [hl548002_1] at HO_548002
      (try simp only [hl548002_1])
      (try simp only [hl548002_1] at BK547)
      (try simp only [hl548002_1] at BK549)
      cases gk with
      | zero => exact absurd HA.out (by simp [spec_flPass.l0])
      | succ k1 =>
       have H := HA.out
       clear HA
       simp only [spec_flPass.l0] at H
       by_cases c27 : x29_1 < (l0_2.length : Int)
       ·rw [if_pos c27] at H
        have c27b0 : decide (x29_1 < (l0_2.length : Int)) = true := decide_eq_true c27
        (try simp only [hl548002_1] at c27b0)
        clear c27
        by_cases c28 : 0 ≤ x29_1
        ·rw [if_pos c28] at H
         have c28b0 : decide (0 ≤ x29_1) = true := decide_eq_true c28
         clear c28
         by_cases c29 : x29_1 < (x548002_1.length : Int)
         ·rw [if_pos c29] at H
          have c29b0 : decide (x29_1 < (x548002_1.length : Int)) = true := decide_eq_true c29
          (try simp only [hl548002_1] at c29b0)
          clear c29
          by_cases c30 : ((rd_T78 x548002_1 x29_1).f0) = 6
          ·rw [if_pos c30] at H
           have c30b0 : (((rd_T78 x548002_1 x29_1).f0) == 6) = true := beq_iff_eq.mpr c30
           have c30b1 : (((rd_T78 x548002_1 x29_1).f0) != 6) = false := bne_eq_false_iff_eq.mpr c30
           clear c30
           by_cases c31 : x29_1 < (l1.length : Int)
           ·rw [if_pos c31] at H
            have c31b0 : decide (x29_1 < (l1.length : Int)) = true := decide_eq_true c31
            (try simp only [hl548002_1] at c31b0)
            clear c31
            by_cases c32 : 0 ≤ a2
            ·rw [if_pos c32] at H
             have c32b0 : decide (0 ≤ a2) = true := decide_eq_true c32
             clear c32
             by_cases c33 : a2 < (l1.length : Int)
             ·rw [if_pos c33] at H
              have c33b0 : decide (a2 < (l1.length : Int)) = true := decide_eq_true c33
              (try simp only [hl548002_1] at c33b0)
              clear c33
              by_cases c34 : (rd l1 x29_1) = (rd l1 a2)
              ·rw [if_pos c34] at H
               have c34b0 : ((rd l1 x29_1) == (rd l1 a2)) = true := beq_iff_eq.mpr c34
               have c34b1 : ((rd l1 x29_1) != (rd l1 a2)) = false := bne_eq_false_iff_eq.mpr c34
               clear c34
               replace H := Option.bind_eq_some_iff.mp H
               obtain ⟨⟨t557, t558⟩, A350, H⟩ := H
               replace H : (spec_flPass.l0 k1 l1 a2 (l0_2.length : Int) (wrap64 (x29_1 + 1)) a0_0 a0_1 (x548002_1.set (x29_1 : Int).toNat (⟨t557, t558⟩ : S78))) = some r := H
               have A35 := Aside0.mk A350
               clear A350
               obtain ⟨y559, hy559⟩ : ∃ y_ : List (S78), y_ = (x548002_1.set (x29_1 : Int).toNat (⟨t557, t558⟩ : S78)) := ⟨_, rfl⟩
               replace H : (spec_flPass.l0 k1 l1 a2 (l0_2.length : Int) (wrap64 (x29_1 + 1)) a0_0 a0_1 y559) = some r := by first | (rw [hy559]; with_reducible exact H) | (have H2_ := (Option.bind_some _ _).symm.trans H; rw [hy559]; with_reducible exact H2_) | (have H2_ := (Option.bind_some _ _).symm.trans H; with_reducible exact H2_) | with_reducible exact H | (rw [hy559]; exact H) | exact H
               have Ny559 := Aside0.mk hy559
               clear hy559
               have H' := Aside0.mk H
               clear H
               have p553 : 0 ≤ (x29_1 : Int) := of_decide_eq_true (by first | (with_reducible assumption) | assumption)
               have q553 : x29_1 < (x548002_1.length : Int) := of_decide_eq_true (by first | (with_reducible assumption) | assumption)
               obtain ⟨ad553, e553, hx553_0, hx553_1⟩ := at_T78 (Kd.R_reads' HO_548002.out).2.2 x29_1 p553 q553
               obtain rfl : ad548 = ad553 := (by injection e553)
               replace p553 := eq_true p553
               replace q553 := eq_true q553
               try go_wp2_with (first | ((with_reducible refine gate_dst (N := 8) rfl ?_); refine box_event ?hg (N := 8) ?hd (cs := #[.int .i64 0, .int .i64 0]) (t := 78) ?hr ?_; (case hd => rfl); (case hg => rfl); (case hr => first | (go_simp; done) | (go_simp; rfl)); intro gb554 hg w37 hbox hb; refine ev12 (Kd.R_below (Kd.R_elderB (Kd.R_mv HO_548002.out) gb554 (Nat.le_of_eq hg.symm)) hb) (kb BK547 hb) (kb BK549 hb) (Kept.below (S := (fun k_ => P0_2_ k_)) (km HK) hb) (bs HB hb) (hbox) ((by rw [hg]; exact (by first | exact HK.out.1 | exact (show Kept w _ (fun k_ => P0_2_ k_) from km HK).1) : w.heap.size ≤ gb554)) (gle hg HB) (gnf hg BK547) (gne hg BK547) (gnf hg BK549) (gne hg BK549) ?_; clear HO_548002 BK547 BK549 HK HB; intro HO_548002 BK547 BK549 HK HB BK554 GW554 GE554 NB547_554 NB554_547 NB549_554 NB554_549; clear hb hbox hg; have hnb38 := NB554_547.out; have hnc38 := NB547_554.out; have hnb39 := NB554_549.out; have hnc39 := NB549_554.out; obtain ⟨hcz40_0, hcz40_1, hfz40_0, hfz40_1⟩ := bt2 BK554))
               have n0_ : Aside0 (Kd.R k78 78 ((w37.setCell ⟨gb554, 0, none⟩ (.int .i64 ((rd_T78 x548002_1 x29_1).f0))).setCell ⟨gb554, 1, none⟩ (.int .i64 ((rd_T78 x548002_1 x29_1).f1))) w0.heap.size (fun k_ => (P0_2_ k_ ∨ w.heap.size ≤ k_) ∧ k_ ≠ gb549 ∧ k_ ≠ gb554) (.slice (some ad548) x548002_1.length co20) x548002_1) := ⟨Kd.R_mv (Kd.R_mono (ok' := fun k_ => (((P0_2_ k_ ∨ w.heap.size ≤ k_)) ∧ (k_ ≠ gb549 ∧ k_ ≠ gb554))) (Kd.R_far (p := ⟨gb554, 1, none⟩) (Kd.R_far (p := ⟨gb554, 0, none⟩) (Kd.R_mono HO_548002.out (fun k_ hk => (⟨hk, hk.2⟩ : _ ∧ k_ ≠ gb554))) (fun _ hk => hk.2) (.int .i64 ((rd_T78 x548002_1 x29_1).f0))) (fun _ hk => hk.2) (.int .i64 ((rd_T78 x548002_1 x29_1).f1))) (fun _ hk => ⟨hk.1.1.1, ⟨hk.1.1.2, hk.1.2⟩⟩))⟩
               have n1_ : Aside0 (((w37.setCell ⟨gb554, 0, none⟩ (.int .i64 ((rd_T78 x548002_1 x29_1).f0))).setCell ⟨gb554, 1, none⟩ (.int .i64 ((rd_T78 x548002_1 x29_1).f1))).heap[gb547]? = some (.cells #[.int .i64 a0_0, .int .i64 a0_1, .slice (some ad548) x548002_1.length co20] 48 (0, 0))) := ⟨fp BK547 rfl⟩
               have n2_ : Aside0 (((w37.setCell ⟨gb554, 0, none⟩ (.int .i64 ((rd_T78 x548002_1 x29_1).f0))).setCell ⟨gb554, 1, none⟩ (.int .i64 ((rd_T78 x548002_1 x29_1).f1))).heap[gb549]? = some (.cells #[.int .i64 x550000_1, .int .i64 x550001_1] 78 (0, 0))) := ⟨fp BK549 rfl⟩
               have n3_ : Aside0 (((w37.setCell ⟨gb554, 0, none⟩ (.int .i64 ((rd_T78 x548002_1 x29_1).f0))).setCell ⟨gb554, 1, none⟩ (.int .i64 ((rd_T78 x548002_1 x29_1).f1))).heap[gb554]? = some (.cells #[.int .i64 ((rd_T78 x548002_1 x29_1).f0), .int .i64 ((rd_T78 x548002_1 x29_1).f1)] 78 (0, 0))) := ⟨fp BK554 rfl⟩
               have n4_ : Aside0 (Kept w ((w37.setCell ⟨gb554, 0, none⟩ (.int .i64 ((rd_T78 x548002_1 x29_1).f0))).setCell ⟨gb554, 1, none⟩ (.int .i64 ((rd_T78 x548002_1 x29_1).f1))) (fun k_ => P0_2_ k_)) := ⟨km HK⟩
               have n5_ : Aside0 (Below w0.heap.size w0 ((w37.setCell ⟨gb554, 0, none⟩ (.int .i64 ((rd_T78 x548002_1 x29_1).f0))).setCell ⟨gb554, 1, none⟩ (.int .i64 ((rd_T78 x548002_1 x29_1).f1)))) := ⟨bm HB⟩
               (try clear HO_548002)
               (try clear BK547)
               (try clear BK549)
               (try clear BK554)
               (try clear HK)
               (try clear HB)
               generalize ((w37.setCell ⟨gb554, 0, none⟩ (.int .i64 ((rd_T78 x548002_1 x29_1).f0))).setCell ⟨gb554, 1, none⟩ (.int .i64 ((rd_T78 x548002_1 x29_1).f1))) = w41 at n0_ n1_ n2_ n3_ n4_ n5_ ⊢
               have HO_548002 := n0_
               have BK547 := n1_
               have BK549 := n2_
               have BK554 := n3_
               have HK := n4_
               have HB := n5_
               clear n0_ n1_ n2_ n3_ n4_ n5_
               refine ev6 (Kd.R_drew HO_548002.out) (blk_drew BK547.out) (blk_drew BK549.out) (blk_drew BK554.out) (Kept.drew HK.out) (below_drew1 HB.out) ?_
               clear HO_548002 BK547 BK549 BK554 HK HB
               intro HO_548002 BK547 BK549 BK554 HK HB
               have p555 : 0 ≤ (x29_1 : Int) := of_decide_eq_true (by first | (with_reducible assumption) | assumption)
               have q555 : x29_1 < (l1.length : Int) := of_decide_eq_true (by first | (with_reducible assumption) | assumption)
               obtain ⟨ad555, e555, hx555_0⟩ := Kd.at_int (Kd.C_kept_now HR1.out HK.out) x29_1 p555 q555
               have hw555_0 := hx555_0
               cases e555
               replace p555 := eq_true p555
               replace q555 := eq_true q555
               have p556 : 0 ≤ (a2 : Int) := of_decide_eq_true (by first | (with_reducible assumption) | assumption)
               have q556 : a2 < (l1.length : Int) := of_decide_eq_true (by first | (with_reducible assumption) | assumption)
               obtain ⟨ad556, e556, hx556_0⟩ := Kd.at_int (Kd.C_kept_now HR1.out HK.out) a2 p556 q556
               have hw556_0 := hx556_0
               obtain rfl : ad555 = ad556 := (by injection e556)
               replace p556 := eq_true p556
               replace q556 := eq_true q556
               refine start_ (n := 14) (S := fun w' => w'.cell? ⟨gb554, 0, none⟩ = some (.int .i64 ((rd_T78 x548002_1 x29_1).f0)) ∧ w'.cell? ⟨gb554, 1, none⟩ = some (.int .i64 ((rd_T78 x548002_1 x29_1).f1)) ∧ w'.cell? (ad555.add (x29_1).toNat) = some (.int .i64 (rd l1 x29_1)) ∧ w'.cell? (ad555.add (a2).toNat) = some (.int .i64 (rd l1 a2))) (ds := []) #[false, false, false, false, false, false, false, false, false, false, false, false, false, false] (by kernel_rfl) rfl rfl ⟨(blk_cell BK554.out 0).trans rfl, (blk_cell BK554.out 1).trans rfl, (Kd.foot_int (HR1.out _ (by repeat (first | exact HK.out | apply Kept.alloc | apply Kept.drewN | apply Kept.drew))) x29_1 (of_eq_true p555) (of_eq_true q555)), (Kd.foot_int (HR1.out _ (by repeat (first | exact HK.out | apply Kept.alloc | apply Kept.drewN | apply Kept.drew))) a2 (of_eq_true p556) (of_eq_true q556))⟩ (fun hHeld => ?_); refine with_tabW spec_flPass.tab9 spec_flPass.bits9 (fun HT_ HW_ => ?_)
               generalize w41.drew = w42 at HO_548002 BK547 BK549 BK554 HK HB hx555_0 hx556_0 hHeld ⊢
               refine pure_ (i := 0) (N := some 34) (v := ?_) (a' := ?_) #[true, false, false, false, false, false, false, false, false, false, false, false, false, false] rfl rfl (any_of HT_.out (by kernel_rfl)) (fun _ _ _ h => h) (Or.inl ⟨by rfl, ?_⟩) ?_ ?_
               rotate_left
               ·intro w'
                go_simp
                with_reducible rfl
               rotate_left
               ·simp only [Act.put, za_, zb_, zc_, i64_w, i32_w]
                rfl
               refine take_ (i := 1) (N := some 35) (v := ?_) (a' := ?_) #[true, true, false, false, false, false, false, false, false, false, false, false, false, false] rfl rfl (take_ofW HT_.out HW_.out (by kernel_rfl)) (fun _ _ _ h => h) (Or.inl ⟨by rfl, ?_⟩) hHeld ?_ ?_
               rotate_left
               ·rintro w' ⟨s0, s1, s2, s3⟩
                go_simp
                with_reducible rfl
               rotate_left
               ·simp only [Act.put, za_, zb_, zc_, i64_w, i32_w]
                rfl
               refine pure_ (i := 2) (N := some 36) (v := ?_) (a' := ?_) #[true, true, true, false, false, false, false, false, false, false, false, false, false, false] rfl rfl (any_of HT_.out (by kernel_rfl)) (fun _ _ _ h => h) (Or.inl ⟨by rfl, ?_⟩) ?_ ?_
               rotate_left
               ·intro w'
                go_simp
                with_reducible rfl
               rotate_left
               ·simp only [Act.put, za_, zb_, zc_, i64_w, i32_w]
                rfl
               refine pure_ (i := 3) (N := some 37) (v := ?_) (a' := ?_) #[true, true, true, true, false, false, false, false, false, false, false, false, false, false] rfl rfl (any_of HT_.out (by kernel_rfl)) (fun _ _ _ h => h) (Or.inl ⟨by rfl, ?_⟩) ?_ ?_
               rotate_left
               ·intro w'
                go_simp
                with_reducible rfl
               rotate_left
               ·simp only [Act.put, za_, zb_, zc_, i64_w, i32_w]
                rfl
               refine pure_ (i := 4) (N := some 38) (v := ?_) (a' := ?_) #[true, true, true, true, true, false, false, false, false, false, false, false, false, false] rfl rfl (any_of HT_.out (by kernel_rfl)) (fun _ _ _ h => h) (Or.inl ⟨by rfl, ?_⟩) ?_ ?_
               rotate_left
               ·intro w'
                go_simp
                with_reducible rfl
               rotate_left
               ·simp only [Act.put, za_, zb_, zc_, i64_w, i32_w]
                rfl
               refine pure_ (i := 5) (N := some 39) (v := ?_) (a' := ?_) #[true, true, true, true, true, true, false, false, false, false, false, false, false, false] rfl rfl (any_of HT_.out (by kernel_rfl)) (fun _ _ _ h => h) (Or.inl ⟨by rfl, ?_⟩) ?_ ?_
               rotate_left
               ·intro w'
                go_simp
                with_reducible rfl
               rotate_left
               ·simp only [Act.put, za_, zb_, zc_, i64_w, i32_w]
                rfl
               refine pure_ (i := 6) (N := some 40) (v := ?_) (a' := ?_) #[true, true, true, true, true, true, true, false, false, false, false, false, false, false] rfl rfl (any_of HT_.out (by kernel_rfl)) (fun _ _ _ h => h) (Or.inl ⟨by rfl, ?_⟩) ?_ ?_
               rotate_left
               ·intro w'
                go_simp
                with_reducible rfl
               rotate_left
               ·simp only [Act.put, za_, zb_, zc_, i64_w, i32_w]
                rfl
               refine pure_ (i := 8) (N := some 42) (v := ?_) (a' := ?_) #[true, true, true, true, true, true, true, false, true, false, false, false, false, false] rfl rfl (any_of HT_.out (by kernel_rfl)) (fun _ _ _ h => h) (Or.inl ⟨by rfl, ?_⟩) ?_ ?_
               rotate_left
               ·intro w'
                go_simp
                with_reducible rfl
               rotate_left
               ·simp only [Act.put, za_, zb_, zc_, i64_w, i32_w]
                rfl
               refine pure_ (i := 9) (N := some 43) (v := ?_) (a' := ?_) #[true, true, true, true, true, true, true, false, true, true, false, false, false, false] rfl rfl (any_of HT_.out (by kernel_rfl)) (fun _ _ _ h => h) (Or.inl ⟨by rfl, ?_⟩) ?_ ?_
               rotate_left
               ·intro w'
                go_simp
                with_reducible rfl
               rotate_left
               ·simp only [Act.put, za_, zb_, zc_, i64_w, i32_w]
                rfl
               refine pure_ (i := 10) (N := some 44) (v := ?_) (a' := ?_) #[true, true, true, true, true, true, true, false, true, true, true, false, false, false] rfl rfl (any_of HT_.out (by kernel_rfl)) (fun _ _ _ h => h) (Or.inl ⟨by rfl, ?_⟩) ?_ ?_
               rotate_left
               ·intro w'
                go_simp
                with_reducible rfl
               rotate_left
               ·simp only [Act.put, za_, zb_, zc_, i64_w, i32_w]
                rfl
               refine take_ (i := 7) (N := some 41) (v := ?_) (a' := ?_) #[true, true, true, true, true, true, true, true, true, true, true, false, false, false] rfl rfl (take_ofW HT_.out HW_.out (by kernel_rfl)) (fun _ _ _ h => h) (Or.inl ⟨by rfl, ?_⟩) hHeld ?_ ?_
               rotate_left
               ·rintro w' ⟨s0, s1, s2, s3⟩
                go_simp
                with_reducible rfl
               rotate_left
               ·simp only [Act.put, za_, zb_, zc_, i64_w, i32_w]
                rfl
               refine take_ (i := 11) (N := some 45) (v := ?_) (a' := ?_) #[true, true, true, true, true, true, true, true, true, true, true, true, false, false] rfl rfl (take_ofW HT_.out HW_.out (by kernel_rfl)) (fun _ _ _ h => h) (Or.inl ⟨by rfl, ?_⟩) hHeld ?_ ?_
               rotate_left
               ·rintro w' ⟨s0, s1, s2, s3⟩
                go_simp
                with_reducible rfl
               rotate_left
               ·simp only [Act.put, za_, zb_, zc_, i64_w, i32_w]
                rfl
               refine pure_ (i := 12) (N := some 46) (v := ?_) (a' := ?_) #[true, true, true, true, true, true, true, true, true, true, true, true, true, false] rfl rfl (any_of HT_.out (by kernel_rfl)) (fun _ _ _ h => h) (Or.inl ⟨by rfl, ?_⟩) ?_ ?_
               rotate_left
               ·intro w'
                go_simp
                with_reducible rfl
               rotate_left
               ·simp only [Act.put, za_, zb_, zc_, i64_w, i32_w]
                rfl
               refine pure_ (i := 13) (N := some 47) (v := ?_) (a' := ?_) #[true, true, true, true, true, true, true, true, true, true, true, true, true, true] rfl rfl (any_of HT_.out (by kernel_rfl)) (fun _ _ _ h => h) (Or.inl ⟨by rfl, ?_⟩) ?_ ?_
               rotate_left
               ·intro w'
                go_simp
                with_reducible rfl
               rotate_left
               ·simp only [Act.put, za_, zb_, zc_, i64_w, i32_w]
                rfl
               refine done_ (done_of HT_.out (by kernel_rfl)) ?_
               try go_wp2
               refine ev6 (Kd.R_drew HO_548002.out) (blk_drew BK547.out) (blk_drew BK549.out) (blk_drew BK554.out) (Kept.drew HK.out) (below_drew1 HB.out) ?_
               clear HO_548002 BK547 BK549 BK554 HK HB
               intro HO_548002 BK547 BK549 BK554 HK HB
               refine start_ (n := 7) (S := fun w' => w'.cell? ⟨gb547, 0, none⟩ = some (.int .i64 a0_0) ∧ w'.cell? ⟨gb547, 1, none⟩ = some (.int .i64 a0_1) ∧ w'.cell? ⟨gb547, 2, none⟩ = some (.slice (some ad548) x548002_1.length co20) ∧ w'.cell? ⟨gb554, 0, none⟩ = some (.int .i64 ((rd_T78 x548002_1 x29_1).f0)) ∧ w'.cell? ⟨gb554, 1, none⟩ = some (.int .i64 ((rd_T78 x548002_1 x29_1).f1))) (ds := [6]) #[false, false, false, false, false, false, false] (by kernel_rfl) rfl rfl ⟨(blk_cell BK547.out 0).trans rfl, (blk_cell BK547.out 1).trans rfl, (blk_cell BK547.out 2).trans rfl, (blk_cell BK554.out 0).trans rfl, (blk_cell BK554.out 1).trans rfl⟩ (fun hHeld => ?_)
               generalize w42.drew = w43 at HO_548002 BK547 BK549 BK554 HK HB hHeld ⊢
               refine pure_ (i := 0) (N := some 48) (v := ?_) (a' := ?_) #[true, false, false, false, false, false, false] rfl rfl (by kernel_rfl) (fun _ _ _ h => h) (Or.inl ⟨by rfl, ?_⟩) ?_ ?_
               rotate_left
               ·intro w'
                go_simp
                with_reducible rfl
               rotate_left
               ·simp only [Act.put, za_, zb_, zc_, i64_w, i32_w]
                rfl
               refine pure_ (i := 2) (N := some 50) (v := ?_) (a' := ?_) #[true, false, true, false, false, false, false] rfl rfl (by kernel_rfl) (fun _ _ _ h => h) (Or.inl ⟨by rfl, ?_⟩) ?_ ?_
               rotate_left
               ·intro w'
                go_simp
                with_reducible rfl
               rotate_left
               ·simp only [Act.put, za_, zb_, zc_, i64_w, i32_w]
                rfl
               refine take_ (i := 1) (N := some 49) (v := ?_) (a' := ?_) #[true, true, true, false, false, false, false] rfl rfl (by kernel_rfl) (fun _ _ _ h => h) (Or.inl ⟨by rfl, ?_⟩) hHeld ?_ ?_
               rotate_left
               ·rintro w' ⟨s0, s1, s2, s3, s4⟩
                go_simp
                with_reducible rfl
               rotate_left
               ·simp only [Act.put, za_, zb_, zc_, i64_w, i32_w]
                rfl
               refine take_ (i := 3) (N := some 51) (v := ?_) (a' := ?_) #[true, true, true, true, false, false, false] rfl rfl (by kernel_rfl) (fun _ _ _ h => h) (Or.inl ⟨by rfl, ?_⟩) hHeld ?_ ?_
               rotate_left
               ·rintro w' ⟨s0, s1, s2, s3, s4⟩
                go_simp
                with_reducible rfl
               rotate_left
               ·simp only [Act.put, za_, zb_, zc_, i64_w, i32_w]
                rfl
               refine one_ (i := 4) (N := some 52) #[true, true, true, true, true, false, false] rfl rfl (by kernel_rfl) (by decide) (fun K hK => ?_)
               refine goes_ Try.func111 (by kernel_rfl) rfl #[.agg #[.int .i64 ((rd_T78 x548002_1 x29_1).f0), .int .i64 ((rd_T78 x548002_1 x29_1).f1)]] (by rfl) rfl rfl (by (try simp only [ma_, mb_, mc_]); first | done | rfl | (simp only [List.length_drop, List.length_take]; rfl)) ?_
               with_reducible refine (spec_paTurn.calls ((rd_T78 x548002_1 x29_1).f0) ((rd_T78 x548002_1 x29_1).f1) t557 t558 _ A35.out).mono ?_
               rintro e w44 ⟨rfl, hb⟩
               refine ⟨_, rfl, ?_⟩
               refine ev6 (Kd.R_below (Kd.R_mv HO_548002.out) hb) (kb BK547 hb) (kb BK549 hb) (kb BK554 hb) (Kept.below (S := (fun k_ => P0_2_ k_)) (km HK) hb) (bs HB hb) ?_
               clear HO_548002 BK547 BK549 BK554 HK HB
               intro HO_548002 BK547 BK549 BK554 HK HB
               (try clear hb)
               (try clear hb2)
               (try clear hk)
               (try clear hi)
               have p36 : 0 ≤ (x29_1 : Int) := of_decide_eq_true (by first | (with_reducible assumption) | assumption)
               have q36 : (x29_1 : Int) < ((x548002_1.length : Int) : Int) := of_decide_eq_true (by first | (with_reducible assumption) | assumption)
               obtain ⟨go36, co36, eo36, gb36, gl36, cl36, HG36⟩ := Kd.R_form HO_548002.out (by omega)
               (first | cases eo36 | (injection eo36 with ea_ en_ ec_; (first | subst ea_ | (injection ea_ with ea_; subst ea_)); subst ec_; clear en_))
               have GB36 := Aside0.mk gb36
               have GG36 := Aside0.mk HG36
               clear gb36 gl36 HG36
               have HMgo36 := Aside0.mk (show (P0_2_ go36 ∨ w.heap.size ≤ go36) from (HO_548002.out.1 _ rfl).1)
               (first | simp only [add_plain] at hx548_0 | skip)
               (first | simp only [add_plain] at hx548_1 | skip)
               (first | simp only [add_plain] at hx553_0 | skip)
               (first | simp only [add_plain] at hx553_1 | skip)
               obtain ⟨ce36, hcl36, hM36, hcc36, hfr36⟩ := Kd.R_elem HO_548002.out z78 (x29_1 : Int) p36 q36
               obtain rfl := k78_openM hM36
               have hx36_0 : World.cell? _ ⟨go36, (x29_1 : Int).toNat * 2, none⟩ = some (.int .i64 ((rd_T78 x548002_1 x29_1).f0)) := hcc36 0 _ rfl
               have hx36_1 : World.cell? _ ⟨go36, (x29_1 : Int).toNat * 2 + 1, none⟩ = some (.int .i64 ((rd_T78 x548002_1 x29_1).f1)) := hcc36 1 _ rfl
               have hf36_0 : World.frozen? _ ⟨go36, (x29_1 : Int).toNat * 2, none⟩ = false := hfr36 0
               have hf36_1 : World.frozen? _ ⟨go36, (x29_1 : Int).toNat * 2 + 1, none⟩ = false := hfr36 1
               clear hcl36 hcc36 hfr36 hM36
               replace p36 := eq_true p36
               replace q36 := eq_true q36
               obtain ⟨ce45, hcl45, hM45, hcc45, hfr45⟩ := Kd.R_elem HO_548002.out z78 (x29_1 : Int) (of_decide_eq_true (by first | (with_reducible assumption) | assumption)) (by have h_ : (x29_1 : Int) < ((x548002_1.length : Int) : Int) := of_decide_eq_true (by first | (with_reducible assumption) | assumption); first | exact h_ | (have e_ := (Kd.R_reads' HO_548002.out).1; omega) | simpa using h_)
               obtain rfl := k78_openM hM45
               have HP45 := (Kd.R_seg HO_548002.out (x29_1 : Int) (of_decide_eq_true (by first | (with_reducible assumption) | assumption)) (by have h_ : (x29_1 : Int) < ((x548002_1.length : Int) : Int) := of_decide_eq_true (by first | (with_reducible assumption) | assumption); first | exact h_ | (have e_ := (Kd.R_reads' HO_548002.out).1; omega) | simpa using h_) (seg := [.int .i64 t557, .int .i64 t558]) (j := 0) hcl45 hcc45 (show 2 ≤ 2 from by decide) (x' := (⟨t557, t558⟩ : S78)) (k78_mkM _ _ _ (⟨t557, t558⟩ : S78) ) (fun _ hk => hk)).1
               rw [← Ny559.out] at HP45
               have HQ45 := Aside0.mk HP45
               clear hcl45 hcc45 hfr45 hM45 HP45
               refine hK.out _ _ ⟨(blk_cell BK547.out 0).trans rfl, (blk_cell BK547.out 1).trans rfl, (blk_cell BK547.out 2).trans rfl, (blk_cell BK554.out 0).trans rfl, (blk_cell BK554.out 1).trans rfl⟩ (fun hHeld => ?_)
               clear hK K
               refine norm_ (a' := ?_) ?_ ?_
               rotate_left
               ·show Act.put _ (some 52) _ = _
                simp only [Act.put, za_, zb_, zc_, i64_w, i32_w]
                rfl
               refine pure_ (i := 5) (N := some 53) (v := ?_) (a' := ?_) #[true, true, true, true, true, true, false] rfl rfl (by kernel_rfl) (fun _ _ _ h => h) (Or.inl ⟨by rfl, ?_⟩) ?_ ?_
               rotate_left
               ·intro w'
                go_simp
                with_reducible rfl
               rotate_left
               ·simp only [Act.put, za_, zb_, zc_, i64_w, i32_w]
                rfl
               refine last_ (i := 6) (N := none) #[true, true, true, true, true, true, true] rfl rfl (by kernel_rfl) (by decide) (fun K hK => ?_)
               refine skip_ (w1 := ?_) (by rfl) rfl ?_ ?_
               rotate_left
               ·go_simp
                rfl
               refine hK.out _ _ ?_
               clear hK K
               refine done_ (by kernel_rfl) ?_
               try go_wp2
               (try simp only [← hl548002_1])
               go_roundg k1
               case measure => have := HK1.out; omega
               case rel => exact ⟨(wrap64 (x29_1 + 1)), (y559), (x550000_1), (x550001_1), (by first | rfl | (simp; done) | (simp [*]; done)), H', ⟨by have := HK1.out; omega⟩, ⟨by (try simp only [hl548002_1]); (with_reducible repeat (first | apply Kd.R_alloc | apply Kd.R_drewN | apply Kd.R_drew)); exact Kd.R_mono (ok' := fun k_ => (((P0_2_ k_ ∨ w.heap.size ≤ k_)) ∧ k_ ≠ gb549)) HQ45.out (fun _ hk => ⟨hk.1, hk.2.1⟩)⟩, ⟨by (try simp only [hl548002_1]); (with_reducible repeat (first | refine blk_drewN ?_ _ | refine blk_drew ?_ | refine blk_alloc ?_ _)); refine blk_far ?_ (by have h_ := Kd.R_ne HO_548002.out BK547.out (by decide); intro e_; exact h_ (by rw [e_]; rfl)) _; (with_reducible repeat (first | refine blk_drewN ?_ _ | refine blk_drew ?_ | refine blk_alloc ?_ _)); refine blk_far ?_ (by have h_ := Kd.R_ne HO_548002.out BK547.out (by decide); intro e_; exact h_ (by rw [e_]; rfl)) _; (with_reducible repeat (first | refine blk_drewN ?_ _ | refine blk_drew ?_ | refine blk_alloc ?_ _)); exact BK547.out⟩, ⟨by (try simp only [hl548002_1]); (with_reducible repeat (first | refine blk_drewN ?_ _ | refine blk_drew ?_ | refine blk_alloc ?_ _)); refine blk_far ?_ (by have h_ := Kd.R_away HO_548002.out (fun _ hk => hk.2.1); intro e_; exact h_ (by rw [e_]; rfl)) _; (with_reducible repeat (first | refine blk_drewN ?_ _ | refine blk_drew ?_ | refine blk_alloc ?_ _)); refine blk_far ?_ (by have h_ := Kd.R_away HO_548002.out (fun _ hk => hk.2.1); intro e_; exact h_ (by rw [e_]; rfl)) _; (with_reducible repeat (first | refine blk_drewN ?_ _ | refine blk_drew ?_ | refine blk_alloc ?_ _)); exact BK549.out⟩, ⟨by repeat (first | (with_reducible first | exact HK.out | apply Kept.alloc | apply Kept.drewN | apply Kept.drew | refine Kept.setCell ?_ HMgo36.out _ | refine Kept.setCell ?_ HMgo36.out _ | refine Kept.setCell ?_ (.inr GW547.out) _ | refine Kept.setCell ?_ (.inr GW549.out) _ | refine Kept.setCell ?_ (.inr GW554.out) _) | exact HK.out)⟩, ⟨by repeat (first | (with_reducible first | exact HB.out | apply below_alloc | apply pw_below_drewN | apply below_drew1 | refine below_set ?_ GB36.out | refine below_set ?_ GB36.out | refine below_set ?_ GE547.out | refine below_set ?_ GE549.out | refine below_set ?_ GE554.out) | exact HB.out)⟩⟩
              ·rw [if_neg c34] at H
               have c34b0 : ((rd l1 x29_1) == (rd l1 a2)) = false := beq_eq_false_iff_ne.mpr c34
               have c34b1 : ((rd l1 x29_1) != (rd l1 a2)) = true := bne_iff_ne.mpr c34
               have H' := Aside0.mk H
               clear H
               have p553 : 0 ≤ (x29_1 : Int) := of_decide_eq_true (by first | (with_reducible assumption) | assumption)
               have q553 : x29_1 < (x548002_1.length : Int) := of_decide_eq_true (by first | (with_reducible assumption) | assumption)
               obtain ⟨ad553, e553, hx553_0, hx553_1⟩ := at_T78 (Kd.R_reads' HO_548002.out).2.2 x29_1 p553 q553
               obtain rfl : ad548 = ad553 := (by injection e553)
               replace p553 := eq_true p553
               replace q553 := eq_true q553
               try go_wp2_with (first | ((with_reducible refine gate_dst (N := 8) rfl ?_); refine box_event ?hg (N := 8) ?hd (cs := #[.int .i64 0, .int .i64 0]) (t := 78) ?hr ?_; (case hd => rfl); (case hg => rfl); (case hr => first | (go_simp; done) | (go_simp; rfl)); intro gb554 hg w46 hbox hb; refine ev12 (Kd.R_below (Kd.R_elderB (Kd.R_mv HO_548002.out) gb554 (Nat.le_of_eq hg.symm)) hb) (kb BK547 hb) (kb BK549 hb) (Kept.below (S := (fun k_ => P0_2_ k_)) (km HK) hb) (bs HB hb) (hbox) ((by rw [hg]; exact (by first | exact HK.out.1 | exact (show Kept w _ (fun k_ => P0_2_ k_) from km HK).1) : w.heap.size ≤ gb554)) (gle hg HB) (gnf hg BK547) (gne hg BK547) (gnf hg BK549) (gne hg BK549) ?_; clear HO_548002 BK547 BK549 HK HB; intro HO_548002 BK547 BK549 HK HB BK554 GW554 GE554 NB547_554 NB554_547 NB549_554 NB554_549; clear hb hbox hg; have hnb47 := NB554_547.out; have hnc47 := NB547_554.out; have hnb48 := NB554_549.out; have hnc48 := NB549_554.out; obtain ⟨hcz49_0, hcz49_1, hfz49_0, hfz49_1⟩ := bt2 BK554))
               have n0_ : Aside0 (Kd.R k78 78 ((w46.setCell ⟨gb554, 0, none⟩ (.int .i64 ((rd_T78 x548002_1 x29_1).f0))).setCell ⟨gb554, 1, none⟩ (.int .i64 ((rd_T78 x548002_1 x29_1).f1))) w0.heap.size (fun k_ => (P0_2_ k_ ∨ w.heap.size ≤ k_) ∧ k_ ≠ gb549 ∧ k_ ≠ gb554) (.slice (some ad548) x548002_1.length co20) x548002_1) := ⟨Kd.R_mv (Kd.R_mono (ok' := fun k_ => (((P0_2_ k_ ∨ w.heap.size ≤ k_)) ∧ (k_ ≠ gb549 ∧ k_ ≠ gb554))) (Kd.R_far (p := ⟨gb554, 1, none⟩) (Kd.R_far (p := ⟨gb554, 0, none⟩) (Kd.R_mono HO_548002.out (fun k_ hk => (⟨hk, hk.2⟩ : _ ∧ k_ ≠ gb554))) (fun _ hk => hk.2) (.int .i64 ((rd_T78 x548002_1 x29_1).f0))) (fun _ hk => hk.2) (.int .i64 ((rd_T78 x548002_1 x29_1).f1))) (fun _ hk => ⟨hk.1.1.1, ⟨hk.1.1.2, hk.1.2⟩⟩))⟩
               have n1_ : Aside0 (((w46.setCell ⟨gb554, 0, none⟩ (.int .i64 ((rd_T78 x548002_1 x29_1).f0))).setCell ⟨gb554, 1, none⟩ (.int .i64 ((rd_T78 x548002_1 x29_1).f1))).heap[gb547]? = some (.cells #[.int .i64 a0_0, .int .i64 a0_1, .slice (some ad548) x548002_1.length co20] 48 (0, 0))) := ⟨fp BK547 rfl⟩
               have n2_ : Aside0 (((w46.setCell ⟨gb554, 0, none⟩ (.int .i64 ((rd_T78 x548002_1 x29_1).f0))).setCell ⟨gb554, 1, none⟩ (.int .i64 ((rd_T78 x548002_1 x29_1).f1))).heap[gb549]? = some (.cells #[.int .i64 x550000_1, .int .i64 x550001_1] 78 (0, 0))) := ⟨fp BK549 rfl⟩
               have n3_ : Aside0 (((w46.setCell ⟨gb554, 0, none⟩ (.int .i64 ((rd_T78 x548002_1 x29_1).f0))).setCell ⟨gb554, 1, none⟩ (.int .i64 ((rd_T78 x548002_1 x29_1).f1))).heap[gb554]? = some (.cells #[.int .i64 ((rd_T78 x548002_1 x29_1).f0), .int .i64 ((rd_T78 x548002_1 x29_1).f1)] 78 (0, 0))) := ⟨fp BK554 rfl⟩
               have n4_ : Aside0 (Kept w ((w46.setCell ⟨gb554, 0, none⟩ (.int .i64 ((rd_T78 x548002_1 x29_1).f0))).setCell ⟨gb554, 1, none⟩ (.int .i64 ((rd_T78 x548002_1 x29_1).f1))) (fun k_ => P0_2_ k_)) := ⟨km HK⟩
               have n5_ : Aside0 (Below w0.heap.size w0 ((w46.setCell ⟨gb554, 0, none⟩ (.int .i64 ((rd_T78 x548002_1 x29_1).f0))).setCell ⟨gb554, 1, none⟩ (.int .i64 ((rd_T78 x548002_1 x29_1).f1)))) := ⟨bm HB⟩
               (try clear HO_548002)
               (try clear BK547)
               (try clear BK549)
               (try clear BK554)
               (try clear HK)
               (try clear HB)
               generalize ((w46.setCell ⟨gb554, 0, none⟩ (.int .i64 ((rd_T78 x548002_1 x29_1).f0))).setCell ⟨gb554, 1, none⟩ (.int .i64 ((rd_T78 x548002_1 x29_1).f1))) = w50 at n0_ n1_ n2_ n3_ n4_ n5_ ⊢
               have HO_548002 := n0_
               have BK547 := n1_
               have BK549 := n2_
               have BK554 := n3_
               have HK := n4_
               have HB := n5_
               clear n0_ n1_ n2_ n3_ n4_ n5_
               refine ev6 (Kd.R_drew HO_548002.out) (blk_drew BK547.out) (blk_drew BK549.out) (blk_drew BK554.out) (Kept.drew HK.out) (below_drew1 HB.out) ?_
               clear HO_548002 BK547 BK549 BK554 HK HB
               intro HO_548002 BK547 BK549 BK554 HK HB
               have p555 : 0 ≤ (x29_1 : Int) := of_decide_eq_true (by first | (with_reducible assumption) | assumption)
               have q555 : x29_1 < (l1.length : Int) := of_decide_eq_true (by first | (with_reducible assumption) | assumption)
               obtain ⟨ad555, e555, hx555_0⟩ := Kd.at_int (Kd.C_kept_now HR1.out HK.out) x29_1 p555 q555
               have hw555_0 := hx555_0
               cases e555
               replace p555 := eq_true p555
               replace q555 := eq_true q555
               have p556 : 0 ≤ (a2 : Int) := of_decide_eq_true (by first | (with_reducible assumption) | assumption)
               have q556 : a2 < (l1.length : Int) := of_decide_eq_true (by first | (with_reducible assumption) | assumption)
               obtain ⟨ad556, e556, hx556_0⟩ := Kd.at_int (Kd.C_kept_now HR1.out HK.out) a2 p556 q556
               have hw556_0 := hx556_0
               obtain rfl : ad555 = ad556 := (by injection e556)
               replace p556 := eq_true p556
               replace q556 := eq_true q556
               refine start_ (n := 14) (S := fun w' => w'.cell? ⟨gb554, 0, none⟩ = some (.int .i64 ((rd_T78 x548002_1 x29_1).f0)) ∧ w'.cell? ⟨gb554, 1, none⟩ = some (.int .i64 ((rd_T78 x548002_1 x29_1).f1)) ∧ w'.cell? (ad555.add (x29_1).toNat) = some (.int .i64 (rd l1 x29_1)) ∧ w'.cell? (ad555.add (a2).toNat) = some (.int .i64 (rd l1 a2))) (ds := []) #[false, false, false, false, false, false, false, false, false, false, false, false, false, false] (by kernel_rfl) rfl rfl ⟨(blk_cell BK554.out 0).trans rfl, (blk_cell BK554.out 1).trans rfl, (Kd.foot_int (HR1.out _ (by repeat (first | exact HK.out | apply Kept.alloc | apply Kept.drewN | apply Kept.drew))) x29_1 (of_eq_true p555) (of_eq_true q555)), (Kd.foot_int (HR1.out _ (by repeat (first | exact HK.out | apply Kept.alloc | apply Kept.drewN | apply Kept.drew))) a2 (of_eq_true p556) (of_eq_true q556))⟩ (fun hHeld => ?_); refine with_tabW spec_flPass.tab9 spec_flPass.bits9 (fun HT_ HW_ => ?_)
               generalize w50.drew = w51 at HO_548002 BK547 BK549 BK554 HK HB hx555_0 hx556_0 hHeld ⊢
               refine pure_ (i := 0) (N := some 34) (v := ?_) (a' := ?_) #[true, false, false, false, false, false, false, false, false, false, false, false, false, false] rfl rfl (any_of HT_.out (by kernel_rfl)) (fun _ _ _ h => h) (Or.inl ⟨by rfl, ?_⟩) ?_ ?_
               rotate_left
               ·intro w'
                go_simp
                with_reducible rfl
               rotate_left
               ·simp only [Act.put, za_, zb_, zc_, i64_w, i32_w]
                rfl
               refine take_ (i := 1) (N := some 35) (v := ?_) (a' := ?_) #[true, true, false, false, false, false, false, false, false, false, false, false, false, false] rfl rfl (take_ofW HT_.out HW_.out (by kernel_rfl)) (fun _ _ _ h => h) (Or.inl ⟨by rfl, ?_⟩) hHeld ?_ ?_
               rotate_left
               ·rintro w' ⟨s0, s1, s2, s3⟩
                go_simp
                with_reducible rfl
               rotate_left
               ·simp only [Act.put, za_, zb_, zc_, i64_w, i32_w]
                rfl
               refine pure_ (i := 2) (N := some 36) (v := ?_) (a' := ?_) #[true, true, true, false, false, false, false, false, false, false, false, false, false, false] rfl rfl (any_of HT_.out (by kernel_rfl)) (fun _ _ _ h => h) (Or.inl ⟨by rfl, ?_⟩) ?_ ?_
               rotate_left
               ·intro w'
                go_simp
                with_reducible rfl
               rotate_left
               ·simp only [Act.put, za_, zb_, zc_, i64_w, i32_w]
                rfl
               refine pure_ (i := 3) (N := some 37) (v := ?_) (a' := ?_) #[true, true, true, true, false, false, false, false, false, false, false, false, false, false] rfl rfl (any_of HT_.out (by kernel_rfl)) (fun _ _ _ h => h) (Or.inl ⟨by rfl, ?_⟩) ?_ ?_
               rotate_left
               ·intro w'
                go_simp
                with_reducible rfl
               rotate_left
               ·simp only [Act.put, za_, zb_, zc_, i64_w, i32_w]
                rfl
               refine pure_ (i := 4) (N := some 38) (v := ?_) (a' := ?_) #[true, true, true, true, true, false, false, false, false, false, false, false, false, false] rfl rfl (any_of HT_.out (by kernel_rfl)) (fun _ _ _ h => h) (Or.inl ⟨by rfl, ?_⟩) ?_ ?_
               rotate_left
               ·intro w'
                go_simp
                with_reducible rfl
               rotate_left
               ·simp only [Act.put, za_, zb_, zc_, i64_w, i32_w]
                rfl
               refine pure_ (i := 5) (N := some 39) (v := ?_) (a' := ?_) #[true, true, true, true, true, true, false, false, false, false, false, false, false, false] rfl rfl (any_of HT_.out (by kernel_rfl)) (fun _ _ _ h => h) (Or.inl ⟨by rfl, ?_⟩) ?_ ?_
               rotate_left
               ·intro w'
                go_simp
                with_reducible rfl
               rotate_left
               ·simp only [Act.put, za_, zb_, zc_, i64_w, i32_w]
                rfl
               refine pure_ (i := 6) (N := some 40) (v := ?_) (a' := ?_) #[true, true, true, true, true, true, true, false, false, false, false, false, false, false] rfl rfl (any_of HT_.out (by kernel_rfl)) (fun _ _ _ h => h) (Or.inl ⟨by rfl, ?_⟩) ?_ ?_
               rotate_left
               ·intro w'
                go_simp
                with_reducible rfl
               rotate_left
               ·simp only [Act.put, za_, zb_, zc_, i64_w, i32_w]
                rfl
               refine pure_ (i := 8) (N := some 42) (v := ?_) (a' := ?_) #[true, true, true, true, true, true, true, false, true, false, false, false, false, false] rfl rfl (any_of HT_.out (by kernel_rfl)) (fun _ _ _ h => h) (Or.inl ⟨by rfl, ?_⟩) ?_ ?_
               rotate_left
               ·intro w'
                go_simp
                with_reducible rfl
               rotate_left
               ·simp only [Act.put, za_, zb_, zc_, i64_w, i32_w]
                rfl
               refine pure_ (i := 9) (N := some 43) (v := ?_) (a' := ?_) #[true, true, true, true, true, true, true, false, true, true, false, false, false, false] rfl rfl (any_of HT_.out (by kernel_rfl)) (fun _ _ _ h => h) (Or.inl ⟨by rfl, ?_⟩) ?_ ?_
               rotate_left
               ·intro w'
                go_simp
                with_reducible rfl
               rotate_left
               ·simp only [Act.put, za_, zb_, zc_, i64_w, i32_w]
                rfl
               refine pure_ (i := 10) (N := some 44) (v := ?_) (a' := ?_) #[true, true, true, true, true, true, true, false, true, true, true, false, false, false] rfl rfl (any_of HT_.out (by kernel_rfl)) (fun _ _ _ h => h) (Or.inl ⟨by rfl, ?_⟩) ?_ ?_
               rotate_left
               ·intro w'
                go_simp
                with_reducible rfl
               rotate_left
               ·simp only [Act.put, za_, zb_, zc_, i64_w, i32_w]
                rfl
               refine take_ (i := 7) (N := some 41) (v := ?_) (a' := ?_) #[true, true, true, true, true, true, true, true, true, true, true, false, false, false] rfl rfl (take_ofW HT_.out HW_.out (by kernel_rfl)) (fun _ _ _ h => h) (Or.inl ⟨by rfl, ?_⟩) hHeld ?_ ?_
               rotate_left
               ·rintro w' ⟨s0, s1, s2, s3⟩
                go_simp
                with_reducible rfl
               rotate_left
               ·simp only [Act.put, za_, zb_, zc_, i64_w, i32_w]
                rfl
               refine take_ (i := 11) (N := some 45) (v := ?_) (a' := ?_) #[true, true, true, true, true, true, true, true, true, true, true, true, false, false] rfl rfl (take_ofW HT_.out HW_.out (by kernel_rfl)) (fun _ _ _ h => h) (Or.inl ⟨by rfl, ?_⟩) hHeld ?_ ?_
               rotate_left
               ·rintro w' ⟨s0, s1, s2, s3⟩
                go_simp
                with_reducible rfl
               rotate_left
               ·simp only [Act.put, za_, zb_, zc_, i64_w, i32_w]
                rfl
               refine pure_ (i := 12) (N := some 46) (v := ?_) (a' := ?_) #[true, true, true, true, true, true, true, true, true, true, true, true, true, false] rfl rfl (any_of HT_.out (by kernel_rfl)) (fun _ _ _ h => h) (Or.inl ⟨by rfl, ?_⟩) ?_ ?_
               rotate_left
               ·intro w'
                go_simp
                with_reducible rfl
               rotate_left
               ·simp only [Act.put, za_, zb_, zc_, i64_w, i32_w]
                rfl
               refine pure_ (i := 13) (N := some 47) (v := ?_) (a' := ?_) #[true, true, true, true, true, true, true, true, true, true, true, true, true, true] rfl rfl (any_of HT_.out (by kernel_rfl)) (fun _ _ _ h => h) (Or.inl ⟨by rfl, ?_⟩) ?_ ?_
               rotate_left
               ·intro w'
                go_simp
                with_reducible rfl
               rotate_left
               ·simp only [Act.put, za_, zb_, zc_, i64_w, i32_w]
                rfl
               refine done_ (done_of HT_.out (by kernel_rfl)) ?_
               try go_wp2
               (try simp only [← hl548002_1])
               go_roundg k1
               case measure => have := HK1.out; omega
               case rel => exact ⟨(wrap64 (x29_1 + 1)), (x548002_1), (x550000_1), (x550001_1), (by first | rfl | (simp; done) | (simp [*]; done)), H', ⟨by have := HK1.out; omega⟩, ⟨by (try simp only [hl548002_1]); exact Kd.R_mv (Kd.R_mono (ok' := fun k_ => (((P0_2_ k_ ∨ w.heap.size ≤ k_)) ∧ k_ ≠ gb549)) HO_548002.out (fun _ hk => ⟨hk.1, hk.2.1⟩))⟩, ⟨by (try simp only [hl548002_1]); exact km_ BK547⟩, ⟨by (try simp only [hl548002_1]); exact km_ BK549⟩, ⟨km HK⟩, ⟨bm HB⟩⟩
             ·rw [if_neg c33] at H
              exact absurd H (by simp)
            ·rw [if_neg c32] at H
             exact absurd H (by simp)
           ·rw [if_neg c31] at H
            exact absurd H (by simp)
          ·rw [if_neg c30] at H
           have c30b0 : (((rd_T78 x548002_1 x29_1).f0) == 6) = false := beq_eq_false_iff_ne.mpr c30
           have c30b1 : (((rd_T78 x548002_1 x29_1).f0) != 6) = true := bne_iff_ne.mpr c30
           have H' := Aside0.mk H
           clear H
           have p553 : 0 ≤ (x29_1 : Int) := of_decide_eq_true (by first | (with_reducible assumption) | assumption)
           have q553 : x29_1 < (x548002_1.length : Int) := of_decide_eq_true (by first | (with_reducible assumption) | assumption)
           obtain ⟨ad553, e553, hx553_0, hx553_1⟩ := at_T78 (Kd.R_reads' HO_548002.out).2.2 x29_1 p553 q553
           obtain rfl : ad548 = ad553 := (by injection e553)
           replace p553 := eq_true p553
           replace q553 := eq_true q553
           try go_wp2_with (first | ((with_reducible refine gate_dst (N := 8) rfl ?_); refine box_event ?hg (N := 8) ?hd (cs := #[.int .i64 0, .int .i64 0]) (t := 78) ?hr ?_; (case hd => rfl); (case hg => rfl); (case hr => first | (go_simp; done) | (go_simp; rfl)); intro gb554 hg w52 hbox hb; refine ev12 (Kd.R_below (Kd.R_elderB (Kd.R_mv HO_548002.out) gb554 (Nat.le_of_eq hg.symm)) hb) (kb BK547 hb) (kb BK549 hb) (Kept.below (S := (fun k_ => P0_2_ k_)) (km HK) hb) (bs HB hb) (hbox) ((by rw [hg]; exact (by first | exact HK.out.1 | exact (show Kept w _ (fun k_ => P0_2_ k_) from km HK).1) : w.heap.size ≤ gb554)) (gle hg HB) (gnf hg BK547) (gne hg BK547) (gnf hg BK549) (gne hg BK549) ?_; clear HO_548002 BK547 BK549 HK HB; intro HO_548002 BK547 BK549 HK HB BK554 GW554 GE554 NB547_554 NB554_547 NB549_554 NB554_549; clear hb hbox hg; have hnb53 := NB554_547.out; have hnc53 := NB547_554.out; have hnb54 := NB554_549.out; have hnc54 := NB549_554.out; obtain ⟨hcz55_0, hcz55_1, hfz55_0, hfz55_1⟩ := bt2 BK554))
           have n0_ : Aside0 (Kd.R k78 78 ((w52.setCell ⟨gb554, 0, none⟩ (.int .i64 ((rd_T78 x548002_1 x29_1).f0))).setCell ⟨gb554, 1, none⟩ (.int .i64 ((rd_T78 x548002_1 x29_1).f1))) w0.heap.size (fun k_ => (P0_2_ k_ ∨ w.heap.size ≤ k_) ∧ k_ ≠ gb549 ∧ k_ ≠ gb554) (.slice (some ad548) x548002_1.length co20) x548002_1) := ⟨Kd.R_mv (Kd.R_mono (ok' := fun k_ => (((P0_2_ k_ ∨ w.heap.size ≤ k_)) ∧ (k_ ≠ gb549 ∧ k_ ≠ gb554))) (Kd.R_far (p := ⟨gb554, 1, none⟩) (Kd.R_far (p := ⟨gb554, 0, none⟩) (Kd.R_mono HO_548002.out (fun k_ hk => (⟨hk, hk.2⟩ : _ ∧ k_ ≠ gb554))) (fun _ hk => hk.2) (.int .i64 ((rd_T78 x548002_1 x29_1).f0))) (fun _ hk => hk.2) (.int .i64 ((rd_T78 x548002_1 x29_1).f1))) (fun _ hk => ⟨hk.1.1.1, ⟨hk.1.1.2, hk.1.2⟩⟩))⟩
           have n1_ : Aside0 (((w52.setCell ⟨gb554, 0, none⟩ (.int .i64 ((rd_T78 x548002_1 x29_1).f0))).setCell ⟨gb554, 1, none⟩ (.int .i64 ((rd_T78 x548002_1 x29_1).f1))).heap[gb547]? = some (.cells #[.int .i64 a0_0, .int .i64 a0_1, .slice (some ad548) x548002_1.length co20] 48 (0, 0))) := ⟨fp BK547 rfl⟩
           have n2_ : Aside0 (((w52.setCell ⟨gb554, 0, none⟩ (.int .i64 ((rd_T78 x548002_1 x29_1).f0))).setCell ⟨gb554, 1, none⟩ (.int .i64 ((rd_T78 x548002_1 x29_1).f1))).heap[gb549]? = some (.cells #[.int .i64 x550000_1, .int .i64 x550001_1] 78 (0, 0))) := ⟨fp BK549 rfl⟩
           have n3_ : Aside0 (((w52.setCell ⟨gb554, 0, none⟩ (.int .i64 ((rd_T78 x548002_1 x29_1).f0))).setCell ⟨gb554, 1, none⟩ (.int .i64 ((rd_T78 x548002_1 x29_1).f1))).heap[gb554]? = some (.cells #[.int .i64 ((rd_T78 x548002_1 x29_1).f0), .int .i64 ((rd_T78 x548002_1 x29_1).f1)] 78 (0, 0))) := ⟨fp BK554 rfl⟩
           have n4_ : Aside0 (Kept w ((w52.setCell ⟨gb554, 0, none⟩ (.int .i64 ((rd_T78 x548002_1 x29_1).f0))).setCell ⟨gb554, 1, none⟩ (.int .i64 ((rd_T78 x548002_1 x29_1).f1))) (fun k_ => P0_2_ k_)) := ⟨km HK⟩
           have n5_ : Aside0 (Below w0.heap.size w0 ((w52.setCell ⟨gb554, 0, none⟩ (.int .i64 ((rd_T78 x548002_1 x29_1).f0))).setCell ⟨gb554, 1, none⟩ (.int .i64 ((rd_T78 x548002_1 x29_1).f1)))) := ⟨bm HB⟩
           (try clear HO_548002)
           (try clear BK547)
           (try clear BK549)
           (try clear BK554)
           (try clear HK)
           (try clear HB)
           generalize ((w52.setCell ⟨gb554, 0, none⟩ (.int .i64 ((rd_T78 x548002_1 x29_1).f0))).setCell ⟨gb554, 1, none⟩ (.int .i64 ((rd_T78 x548002_1 x29_1).f1))) = w56 at n0_ n1_ n2_ n3_ n4_ n5_ ⊢
           have HO_548002 := n0_
           have BK547 := n1_
           have BK549 := n2_
           have BK554 := n3_
           have HK := n4_
           have HB := n5_
           clear n0_ n1_ n2_ n3_ n4_ n5_
           refine ev6 (Kd.R_drew HO_548002.out) (blk_drew BK547.out) (blk_drew BK549.out) (blk_drew BK554.out) (Kept.drew HK.out) (below_drew1 HB.out) ?_
           clear HO_548002 BK547 BK549 BK554 HK HB
           intro HO_548002 BK547 BK549 BK554 HK HB
           refine start_ (n := 14) (S := fun w' => w'.cell? ⟨gb554, 0, none⟩ = some (.int .i64 ((rd_T78 x548002_1 x29_1).f0)) ∧ w'.cell? ⟨gb554, 1, none⟩ = some (.int .i64 ((rd_T78 x548002_1 x29_1).f1))) (ds := []) #[false, false, false, false, false, false, false, false, false, false, false, false, false, false] (by kernel_rfl) rfl rfl ⟨(blk_cell BK554.out 0).trans rfl, (blk_cell BK554.out 1).trans rfl⟩ (fun hHeld => ?_); refine with_tabW spec_flPass.tab9 spec_flPass.bits9 (fun HT_ HW_ => ?_)
           generalize w56.drew = w57 at HO_548002 BK547 BK549 BK554 HK HB hHeld ⊢
           refine pure_ (i := 0) (N := some 34) (v := ?_) (a' := ?_) #[true, false, false, false, false, false, false, false, false, false, false, false, false, false] rfl rfl (any_of HT_.out (by kernel_rfl)) (fun _ _ _ h => h) (Or.inl ⟨by rfl, ?_⟩) ?_ ?_
           rotate_left
           ·intro w'
            go_simp
            with_reducible rfl
           rotate_left
           ·simp only [Act.put, za_, zb_, zc_, i64_w, i32_w]
            rfl
           refine take_ (i := 1) (N := some 35) (v := ?_) (a' := ?_) #[true, true, false, false, false, false, false, false, false, false, false, false, false, false] rfl rfl (take_ofW HT_.out HW_.out (by kernel_rfl)) (fun _ _ _ h => h) (Or.inl ⟨by rfl, ?_⟩) hHeld ?_ ?_
           rotate_left
           ·rintro w' ⟨s0, s1⟩
            go_simp
            with_reducible rfl
           rotate_left
           ·simp only [Act.put, za_, zb_, zc_, i64_w, i32_w]
            rfl
           refine pure_ (i := 2) (N := some 36) (v := ?_) (a' := ?_) #[true, true, true, false, false, false, false, false, false, false, false, false, false, false] rfl rfl (any_of HT_.out (by kernel_rfl)) (fun _ _ _ h => h) (Or.inl ⟨by rfl, ?_⟩) ?_ ?_
           rotate_left
           ·intro w'
            go_simp
            with_reducible rfl
           rotate_left
           ·simp only [Act.put, za_, zb_, zc_, i64_w, i32_w]
            rfl
           refine pure_ (i := 3) (N := some 37) (v := ?_) (a' := ?_) #[true, true, true, true, false, false, false, false, false, false, false, false, false, false] rfl rfl (any_of HT_.out (by kernel_rfl)) (fun _ _ _ h => h) (Or.inl ⟨by rfl, ?_⟩) ?_ ?_
           rotate_left
           ·intro w'
            go_simp
            with_reducible rfl
           rotate_left
           ·simp only [Act.put, za_, zb_, zc_, i64_w, i32_w]
            rfl
           refine pure_ (i := 4) (N := some 38) (v := undef) (a' := ?_) #[true, true, true, true, true, false, false, false, false, false, false, false, false, false] rfl rfl (any_of HT_.out (by kernel_rfl)) (fun _ _ _ h => h) (Or.inr ⟨by rfl, rfl⟩) ?_ ?_
           rotate_left
           ·simp only [Act.put, za_, zb_, zc_, i64_w, i32_w]
            rfl
           refine pure_ (i := 5) (N := some 39) (v := undef) (a' := ?_) #[true, true, true, true, true, true, false, false, false, false, false, false, false, false] rfl rfl (any_of HT_.out (by kernel_rfl)) (fun _ _ _ h => h) (Or.inr ⟨by rfl, rfl⟩) ?_ ?_
           rotate_left
           ·simp only [Act.put, za_, zb_, zc_, i64_w, i32_w]
            rfl
           refine pure_ (i := 6) (N := some 40) (v := undef) (a' := ?_) #[true, true, true, true, true, true, true, false, false, false, false, false, false, false] rfl rfl (any_of HT_.out (by kernel_rfl)) (fun _ _ _ h => h) (Or.inr ⟨by rfl, rfl⟩) ?_ ?_
           rotate_left
           ·simp only [Act.put, za_, zb_, zc_, i64_w, i32_w]
            rfl
           refine pure_ (i := 7) (N := some 41) (v := undef) (a' := ?_) #[true, true, true, true, true, true, true, true, false, false, false, false, false, false] rfl rfl (any_of HT_.out (by kernel_rfl)) (fun _ _ _ h => h) (Or.inr ⟨by rfl, rfl⟩) ?_ ?_
           rotate_left
           ·simp only [Act.put, za_, zb_, zc_, i64_w, i32_w]
            rfl
           refine pure_ (i := 8) (N := some 42) (v := undef) (a' := ?_) #[true, true, true, true, true, true, true, true, true, false, false, false, false, false] rfl rfl (any_of HT_.out (by kernel_rfl)) (fun _ _ _ h => h) (Or.inr ⟨by rfl, rfl⟩) ?_ ?_
           rotate_left
           ·simp only [Act.put, za_, zb_, zc_, i64_w, i32_w]
            rfl
           refine pure_ (i := 9) (N := some 43) (v := undef) (a' := ?_) #[true, true, true, true, true, true, true, true, true, true, false, false, false, false] rfl rfl (any_of HT_.out (by kernel_rfl)) (fun _ _ _ h => h) (Or.inr ⟨by rfl, rfl⟩) ?_ ?_
           rotate_left
           ·simp only [Act.put, za_, zb_, zc_, i64_w, i32_w]
            rfl
           refine pure_ (i := 10) (N := some 44) (v := undef) (a' := ?_) #[true, true, true, true, true, true, true, true, true, true, true, false, false, false] rfl rfl (any_of HT_.out (by kernel_rfl)) (fun _ _ _ h => h) (Or.inr ⟨by rfl, rfl⟩) ?_ ?_
           rotate_left
           ·simp only [Act.put, za_, zb_, zc_, i64_w, i32_w]
            rfl
           refine pure_ (i := 11) (N := some 45) (v := undef) (a' := ?_) #[true, true, true, true, true, true, true, true, true, true, true, true, false, false] rfl rfl (any_of HT_.out (by kernel_rfl)) (fun _ _ _ h => h) (Or.inr ⟨by rfl, rfl⟩) ?_ ?_
           rotate_left
           ·simp only [Act.put, za_, zb_, zc_, i64_w, i32_w]
            rfl
           refine pure_ (i := 12) (N := some 46) (v := undef) (a' := ?_) #[true, true, true, true, true, true, true, true, true, true, true, true, true, false] rfl rfl (any_of HT_.out (by kernel_rfl)) (fun _ _ _ h => h) (Or.inr ⟨by rfl, rfl⟩) ?_ ?_
           rotate_left
           ·simp only [Act.put, za_, zb_, zc_, i64_w, i32_w]
            rfl
           refine pure_ (i := 13) (N := some 47) (v := ?_) (a' := ?_) #[true, true, true, true, true, true, true, true, true, true, true, true, true, true] rfl rfl (any_of HT_.out (by kernel_rfl)) (fun _ _ _ h => h) (Or.inl ⟨by rfl, ?_⟩) ?_ ?_
           rotate_left
           ·intro w'
            go_simp
            with_reducible rfl
           rotate_left
           ·simp only [Act.put, za_, zb_, zc_, i64_w, i32_w]
            rfl
           refine done_ (done_of HT_.out (by kernel_rfl)) ?_
           try go_wp2
           (try simp only [← hl548002_1])
           go_roundg k1
           case measure => have := HK1.out; omega
           case rel => exact ⟨(wrap64 (x29_1 + 1)), (x548002_1), (x550000_1), (x550001_1), (by first | rfl | (simp; done) | (simp [*]; done)), H', ⟨by have := HK1.out; omega⟩, ⟨by (try simp only [hl548002_1]); exact Kd.R_mv (Kd.R_mono (ok' := fun k_ => (((P0_2_ k_ ∨ w.heap.size ≤ k_)) ∧ k_ ≠ gb549)) HO_548002.out (fun _ hk => ⟨hk.1, hk.2.1⟩))⟩, ⟨by (try simp only [hl548002_1]); exact km_ BK547⟩, ⟨by (try simp only [hl548002_1]); exact km_ BK549⟩, ⟨km HK⟩, ⟨bm HB⟩⟩
         ·rw [if_neg c29] at H
          exact absurd H (by simp)
        ·rw [if_neg c28] at H
         exact absurd H (by simp)
       ·rw [if_neg c27] at H
        have c27b0 : decide (x29_1 < (l0_2.length : Int)) = false := decide_eq_false c27
        (try simp only [hl548002_1] at c27b0)
        clear c27
        obtain rfl := Option.some.inj H
        go_wp2
        first | go_end0 | ((try simp only [Exit.inBlock, Exit.then]); refine bodyPost_ret (results_none rfl _ _ _) rfl ?_)
        exact ⟨by first | rfl | (simp [e0_, e1_] <;> rfl) | (simp [*, e0_, e1_] <;> rfl), (by first | exact (Kd.R_mv (Kd.R_mono (ok' := fun k_ => ((P0_2_ k_ ∨ w.heap.size ≤ k_))) HO_548002.out (fun _ hk => hk.1))) | (simp only [hl548002_1]; exact (Kd.R_mv (Kd.R_mono (ok' := fun k_ => ((P0_2_ k_ ∨ w.heap.size ≤ k_))) HO_548002.out (fun _ hk => hk.1))))), bm HB, km HK⟩
    ·rw [if_neg c19] at H
     have c19b0 : (((rd_T78 l0_2 a2).f0) == 6) = false := beq_eq_false_iff_ne.mpr c19
     have c19b1 : (((rd_T78 l0_2 a2).f0) != 6) = true := bne_iff_ne.mpr c19
     obtain rfl := Option.some.inj H
     obtain ⟨Ao58, co58, eo58⟩ := Kd.R_slice HO0_2.out
     subst eo58
     go_enter Try.func130, Try.ntmps130
     go_wp2_with (first | ((with_reducible refine gate_dst (N := 3) rfl ?_); refine box_event ?hg (N := 3) ?hd (cs := #[.int .i64 a0_0, .int .i64 a0_1, .slice Ao58 l0_2.length co58]) (t := 48) ?hr ?_; (case hd => rfl); (case hg => rfl); (case hr => first | (go_simp; done) | (go_simp; rfl)); intro gb547 hg w59 hbox hb; refine ev6 (Kd.R_below (Kd.R_mv HO0_2.out) hb) (Kept.below (S := (fun k_ => P0_2_ k_)) (km HK) hb) (bs HB hb) (hbox) ((by rw [hg]; exact (by first | exact HK.out.1 | exact (show Kept w _ (fun k_ => P0_2_ k_) from km HK).1) : w.heap.size ≤ gb547)) (gle hg HB) ?_; clear HO0_2 HK HB; intro HO0_2 HK HB BK547 GW547 GE547; clear hb hbox hg; obtain ⟨hcz60_0, hcz60_1, hcz60_2, hfz60_0, hfz60_1, hfz60_2⟩ := bt3 BK547; have p548 : 0 ≤ (a2 : Int) := of_decide_eq_true (by first | (with_reducible assumption) | assumption); have q548 : a2 < (l0_2.length : Int) := of_decide_eq_true (by first | (with_reducible assumption) | assumption); obtain ⟨ad548, e548, hx548_0, hx548_1⟩ := at_T78 (Kd.R_reads' HO0_2.out).2.2 a2 p548 q548; cases e548; replace p548 := eq_true p548; replace q548 := eq_true q548) | ((with_reducible refine gate_dst (N := 6) rfl ?_); refine box_event ?hg (N := 6) ?hd (cs := #[.int .i64 0, .int .i64 0]) (t := 78) ?hr ?_; (case hd => rfl); (case hg => rfl); (case hr => first | (go_simp; done) | (go_simp; rfl)); intro gb549 hg w61 hbox hb; refine ev9 (Kd.R_below (Kd.R_elderB (Kd.R_mv HO0_2.out) gb549 (Nat.le_of_eq hg.symm)) hb) (kb BK547 hb) (Kept.below (S := (fun k_ => P0_2_ k_)) (km HK) hb) (bs HB hb) (hbox) ((by rw [hg]; exact (by first | exact HK.out.1 | exact (show Kept w _ (fun k_ => P0_2_ k_) from km HK).1) : w.heap.size ≤ gb549)) (gle hg HB) (gnf hg BK547) (gne hg BK547) ?_; clear HO0_2 BK547 HK HB; intro HO0_2 BK547 HK HB BK549 GW549 GE549 NB547_549 NB549_547; clear hb hbox hg; have hnb62 := NB549_547.out; have hnc62 := NB547_549.out; obtain ⟨hcz63_0, hcz63_1, hfz63_0, hfz63_1⟩ := bt2 BK549))
     first | go_end0 | ((try simp only [Exit.inBlock, Exit.then]); refine bodyPost_ret (results_none rfl _ _ _) rfl ?_)
     exact ⟨by first | rfl | (simp [e0_, e1_] <;> rfl) | (simp [*, e0_, e1_] <;> rfl), Kd.R_mv (Kd.R_mono (ok' := fun k_ => ((P0_2_ k_ ∨ w.heap.size ≤ k_))) (Kd.R_far (p := ⟨gb549, 1, none⟩) (Kd.R_far (p := ⟨gb549, 0, none⟩) (Kd.R_mono HO0_2.out (fun k_ hk => (⟨hk, hk.2⟩ : _ ∧ k_ ≠ gb549))) (fun _ hk => hk.2) (.int .i64 ((rd_T78 l0_2 a2).f0))) (fun _ hk => hk.2) (.int .i64 ((rd_T78 l0_2 a2).f1))) (fun _ hk => hk.1.1)), bm HB, km HK⟩
  ·rw [if_neg c5] at H
   exact absurd H (by simp)
 ·rw [if_neg c4] at H
  exact absurd H (by simp)

/-! ### spec_flGo: function 112 -/
def spec_flGo.l0 : Nat → List Int → Int → List (List Int) → Int → Int → Int → Int → List (S78) → Int → Int → List (S78) → Option (Int × Int × Int × Int × Int × (List (S78)) × (List (List Int)))
 | 0, _, _, _, _, _, _, _, _, _, _, _ => none
 | k + 1, x1, x2, x10, x11, x12, x561000, x561001, x561002, x569000, x569001, x569002 => if x12 < x561000 then (if x10.length < 5864062014805 then ((some (x10 ++ [(([x12, x2] : List Int))] : List (List Int))).bind fun y572 => ((spec_boAt.f x569000 x569001 x569002 x12 x2).bind fun bt575 => (if bt575.1 = 5 then (some (2, x12, x2, x569000, x569001, x569002, y572)) else ((spec_paGoes.f k bt575.1 bt575.2 x11).bind fun t578 => ((spec_flPass.f k x569000 x569001 x569002 x1 (wrap64 ((wrap64 (x12 * x561001)) + x2))).bind fun t579 => ((spec_l1In.f (wrap64 (x2 + t578)) 0 (wrap64 (x561001 - 1))).bind fun t580 => (if t580 = true then (spec_flGo.l0 k x1 (wrap64 (x2 + t578)) y572 (wrap64 (-t578)) (wrap64 (x12 + 1)) x561000 x561001 x561002 x569000 x569001 t579) else (some (3, x12, wrap64 (x2 + t578), x569000, x569001, t579, y572))))))))) else (none)) else (some (1, x561000, x2, x569000, x569001, x569002, x10))
def spec_flGo.f (k : Nat) (a0_0 : Int) (a0_1 : Int) (l0_2 : List (S78)) (l1 : List Int) (a2 : Int) : Option (Int × Int × Int × Int × Int × (List (S78)) × (List (List Int))) := (spec_boOwn.f a0_0 a0_1 l0_2).bind fun bt563 => (spec_flGo.l0 k l1 a2 ([] : List (List Int)) 0 0 a0_0 a0_1 l0_2 bt563.1 bt563.2.1 bt563.2.2)
def spec_flGo.T10 : Bool × List (List Nat × List Nat) := (true, [([], []), ([], []), ([0, 1], [0, 1]), ([], []), ([], []), ([2, 0, 1, 2], [2]), ([3, 5, 0, 1, 2, 3, 5], [3]), ([4, 6, 0, 1, 2, 3, 4, 5, 6], [4])])
def spec_flGo.B10 : List Nat := [0, 0, 3, 0, 0, 7, 47, 127]
theorem spec_flGo.tab10 : rtab .any (opsOf Try.f112 10) = spec_flGo.T10 := by kernel_rfl
theorem spec_flGo.bits10 : waitsOk spec_flGo.T10.2 spec_flGo.B10 = true := by kernel_rfl
def spec_flGo.T16 : Bool × List (List Nat × List Nat) := (true, [([], []), ([], []), ([0, 1], [0, 1]), ([], []), ([], []), ([2, 0, 1, 2], [2]), ([3, 5, 0, 1, 2, 3, 5], [3]), ([4, 6, 0, 1, 2, 3, 4, 5, 6], [4])])
def spec_flGo.B16 : List Nat := [0, 0, 3, 0, 0, 7, 47, 127]
theorem spec_flGo.tab16 : rtab .any (opsOf Try.f112 16) = spec_flGo.T16 := by kernel_rfl
theorem spec_flGo.bits16 : waitsOk spec_flGo.T16.2 spec_flGo.B16 = true := by kernel_rfl
def spec_flGo.T17 : Bool × List (List Nat × List Nat) := (true, [([], []), ([0], [0]), ([], []), ([1, 2], [1, 2]), ([], []), ([], []), ([3, 0, 1, 2, 3], [3]), ([4, 6, 0, 1, 2, 3, 4, 6], [4]), ([5, 7, 0, 1, 2, 3, 4, 5, 6, 7], [5])])
def spec_flGo.B17 : List Nat := [0, 1, 0, 7, 0, 0, 15, 95, 255]
theorem spec_flGo.tab17 : rtab .any (opsOf Try.f112 17) = spec_flGo.T17 := by kernel_rfl
theorem spec_flGo.bits17 : waitsOk spec_flGo.T17.2 spec_flGo.B17 = true := by kernel_rfl
set_option maxHeartbeats 8000000 in
set_option maxRecDepth 100000 in
theorem spec_flGo.calls (k : Nat) (a0_0 : Int) (a0_1 : Int) (A0_2 : Option Addr) (c0_2 : Nat) (l0_2 : List (S78)) (A1 : Option Addr) (c1 : Nat) (l1 : List Int) (a2 : Int) (r1 : Int) (r2 : Int) (r3 : Int) (r4 : Int) (r5 : Int) (r6 : List (S78)) (r7 : List (List Int)) (w : World) (hr0_2 : Kd.C k78 w A0_2 l0_2.length l0_2) (hc0_2 : l0_2.length ≤ c0_2) (hr1 : Kd.C (Kd.int .i64) w A1 l1.length l1) (hc1 : l1.length ≤ c1) (h : spec_flGo.f k a0_0 a0_1 l0_2 l1 a2 = some (r1, r2, r3, r4, r5, r6, r7)) :
  Calls Try.prog 112 #[.agg #[.int .i64 a0_0, .int .i64 a0_1, .slice A0_2 l0_2.length c0_2], .slice A1 l1.length c1, .int .i64 a2] w fun e w' => ∃ v5_ v6_ : Value, e = .returned (.tuple #[.agg #[.int .i64 r1, .int .i64 r2, .int .i64 r3], .agg #[.int .i64 r4, .int .i64 r5, v5_], v6_]) ∧ Kd.R k78 78 w' w.heap.size (fun _ => True) v5_ r6 ∧ Kd.S (Kd.slice 3 (Kd.int .i64)) 22 w' w.heap.size (fun _ => True) v6_ r7 ∧ Below w.heap.size w w' := by
 have HR0_2 := Aside0.mk hr0_2
 have HC0_2 := Aside0.mk hc0_2
 clear hr0_2 hc0_2
 have HR1 := Aside0.mk hr1
 have HC1 := Aside0.mk hc1
 clear hr1 hc1
 have HB := Aside0.mk (Below.refl w.heap.size w)
 have H : ((spec_boOwn.f a0_0 a0_1 l0_2).bind fun bt563 => (spec_flGo.l0 k l1 a2 ([] : List (List Int)) 0 0 a0_0 a0_1 l0_2 bt563.1 bt563.2.1 bt563.2.2)) = some (r1, r2, r3, r4, r5, r6, r7) := h
 clear h
 replace H := Option.bind_eq_some_iff.mp H
 obtain ⟨⟨t563, t564, t565⟩, A40, H⟩ := H
 replace H : (spec_flGo.l0 k l1 a2 ([] : List (List Int)) 0 0 a0_0 a0_1 l0_2 t563 t564 t565) = some (r1, r2, r3, r4, r5, r6, r7) := H
 have A4 := Aside0.mk A40
 clear A40
 have H' := Aside0.mk H
 clear H
 go_enter Try.func112, Try.ntmps112
 go_wp2_with (first | ((with_reducible refine gate_dst (N := 3) rfl ?_); refine box_event ?hg (N := 3) ?hd (cs := #[.int .i64 a0_0, .int .i64 a0_1, .slice A0_2 l0_2.length c0_2]) (t := 48) ?hr ?_; (case hd => rfl); (case hg => rfl); (case hr => first | (go_simp; done) | (go_simp; rfl)); intro gb560 hg w5 hbox hb; refine ev4 (bs HB hb) (hbox) (gle hg HB) (gle hg HB) ?_; clear HB; intro HB BK560 GW560 GE560; clear hb hbox hg) | ((with_reducible refine gate_dst (N := 6) rfl ?_); refine box_event ?hg (N := 6) ?hd (cs := #[.int .i64 0, .int .i64 0, .int .i64 0]) (t := 90) ?hr ?_; (case hd => rfl); (case hg => rfl); (case hr => first | (go_simp; done) | (go_simp; rfl)); intro gb561 hg w6 hbox hb; refine ev7 (kb BK560 hb) (bs HB hb) (hbox) (gle hg HB) (gle hg HB) (gnf hg BK560) (gne hg BK560) ?_; clear BK560 HB; intro BK560 HB BK561 GW561 GE561 NB560_561 NB561_560; clear hb hbox hg) | ((with_reducible refine gate_dst (N := 7) rfl ?_); refine box_event ?hg (N := 7) ?hd (cs := #[.int .i64 0, .int .i64 0, .slice none 0 0]) (t := 48) ?hr ?_; (case hd => rfl); (case hg => rfl); (case hr => first | (go_simp; done) | (go_simp; rfl)); intro gb562 hg w7 hbox hb; refine ev10 (kb BK560 hb) (kb BK561 hb) (bs HB hb) (hbox) (gle hg HB) (gle hg HB) (gnf hg BK560) (gne hg BK560) (gnf hg BK561) (gne hg BK561) ?_; clear BK560 BK561 HB; intro BK560 BK561 HB BK562 GW562 GE562 NB560_562 NB562_560 NB561_562 NB562_561; clear hb hbox hg; have hnb8 := NB560_561.out; have hnc8 := NB561_560.out; have hnb9 := NB560_562.out; have hnc9 := NB562_560.out; obtain ⟨hcz10_0, hcz10_1, hcz10_2, hfz10_0, hfz10_1, hfz10_2⟩ := bt3 BK560) | ((with_reducible refine gate_callee (f := 88) rfl ?_); refine goesL_ (some 16) rfl rfl Try.func88 (by kernel_rfl) rfl #[.agg #[.int .i64 a0_0, .int .i64 a0_1, .slice A0_2 l0_2.length c0_2]] rfl (by (try simp only [ma_, mb_, mc_]); first | done | rfl | (simp only [List.length_drop, List.length_take]; rfl)) ?_; (with_reducible refine (spec_boOwn.calls a0_0 a0_1 _ _ l0_2 t563 t564 t565 _ (Kd.C_mv (Kd.C_below HR0_2.out HB.out)) HC0_2.out A4.out).mono ?_); rintro e w11 ⟨v566, rfl, ho0, hb⟩; refine ⟨_, rfl, ?_⟩; refine ev5 (Kd.R_lower ho0 (below_size (bm HB))) (kb BK560 hb) (kb BK561 hb) (kb BK562 hb) (bs HB hb) ?_; clear BK560 BK561 BK562 HB; intro HO567 BK560 BK561 BK562 HB; (try clear hb); (try clear hb2); (try clear hk); (try clear hi); (try clear ho0)) | ((with_reducible refine gate_dst (N := 9) rfl ?_); refine box_event ?hg (N := 9) ?hd (cs := #[.int .i64 0, .int .i64 0, .slice none 0 0]) (t := 48) ?hr ?_; (case hd => rfl); (case hg => rfl); (case hr => first | (go_simp; done) | (go_simp; rfl)); intro gb568 hg w12 hbox hb; refine ev12 (Kd.R_below (Kd.R_mv HO567.out) hb) (kb BK560 hb) (kb BK561 hb) (kb BK562 hb) (bs HB hb) (hbox) (gle hg HB) (gle hg HB) (gnf hg BK560) (gne hg BK560) (gnf hg BK561) (gne hg BK561) ?_; intro n0_ n1_ n2_ n3_ n4_ n5_ n6_ n7_ n8_ n9_ n10_ n11_; refine ev2 (gnf hg BK562) (gne hg BK562) ?_; intro n12_ n13_; clear HO567 BK560 BK561 BK562 HB; revert n0_ n1_ n2_ n3_ n4_ n5_ n6_ n7_ n8_ n9_ n10_ n11_ n12_ n13_; intro HO567 BK560 BK561 BK562 HB BK568 GW568 GE568 NB560_568 NB568_560 NB561_568 NB568_561 NB562_568 NB568_562; clear hb hbox hg; have hnb13 := NB568_560.out; have hnc13 := NB560_568.out; have hnb14 := NB568_561.out; have hnc14 := NB561_568.out; have hnb15 := NB568_562.out; have hnc15 := NB562_568.out; obtain ⟨hcz16_0, hcz16_1, hcz16_2, hfz16_0, hfz16_1, hfz16_2⟩ := bt3 BK568; obtain ⟨Ao17, co17, eo17⟩ := Kd.R_slice HO567.out; subst eo17))
 go_loopg [2, 10, 11, 12] k (fun kq v2 v10 v11 v12 w' => ∃ (x2_1 : Int) (x10_1 : List (List Int)) (x11_1 : Int) (x12_1 : Int) (x562000_1 : Int) (x562001_1 : Int) (x562002_1 : Int) (x563000_1 : Int) (x563001_1 : Int) (x569002_1 : List (S78)) (u569002 : Value), v2 = .int .i64 x2_1 ∧ v11 = .int .i64 x11_1 ∧ v12 = .int .i64 x12_1 ∧ Aside0 (spec_flGo.l0 kq l1 x2_1 x10_1 x11_1 x12_1 a0_0 a0_1 l0_2 t563 t564 x569002_1 = some (r1, r2, r3, r4, r5, r6, r7)) ∧ Aside0 (kq ≤ k) ∧ Aside0 (Kd.S (Kd.slice 3 (Kd.int .i64)) 22 w' w.heap.size (fun _ => True) v10 x10_1) ∧ Aside0 (Kd.R k78 78 w' w.heap.size (fun _ => True) u569002 x569002_1) ∧ Aside0 (w'.heap[gb560]? = some (.cells #[.int .i64 a0_0, .int .i64 a0_1, (.slice A0_2 l0_2.length c0_2)] 48 (0, 0))) ∧ Aside0 (w'.heap[gb561]? = some (.cells #[.int .i64 x562000_1, .int .i64 x562001_1, .int .i64 x562002_1] 90 (0, 0))) ∧ Aside0 (w'.heap[gb562]? = some (.cells #[.int .i64 x563000_1, .int .i64 x563001_1, (.slice none 0 0)] 48 (0, 0))) ∧ Aside0 (w'.heap[gb568]? = some (.cells #[.int .i64 t563, .int .i64 t564, u569002] 48 (0, 0))) ∧ Aside0 (Below w.heap.size w w'))
 case atStart => exact ⟨(a2), (([] : List (List Int))), (0), (0), (0), (0), (0), (0), (0), (t565), (.slice Ao17 t565.length co17), (by first | rfl | (simp; done) | (simp [*]; done)), (by first | rfl | (simp; done) | (simp [*]; done)), (by first | rfl | (simp; done) | (simp [*]; done)), H', ⟨Nat.le_refl _⟩, ⟨by first | exact Kd.S_nil _ _ _ _ _ | exact Kd.N_nil _ _ _ _ _ | exact Kd.V_nil _ _ _ _ _ | exact Kd.Q_nil _ _ _ _ _ | exact Kd.R_nil _ _ _ _ _⟩, ⟨Kd.R_mv (Kd.R_mono (ok' := fun k_ => True) (Kd.R_far (p := ⟨gb568, 2, none⟩) (Kd.R_far (p := ⟨gb568, 1, none⟩) (Kd.R_far (p := ⟨gb568, 0, none⟩) (Kd.R_types HO567.out BK568.out (by decide)) (fun _ hk => hk.2) (.int .i64 t563)) (fun _ hk => hk.2) (.int .i64 t564)) (fun _ hk => hk.2) (.slice Ao17 t565.length co17)) (fun _ hk => trivial))⟩, ⟨fp BK560 rfl⟩, ⟨fp BK561 rfl⟩, ⟨fp BK562 rfl⟩, ⟨fp BK568 rfl⟩, ⟨bm HB⟩⟩
 case round =>
  clear H'
  try clear c1
  try clear p2
  try clear c8
  try clear c9
  try clear c11
  try clear c13
  try clear c14
  try clear c15
  try clear hcz10_0
  try clear hcz10_1
  try clear hcz10_2
  try clear hcz16_0
  try clear hcz16_1
  try clear hcz16_2
  try clear hfz10_0
  try clear hfz10_1
  try clear hfz10_2
  try clear hfz16_0
  try clear hfz16_1
  try clear hfz16_2
  obtain ⟨x2_1, x10_1, x11_1, x12_1, x562000_1, x562001_1, x562002_1, x563000_1, x563001_1, x569002_1, u569002, rfl, rfl, rfl, HA, HK1, HO_10, HO_569002, BK560, BK561, BK562, BK568, HB⟩ := hrel
  cases gk with
  | zero => exact absurd HA.out (by simp [spec_flGo.l0])
  | succ k1 =>
   have H := HA.out
   clear HA
   simp only [spec_flGo.l0] at H
   by_cases c18 : x12_1 < a0_0
   ·rw [if_pos c18] at H
    have c18b0 : decide (x12_1 < a0_0) = true := decide_eq_true c18
    clear c18
    obtain ⟨y569, hy569⟩ : ∃ y_ : List Int, y_ = (([x12_1, x2_1] : List Int)) := ⟨_, rfl⟩
    replace H : (if x10_1.length < 5864062014805 then ((some (x10_1 ++ [y569] : List (List Int))).bind fun y572 => ((spec_boAt.f t563 t564 x569002_1 x12_1 x2_1).bind fun bt575 => (if bt575.1 = 5 then (some (2, x12_1, x2_1, t563, t564, x569002_1, y572)) else ((spec_paGoes.f k1 bt575.1 bt575.2 x11_1).bind fun t578 => ((spec_flPass.f k1 t563 t564 x569002_1 l1 (wrap64 ((wrap64 (x12_1 * a0_1)) + x2_1))).bind fun t579 => ((spec_l1In.f (wrap64 (x2_1 + t578)) 0 (wrap64 (a0_1 - 1))).bind fun t580 => (if t580 = true then (spec_flGo.l0 k1 l1 (wrap64 (x2_1 + t578)) y572 (wrap64 (-t578)) (wrap64 (x12_1 + 1)) a0_0 a0_1 l0_2 t563 t564 t579) else (some (3, x12_1, wrap64 (x2_1 + t578), t563, t564, t579, y572))))))))) else (none)) = some (r1, r2, r3, r4, r5, r6, r7) := by first | (rw [hy569]; with_reducible exact H) | (have H2_ := (Option.bind_some _ _).symm.trans H; rw [hy569]; with_reducible exact H2_) | (have H2_ := (Option.bind_some _ _).symm.trans H; with_reducible exact H2_) | with_reducible exact H | (rw [hy569]; exact H) | exact H
    have Ny569 := Aside0.mk hy569
    clear hy569
    by_cases c19 : x10_1.length < 5864062014805
    ·rw [if_pos c19] at H
     have LMc19 := Aside0.mk c19
     clear c19
     obtain ⟨y572, hy572⟩ : ∃ y_ : List (List Int), y_ = (x10_1 ++ [y569]) := ⟨_, rfl⟩
     replace H : ((spec_boAt.f t563 t564 x569002_1 x12_1 x2_1).bind fun bt575 => (if bt575.1 = 5 then (some (2, x12_1, x2_1, t563, t564, x569002_1, y572)) else ((spec_paGoes.f k1 bt575.1 bt575.2 x11_1).bind fun t578 => ((spec_flPass.f k1 t563 t564 x569002_1 l1 (wrap64 ((wrap64 (x12_1 * a0_1)) + x2_1))).bind fun t579 => ((spec_l1In.f (wrap64 (x2_1 + t578)) 0 (wrap64 (a0_1 - 1))).bind fun t580 => (if t580 = true then (spec_flGo.l0 k1 l1 (wrap64 (x2_1 + t578)) y572 (wrap64 (-t578)) (wrap64 (x12_1 + 1)) a0_0 a0_1 l0_2 t563 t564 t579) else (some (3, x12_1, wrap64 (x2_1 + t578), t563, t564, t579, y572)))))))) = some (r1, r2, r3, r4, r5, r6, r7) := by first | (rw [hy572]; with_reducible exact H) | (have H2_ := (Option.bind_some _ _).symm.trans H; rw [hy572]; with_reducible exact H2_) | (have H2_ := (Option.bind_some _ _).symm.trans H; with_reducible exact H2_) | with_reducible exact H | (rw [hy572]; exact H) | exact H
     have Ny572 := Aside0.mk hy572
     clear hy572
     replace H := Option.bind_eq_some_iff.mp H
     obtain ⟨⟨t575, t576⟩, A200, H⟩ := H
     replace H : (if t575 = 5 then (some (2, x12_1, x2_1, t563, t564, x569002_1, y572)) else ((spec_paGoes.f k1 t575 t576 x11_1).bind fun t578 => ((spec_flPass.f k1 t563 t564 x569002_1 l1 (wrap64 ((wrap64 (x12_1 * a0_1)) + x2_1))).bind fun t579 => ((spec_l1In.f (wrap64 (x2_1 + t578)) 0 (wrap64 (a0_1 - 1))).bind fun t580 => (if t580 = true then (spec_flGo.l0 k1 l1 (wrap64 (x2_1 + t578)) y572 (wrap64 (-t578)) (wrap64 (x12_1 + 1)) a0_0 a0_1 l0_2 t563 t564 t579) else (some (3, x12_1, wrap64 (x2_1 + t578), t563, t564, t579, y572))))))) = some (r1, r2, r3, r4, r5, r6, r7) := H
     have A20 := Aside0.mk A200
     clear A200
     by_cases c21 : t575 = 5
     ·rw [if_pos c21] at H
      have c21b0 : (t575 == 5) = true := beq_iff_eq.mpr c21
      have c21b1 : (t575 != 5) = false := bne_eq_false_iff_eq.mpr c21
      clear c21
      simp only [Option.some.injEq, Prod.mk.injEq] at H
      obtain ⟨rfl, rfl, rfl, rfl, rfl, rfl, rfl⟩ := H
      have hnb22 := NB560_561.out
      have hnc22 := NB561_560.out
      have hnb23 := NB560_562.out
      have hnc23 := NB562_560.out
      have hnb24 := NB560_568.out
      have hnc24 := NB568_560.out
      obtain ⟨hcz25_0, hcz25_1, hcz25_2, hfz25_0, hfz25_1, hfz25_2⟩ := bt3 BK560
      try go_wp2_with (first | ((with_reducible refine gate_dst (N := 26) rfl ?_); refine Kd.R_lit (Kd.int .i64) _ 3 ?hg (N := 26) ?hd (xs := ([x12_1, x2_1] : List Int)) (inner := [.int .i64 x12_1, .int .i64 x2_1]) (ok := fun _ => True) (okp := fun _ => True) ?hr ?hp (fun _ hk => hk) trivial (Below.refl _ _) (Nat.le_refl _) (by simp) ?_; (case hd => rfl); (case hg => rfl); (case hr => first | (go_simp; done) | (go_simp; rfl)); (case hp => exact (Reps.one (show Kd.M (Kd.int .i64) _ _ _ x12_1 [.int .i64 x12_1] from rfl) (Reps.one (show Kd.M (Kd.int .i64) _ _ _ x2_1 [.int .i64 x2_1] from rfl) (Reps.none _ _)))); intro v570 w26 ho27 hb hg_ hnew_; clear hg_ hnew_; (first | rw [← Ny569.out] at ho27 | (simp only [Int.reduceToNat] at ho27; rw [← Ny569.out] at ho27)); refine ev8 (Kd.S_elder' (Kd.S_mv HO_10.out) (Kd.R_base ho27) hb) (Kd.R_below (Kd.R_mv HO_569002.out) hb) (Kd.R_lower ho27 (below_size (bm HB))) (kb BK560 hb) (kb BK561 hb) (kb BK562 hb) (kb BK568 hb) (bs HB hb) ?_; clear HO_10 HO_569002 BK560 BK561 BK562 BK568 HB; intro HO_10 HO_569002 HO571 BK560 BK561 BK562 BK568 HB; clear hb ho27; obtain ⟨Ao29, co29, eo29⟩ := Kd.R_slice HO571.out; subst eo29) | ((with_reducible refine gate_builtin (b := .append) (xs := #[.tmp 23, .tmp 27]) rfl ?_); at_builtin; refine Kd.S_append (Kd.slice 3 (Kd.int .i64)) (w0 := w) w.heap.size rfl (.tmp 23) (.tmp 27) 116 22 (.slice none 0 0) 24 rfl Try.underlying116 info22 rfl (by decide) (by omega) u10 x10_1 y569 [.slice Ao29 y569.length co29] (fun _ => True) (fun k_ => some k_ = (.slice Ao29 y569.length co29 : Value).ownBlock) rfl rfl ?aP (fun k_ hk_ => ((Kd.R_mono (ok' := fun k_ => ((fun _ => True)) k_ ∧ some k_ ≠ (u10 : Value).ownBlock) (Kd.R_apart' (HO571.out) (Kd.S_typed HO_10.out) (by decide)) (fun k_ hk => ⟨trivial, hk.2⟩))).1 k_ hk_.symm) ?aF ?aO ?aB ?aS ?aL ?_; (case aP => exact Kd.M_row (Kd.R_mono (Kd.R_tight rfl (Kd.R_mono (ok' := fun k_ => ((fun _ => True)) k_ ∧ some k_ ≠ (u10 : Value).ownBlock) (Kd.R_apart' (HO571.out) (Kd.S_typed HO_10.out) (by decide)) (fun k_ hk => ⟨trivial, hk.2⟩))) (fun _ h_ => h_))); (case aB => exact (bm HB)); (case aF => exact (fun _ _ => trivial)); (case aO => exact (by (with_reducible repeat (first | apply Kd.S_alloc | apply Kd.S_drewN | apply Kd.S_drew)); exact Kd.S_mono HO_10.out (fun k_ hk => ⟨trivial, fun e_ => hk.2 e_⟩))); (case aS => exact (below_size (bm HB))); (case aL => have := LMc19.out; omega); intro v573 w28 ho hb hg hat; rw [← Ny572.out] at ho; refine ev7 (Kd.R_over' (Kd.R_mv HO_569002.out) (Kd.S_typed (Kd.S_mv HO_10.out)) (by decide) hg) (blk_grown (km_ BK560) hg (Kd.S_ne HO_10.out BK560.out (by decide))) (blk_grown (km_ BK561) hg (Kd.S_ne HO_10.out BK561.out (by decide))) (blk_grown (km_ BK562) hg (Kd.S_ne HO_10.out BK562.out (by decide))) (blk_grown (km_ BK568) hg (Kd.S_ne HO_10.out BK568.out (by decide))) (hb) (ho) ?_; clear HO_569002 BK560 BK561 BK562 BK568 HB HO_10 HO571; intro HO_569002 BK560 BK561 BK562 BK568 HB HO574; clear ho hb hg hat; have hnb30 := NB568_561.out; have hnc30 := NB561_568.out; have hnb31 := NB568_562.out; have hnc31 := NB562_568.out; obtain ⟨hcz32_0, hcz32_1, hcz32_2, hfz32_0, hfz32_1, hfz32_2⟩ := bt3 BK568; obtain ⟨Ao33, co33, eo33⟩ := Kd.R_slice HO_569002.out; subst eo33) | ((with_reducible refine gate_callee (f := 128) rfl ?_); refine goesL_ (some 32) rfl rfl Try.func128 (by kernel_rfl) rfl #[.agg #[.int .i64 t563, .int .i64 t564, .slice Ao33 x569002_1.length co33], .int .i64 x12_1, .int .i64 x2_1] rfl (by (try simp only [ma_, mb_, mc_]); first | done | rfl | (simp only [List.length_drop, List.length_take]; rfl)) ?_; (with_reducible refine (spec_boAt.calls t563 t564 _ _ x569002_1 x12_1 x2_1 t575 t576 _ (Kd.C_mv (Kd.R_reads' HO_569002.out).2.2) ((Kd.R_reads' HO_569002.out).2.1) A20.out).mono ?_); rintro e w34 ⟨rfl, hb⟩; refine ⟨_, rfl, ?_⟩; refine ev7 (Kd.R_below (Kd.R_mv HO_569002.out) hb) (Kd.S_below (Kd.S_mv HO574.out) hb) (kb BK560 hb) (kb BK561 hb) (kb BK562 hb) (kb BK568 hb) (bs HB hb) ?_; clear HO_569002 HO574 BK560 BK561 BK562 BK568 HB; intro HO_569002 HO574 BK560 BK561 BK562 BK568 HB; (try clear hb); (try clear hb2); (try clear hk); (try clear hi)) | ((with_reducible refine gate_dst (N := 13) rfl ?_); refine box_event ?hg (N := 13) ?hd (cs := #[.int .i64 0, .int .i64 0]) (t := 78) ?hr ?_; (case hd => rfl); (case hg => rfl); (case hr => first | (go_simp; done) | (go_simp; rfl)); intro gb577 hg w35 hbox hb; refine ev12 (Kd.R_below (Kd.R_elderB (Kd.R_mv HO_569002.out) gb577 (Nat.le_of_eq hg.symm)) hb) (Kd.S_below (Kd.S_mv HO574.out) hb) (kb BK560 hb) (kb BK561 hb) (kb BK562 hb) (kb BK568 hb) (bs HB hb) (hbox) (gle hg HB) (gle hg HB) (gnf hg BK560) (gne hg BK560) ?_; intro n0_ n1_ n2_ n3_ n4_ n5_ n6_ n7_ n8_ n9_ n10_ n11_; refine ev6 (gnf hg BK561) (gne hg BK561) (gnf hg BK562) (gne hg BK562) (gnf hg BK568) (gne hg BK568) ?_; intro n12_ n13_ n14_ n15_ n16_ n17_; clear HO_569002 HO574 BK560 BK561 BK562 BK568 HB; revert n0_ n1_ n2_ n3_ n4_ n5_ n6_ n7_ n8_ n9_ n10_ n11_ n12_ n13_ n14_ n15_ n16_ n17_; intro HO_569002 HO574 BK560 BK561 BK562 BK568 HB BK577 GW577 GE577 NB560_577 NB577_560 NB561_577 NB577_561 NB562_577 NB577_562 NB568_577 NB577_568; clear hb hbox hg; have hnb36 := NB577_560.out; have hnc36 := NB560_577.out; have hnb37 := NB577_561.out; have hnc37 := NB561_577.out; have hnb38 := NB577_562.out; have hnc38 := NB562_577.out; have hnb39 := NB577_568.out; have hnc39 := NB568_577.out; obtain ⟨hcz40_0, hcz40_1, hfz40_0, hfz40_1⟩ := bt2 BK577))
      have n0_ : Aside0 (Kd.R k78 78 ((w35.setCell ⟨gb577, 0, none⟩ (.int .i64 t575)).setCell ⟨gb577, 1, none⟩ (.int .i64 t576)) w.heap.size (fun k_ => k_ ≠ gb577) (.slice Ao33 x569002_1.length co33) x569002_1) := ⟨Kd.R_mv (Kd.R_mono (ok' := fun k_ => k_ ≠ gb577) (Kd.R_far (p := ⟨gb577, 1, none⟩) (Kd.R_far (p := ⟨gb577, 0, none⟩) (Kd.R_mono HO_569002.out (fun k_ hk => (⟨hk, hk.2⟩ : _ ∧ k_ ≠ gb577))) (fun _ hk => hk.2) (.int .i64 t575)) (fun _ hk => hk.2) (.int .i64 t576)) (fun _ hk => hk.1.2))⟩
      have n1_ : Aside0 (Kd.S (Kd.slice 3 (Kd.int .i64)) 22 ((w35.setCell ⟨gb577, 0, none⟩ (.int .i64 t575)).setCell ⟨gb577, 1, none⟩ (.int .i64 t576)) w.heap.size (fun _ => True) v573 y572) := ⟨Kd.S_mv (Kd.S_mono (ok' := fun k_ => True) (Kd.S_far (p := ⟨gb577, 1, none⟩) (Kd.S_far (p := ⟨gb577, 0, none⟩) (Kd.S_types HO574.out BK577.out (by decide)) (fun _ hk => hk.2) (.int .i64 t575)) (fun _ hk => hk.2) (.int .i64 t576)) (fun _ hk => trivial))⟩
      have n2_ : Aside0 (((w35.setCell ⟨gb577, 0, none⟩ (.int .i64 t575)).setCell ⟨gb577, 1, none⟩ (.int .i64 t576)).heap[gb560]? = some (.cells #[.int .i64 a0_0, .int .i64 a0_1, .slice A0_2 l0_2.length c0_2] 48 (0, 0))) := ⟨fp BK560 rfl⟩
      have n3_ : Aside0 (((w35.setCell ⟨gb577, 0, none⟩ (.int .i64 t575)).setCell ⟨gb577, 1, none⟩ (.int .i64 t576)).heap[gb561]? = some (.cells #[.int .i64 x562000_1, .int .i64 x562001_1, .int .i64 x562002_1] 90 (0, 0))) := ⟨fp BK561 rfl⟩
      have n4_ : Aside0 (((w35.setCell ⟨gb577, 0, none⟩ (.int .i64 t575)).setCell ⟨gb577, 1, none⟩ (.int .i64 t576)).heap[gb562]? = some (.cells #[.int .i64 x563000_1, .int .i64 x563001_1, .slice none 0 0] 48 (0, 0))) := ⟨fp BK562 rfl⟩
      have n5_ : Aside0 (((w35.setCell ⟨gb577, 0, none⟩ (.int .i64 t575)).setCell ⟨gb577, 1, none⟩ (.int .i64 t576)).heap[gb568]? = some (.cells #[.int .i64 t563, .int .i64 t564, .slice Ao33 x569002_1.length co33] 48 (0, 0))) := ⟨fp BK568 rfl⟩
      have n6_ : Aside0 (((w35.setCell ⟨gb577, 0, none⟩ (.int .i64 t575)).setCell ⟨gb577, 1, none⟩ (.int .i64 t576)).heap[gb577]? = some (.cells #[.int .i64 t575, .int .i64 t576] 78 (0, 0))) := ⟨fp BK577 rfl⟩
      have n7_ : Aside0 (Below w.heap.size w ((w35.setCell ⟨gb577, 0, none⟩ (.int .i64 t575)).setCell ⟨gb577, 1, none⟩ (.int .i64 t576))) := ⟨bm HB⟩
      (try clear HO_569002)
      (try clear HO574)
      (try clear BK560)
      (try clear BK561)
      (try clear BK562)
      (try clear BK568)
      (try clear BK577)
      (try clear HB)
      generalize ((w35.setCell ⟨gb577, 0, none⟩ (.int .i64 t575)).setCell ⟨gb577, 1, none⟩ (.int .i64 t576)) = w41 at n0_ n1_ n2_ n3_ n4_ n5_ n6_ n7_ ⊢
      have HO_569002 := n0_
      have HO574 := n1_
      have BK560 := n2_
      have BK561 := n3_
      have BK562 := n4_
      have BK568 := n5_
      have BK577 := n6_
      have HB := n7_
      clear n0_ n1_ n2_ n3_ n4_ n5_ n6_ n7_
      refine ev8 (Kd.R_drew HO_569002.out) (Kd.S_drew HO574.out) (blk_drew BK560.out) (blk_drew BK561.out) (blk_drew BK562.out) (blk_drew BK568.out) (blk_drew BK577.out) (below_drew1 HB.out) ?_
      clear HO_569002 HO574 BK560 BK561 BK562 BK568 BK577 HB
      intro HO_569002 HO574 BK560 BK561 BK562 BK568 BK577 HB
      refine start_ (n := 8) (S := fun w' => w'.cell? ⟨gb568, 0, none⟩ = some (.int .i64 t563) ∧ w'.cell? ⟨gb568, 1, none⟩ = some (.int .i64 t564) ∧ w'.cell? ⟨gb568, 2, none⟩ = some (.slice Ao33 x569002_1.length co33)) (ds := []) #[false, false, false, false, false, false, false, false] (by kernel_rfl) rfl rfl ⟨(blk_cell BK568.out 0).trans rfl, (blk_cell BK568.out 1).trans rfl, (blk_cell BK568.out 2).trans rfl⟩ (fun hHeld => ?_); refine with_tabW spec_flGo.tab10 spec_flGo.bits10 (fun HT_ HW_ => ?_)
      generalize w41.drew = w42 at HO_569002 HO574 BK560 BK561 BK562 BK568 BK577 HB hHeld ⊢
      refine pure_ (i := 0) (N := some 36) (v := ?_) (a' := ?_) #[true, false, false, false, false, false, false, false] rfl rfl (any_of HT_.out (by kernel_rfl)) (fun _ _ _ h => h) (Or.inl ⟨by rfl, ?_⟩) ?_ ?_
      rotate_left
      ·intro w'
       go_simp
       with_reducible rfl
      rotate_left
      ·simp only [Act.put, za_, zb_, zc_, i64_w, i32_w]
       rfl
      refine pure_ (i := 1) (N := some 37) (v := ?_) (a' := ?_) #[true, true, false, false, false, false, false, false] rfl rfl (any_of HT_.out (by kernel_rfl)) (fun _ _ _ h => h) (Or.inl ⟨by rfl, ?_⟩) ?_ ?_
      rotate_left
      ·intro w'
       go_simp
       with_reducible rfl
      rotate_left
      ·simp only [Act.put, za_, zb_, zc_, i64_w, i32_w]
       rfl
      refine pure_ (i := 2) (N := some 38) (v := ?_) (a' := ?_) #[true, true, true, false, false, false, false, false] rfl rfl (any_of HT_.out (by kernel_rfl)) (fun _ _ _ h => h) (Or.inl ⟨by rfl, ?_⟩) ?_ ?_
      rotate_left
      ·intro w'
       go_simp
       with_reducible rfl
      rotate_left
      ·simp only [Act.put, za_, zb_, zc_, i64_w, i32_w]
       rfl
      refine pure_ (i := 4) (N := some 40) (v := ?_) (a' := ?_) #[true, true, true, false, true, false, false, false] rfl rfl (any_of HT_.out (by kernel_rfl)) (fun _ _ _ h => h) (Or.inl ⟨by rfl, ?_⟩) ?_ ?_
      rotate_left
      ·intro w'
       go_simp
       with_reducible rfl
      rotate_left
      ·simp only [Act.put, za_, zb_, zc_, i64_w, i32_w]
       rfl
      refine take_ (i := 3) (N := some 39) (v := ?_) (a' := ?_) #[true, true, true, true, true, false, false, false] rfl rfl (take_ofW HT_.out HW_.out (by kernel_rfl)) (fun _ _ _ h => h) (Or.inl ⟨by rfl, ?_⟩) hHeld ?_ ?_
      rotate_left
      ·rintro w' ⟨s0, s1, s2⟩
       go_simp
       with_reducible rfl
      rotate_left
      ·simp only [Act.put, za_, zb_, zc_, i64_w, i32_w]
       rfl
      refine one_ (i := 5) (N := none) #[true, true, true, true, true, true, false, false] rfl rfl (one_of HT_.out (by kernel_rfl)) (by decide) (fun K hK => ?_)
      have hs43 : w42.cell? ⟨gb561, 0, none⟩ = some (.int .i64 x562000_1) := (blk_cell BK561.out 0).trans rfl
      have hfs43 := blk_frozen BK561.out 0
      have hns43_0 := NB560_561.out
      have hns43_2 := NB562_561.out
      have hns43_3 := NB568_561.out
      have hns43_4 := NB577_561.out
      have hms43_0 := NB561_560.out
      have hms43_2 := NB561_562.out
      have hms43_3 := NB561_568.out
      have hms43_4 := NB561_577.out
      have hs44 : w42.cell? ⟨gb561, 1, none⟩ = some (.int .i64 x562001_1) := (blk_cell BK561.out 1).trans rfl
      have hfs44 := blk_frozen BK561.out 1
      have hns44_0 := NB560_561.out
      have hns44_2 := NB562_561.out
      have hns44_3 := NB568_561.out
      have hns44_4 := NB577_561.out
      have hms44_0 := NB561_560.out
      have hms44_2 := NB561_562.out
      have hms44_3 := NB561_568.out
      have hms44_4 := NB561_577.out
      have hs45 : w42.cell? ⟨gb561, 2, none⟩ = some (.int .i64 x562002_1) := (blk_cell BK561.out 2).trans rfl
      have hfs45 := blk_frozen BK561.out 2
      have hns45_0 := NB560_561.out
      have hns45_2 := NB562_561.out
      have hns45_3 := NB568_561.out
      have hns45_4 := NB577_561.out
      have hms45_0 := NB561_560.out
      have hms45_2 := NB561_562.out
      have hms45_3 := NB561_568.out
      have hms45_4 := NB561_577.out
      refine skip_ (w1 := ?_) (by rfl) rfl ?_ ?_
      rotate_left
      ·go_simp
       rfl
      refine hK.out _ _ ⟨((cell_far (p := ⟨gb561, _, none⟩) NB568_561.out _).trans (((cell_far (p := ⟨gb561, _, none⟩) NB568_561.out _).trans (((cell_far (p := ⟨gb561, _, none⟩) NB568_561.out _).trans (hHeld.1)))))), ((cell_far (p := ⟨gb561, _, none⟩) NB568_561.out _).trans (((cell_far (p := ⟨gb561, _, none⟩) NB568_561.out _).trans (((cell_far (p := ⟨gb561, _, none⟩) NB568_561.out _).trans (hHeld.2.1)))))), ((cell_far (p := ⟨gb561, _, none⟩) NB568_561.out _).trans (((cell_far (p := ⟨gb561, _, none⟩) NB568_561.out _).trans (((cell_far (p := ⟨gb561, _, none⟩) NB568_561.out _).trans (hHeld.2.2))))))⟩ (fun hHeld => ?_)
      clear hK K
      refine one_ (i := 6) (N := none) #[true, true, true, true, true, true, true, false] rfl rfl (one_of HT_.out (by kernel_rfl)) (by decide) (fun K hK => ?_)
      have hs46 : w42.cell? ⟨gb562, 0, none⟩ = some (.int .i64 x563000_1) := (blk_cell BK562.out 0).trans rfl
      have hfs46 := blk_frozen BK562.out 0
      have hns46_0 := NB560_562.out
      have hns46_1 := NB561_562.out
      have hns46_3 := NB568_562.out
      have hns46_4 := NB577_562.out
      have hms46_0 := NB562_560.out
      have hms46_1 := NB562_561.out
      have hms46_3 := NB562_568.out
      have hms46_4 := NB562_577.out
      have hs47 : w42.cell? ⟨gb562, 1, none⟩ = some (.int .i64 x563001_1) := (blk_cell BK562.out 1).trans rfl
      have hfs47 := blk_frozen BK562.out 1
      have hns47_0 := NB560_562.out
      have hns47_1 := NB561_562.out
      have hns47_3 := NB568_562.out
      have hns47_4 := NB577_562.out
      have hms47_0 := NB562_560.out
      have hms47_1 := NB562_561.out
      have hms47_3 := NB562_568.out
      have hms47_4 := NB562_577.out
      have hs48 : w42.cell? ⟨gb562, 2, none⟩ = some (.slice none 0 0) := (blk_cell BK562.out 2).trans rfl
      have hfs48 := blk_frozen BK562.out 2
      have hns48_0 := NB560_562.out
      have hns48_1 := NB561_562.out
      have hns48_3 := NB568_562.out
      have hns48_4 := NB577_562.out
      have hms48_0 := NB562_560.out
      have hms48_1 := NB562_561.out
      have hms48_3 := NB562_568.out
      have hms48_4 := NB562_577.out
      refine skip_ (w1 := ?_) (by rfl) rfl ?_ ?_
      rotate_left
      ·go_simp
       rfl
      refine hK.out _ _ ⟨((cell_far (p := ⟨gb562, _, none⟩) NB568_562.out _).trans (((cell_far (p := ⟨gb562, _, none⟩) NB568_562.out _).trans (((cell_far (p := ⟨gb562, _, none⟩) NB568_562.out _).trans (hHeld.1)))))), ((cell_far (p := ⟨gb562, _, none⟩) NB568_562.out _).trans (((cell_far (p := ⟨gb562, _, none⟩) NB568_562.out _).trans (((cell_far (p := ⟨gb562, _, none⟩) NB568_562.out _).trans (hHeld.2.1)))))), ((cell_far (p := ⟨gb562, _, none⟩) NB568_562.out _).trans (((cell_far (p := ⟨gb562, _, none⟩) NB568_562.out _).trans (((cell_far (p := ⟨gb562, _, none⟩) NB568_562.out _).trans (hHeld.2.2))))))⟩ (fun hHeld => ?_)
      clear hK K
      refine pure_ (i := 7) (N := some 8) (v := ?_) (a' := ?_) #[true, true, true, true, true, true, true, true] rfl rfl (any_of HT_.out (by kernel_rfl)) (fun _ _ _ h => h) (Or.inl ⟨by rfl, ?_⟩) ?_ ?_
      rotate_left
      ·intro w'
       go_simp
       with_reducible rfl
      rotate_left
      ·simp only [Act.put, za_, zb_, zc_, i64_w, i32_w]
       rfl
      refine done_ (done_of HT_.out (by kernel_rfl)) ?_
      try go_wp2
      refine bodyPost_ret (results_list (rs := [.cell 6 90, .cell 7 48, .tmp 8]) rfl (by simp) (.cell gb561 90 #[.int .i64 2, .int .i64 x12_1, .int .i64 x2_1] (0, 0) _ rfl (fp BK561 rfl) Try.underlying90 rfl (by kernel_rfl) (.cell gb562 48 #[.int .i64 t563, .int .i64 t564, .slice Ao33 x569002_1.length co33] (0, 0) _ rfl (fp BK562 rfl) Try.underlying48 rfl (by kernel_rfl) (.tmp .nil)))) rfl ?_
      exact ⟨_, _, by first | rfl | (simp [e0_, e1_] <;> rfl) | (simp [*, e0_, e1_] <;> rfl), Kd.R_mv (Kd.R_mono (ok' := fun k_ => True) (Kd.R_far (p := ⟨gb562, 2, none⟩) (Kd.R_far (p := ⟨gb562, 1, none⟩) (Kd.R_far (p := ⟨gb562, 0, none⟩) (Kd.R_far (p := ⟨gb561, 2, none⟩) (Kd.R_far (p := ⟨gb561, 1, none⟩) (Kd.R_far (p := ⟨gb561, 0, none⟩) (Kd.R_types (Kd.R_types HO_569002.out BK561.out (by decide)) BK562.out (by decide)) (fun _ hk => hk.1.2) (.int .i64 2)) (fun _ hk => hk.1.2) (.int .i64 x12_1)) (fun _ hk => hk.1.2) (.int .i64 x2_1)) (fun _ hk => hk.2) (.int .i64 t563)) (fun _ hk => hk.2) (.int .i64 t564)) (fun _ hk => hk.2) (.slice Ao33 x569002_1.length co33)) (fun _ hk => trivial)), Kd.S_mv (Kd.S_mono (ok' := fun k_ => True) (Kd.S_far (p := ⟨gb562, 2, none⟩) (Kd.S_far (p := ⟨gb562, 1, none⟩) (Kd.S_far (p := ⟨gb562, 0, none⟩) (Kd.S_far (p := ⟨gb561, 2, none⟩) (Kd.S_far (p := ⟨gb561, 1, none⟩) (Kd.S_far (p := ⟨gb561, 0, none⟩) (Kd.S_types (Kd.S_types HO574.out BK561.out (by decide)) BK562.out (by decide)) (fun _ hk => hk.1.2) (.int .i64 2)) (fun _ hk => hk.1.2) (.int .i64 x12_1)) (fun _ hk => hk.1.2) (.int .i64 x2_1)) (fun _ hk => hk.2) (.int .i64 t563)) (fun _ hk => hk.2) (.int .i64 t564)) (fun _ hk => hk.2) (.slice Ao33 x569002_1.length co33)) (fun _ hk => trivial)), bm HB⟩
     ·rw [if_neg c21] at H
      have c21b0 : (t575 == 5) = false := beq_eq_false_iff_ne.mpr c21
      have c21b1 : (t575 != 5) = true := bne_iff_ne.mpr c21
      replace H := Option.bind_eq_some_iff.mp H
      obtain ⟨t578, A490, H⟩ := H
      replace H : ((spec_flPass.f k1 t563 t564 x569002_1 l1 (wrap64 ((wrap64 (x12_1 * a0_1)) + x2_1))).bind fun t579 => ((spec_l1In.f (wrap64 (x2_1 + t578)) 0 (wrap64 (a0_1 - 1))).bind fun t580 => (if t580 = true then (spec_flGo.l0 k1 l1 (wrap64 (x2_1 + t578)) y572 (wrap64 (-t578)) (wrap64 (x12_1 + 1)) a0_0 a0_1 l0_2 t563 t564 t579) else (some (3, x12_1, wrap64 (x2_1 + t578), t563, t564, t579, y572))))) = some (r1, r2, r3, r4, r5, r6, r7) := H
      have A49 := Aside0.mk A490
      clear A490
      replace H := Option.bind_eq_some_iff.mp H
      obtain ⟨t579, A500, H⟩ := H
      replace H : ((spec_l1In.f (wrap64 (x2_1 + t578)) 0 (wrap64 (a0_1 - 1))).bind fun t580 => (if t580 = true then (spec_flGo.l0 k1 l1 (wrap64 (x2_1 + t578)) y572 (wrap64 (-t578)) (wrap64 (x12_1 + 1)) a0_0 a0_1 l0_2 t563 t564 t579) else (some (3, x12_1, wrap64 (x2_1 + t578), t563, t564, t579, y572)))) = some (r1, r2, r3, r4, r5, r6, r7) := H
      have A50 := Aside0.mk A500
      clear A500
      replace H := Option.bind_eq_some_iff.mp H
      obtain ⟨t580, A510, H⟩ := H
      replace H : (if t580 = true then (spec_flGo.l0 k1 l1 (wrap64 (x2_1 + t578)) y572 (wrap64 (-t578)) (wrap64 (x12_1 + 1)) a0_0 a0_1 l0_2 t563 t564 t579) else (some (3, x12_1, wrap64 (x2_1 + t578), t563, t564, t579, y572))) = some (r1, r2, r3, r4, r5, r6, r7) := H
      have A51 := Aside0.mk A510
      clear A510
      by_cases c52 : t580 = true
      ·subst c52
       have H1 : (spec_flGo.l0 k1 l1 (wrap64 (x2_1 + t578)) y572 (wrap64 (-t578)) (wrap64 (x12_1 + 1)) a0_0 a0_1 l0_2 t563 t564 t579) = some (r1, r2, r3, r4, r5, r6, r7) := by rw [if_pos rfl] at H; exact H
       clear H
       have H := H1
       clear H1
       have H' := Aside0.mk H
       clear H
       have hnb53 := NB560_561.out
       have hnc53 := NB561_560.out
       have hnb54 := NB560_562.out
       have hnc54 := NB562_560.out
       have hnb55 := NB560_568.out
       have hnc55 := NB568_560.out
       obtain ⟨hcz56_0, hcz56_1, hcz56_2, hfz56_0, hfz56_1, hfz56_2⟩ := bt3 BK560
       go_wp2_with (first | ((with_reducible refine gate_dst (N := 26) rfl ?_); refine Kd.R_lit (Kd.int .i64) _ 3 ?hg (N := 26) ?hd (xs := ([x12_1, x2_1] : List Int)) (inner := [.int .i64 x12_1, .int .i64 x2_1]) (ok := fun _ => True) (okp := fun _ => True) ?hr ?hp (fun _ hk => hk) trivial (Below.refl _ _) (Nat.le_refl _) (by simp) ?_; (case hd => rfl); (case hg => rfl); (case hr => first | (go_simp; done) | (go_simp; rfl)); (case hp => exact (Reps.one (show Kd.M (Kd.int .i64) _ _ _ x12_1 [.int .i64 x12_1] from rfl) (Reps.one (show Kd.M (Kd.int .i64) _ _ _ x2_1 [.int .i64 x2_1] from rfl) (Reps.none _ _)))); intro v570 w57 ho58 hb hg_ hnew_; clear hg_ hnew_; (first | rw [← Ny569.out] at ho58 | (simp only [Int.reduceToNat] at ho58; rw [← Ny569.out] at ho58)); refine ev8 (Kd.S_elder' (Kd.S_mv HO_10.out) (Kd.R_base ho58) hb) (Kd.R_below (Kd.R_mv HO_569002.out) hb) (Kd.R_lower ho58 (below_size (bm HB))) (kb BK560 hb) (kb BK561 hb) (kb BK562 hb) (kb BK568 hb) (bs HB hb) ?_; clear HO_10 HO_569002 BK560 BK561 BK562 BK568 HB; intro HO_10 HO_569002 HO571 BK560 BK561 BK562 BK568 HB; clear hb ho58; obtain ⟨Ao60, co60, eo60⟩ := Kd.R_slice HO571.out; subst eo60) | ((with_reducible refine gate_builtin (b := .append) (xs := #[.tmp 23, .tmp 27]) rfl ?_); at_builtin; refine Kd.S_append (Kd.slice 3 (Kd.int .i64)) (w0 := w) w.heap.size rfl (.tmp 23) (.tmp 27) 116 22 (.slice none 0 0) 24 rfl Try.underlying116 info22 rfl (by decide) (by omega) u10 x10_1 y569 [.slice Ao60 y569.length co60] (fun _ => True) (fun k_ => some k_ = (.slice Ao60 y569.length co60 : Value).ownBlock) rfl rfl ?aP (fun k_ hk_ => ((Kd.R_mono (ok' := fun k_ => ((fun _ => True)) k_ ∧ some k_ ≠ (u10 : Value).ownBlock) (Kd.R_apart' (HO571.out) (Kd.S_typed HO_10.out) (by decide)) (fun k_ hk => ⟨trivial, hk.2⟩))).1 k_ hk_.symm) ?aF ?aO ?aB ?aS ?aL ?_; (case aP => exact Kd.M_row (Kd.R_mono (Kd.R_tight rfl (Kd.R_mono (ok' := fun k_ => ((fun _ => True)) k_ ∧ some k_ ≠ (u10 : Value).ownBlock) (Kd.R_apart' (HO571.out) (Kd.S_typed HO_10.out) (by decide)) (fun k_ hk => ⟨trivial, hk.2⟩))) (fun _ h_ => h_))); (case aB => exact (bm HB)); (case aF => exact (fun _ _ => trivial)); (case aO => exact (by (with_reducible repeat (first | apply Kd.S_alloc | apply Kd.S_drewN | apply Kd.S_drew)); exact Kd.S_mono HO_10.out (fun k_ hk => ⟨trivial, fun e_ => hk.2 e_⟩))); (case aS => exact (below_size (bm HB))); (case aL => have := LMc19.out; omega); intro v573 w59 ho hb hg hat; rw [← Ny572.out] at ho; refine ev7 (Kd.R_over' (Kd.R_mv HO_569002.out) (Kd.S_typed (Kd.S_mv HO_10.out)) (by decide) hg) (blk_grown (km_ BK560) hg (Kd.S_ne HO_10.out BK560.out (by decide))) (blk_grown (km_ BK561) hg (Kd.S_ne HO_10.out BK561.out (by decide))) (blk_grown (km_ BK562) hg (Kd.S_ne HO_10.out BK562.out (by decide))) (blk_grown (km_ BK568) hg (Kd.S_ne HO_10.out BK568.out (by decide))) (hb) (ho) ?_; clear HO_569002 BK560 BK561 BK562 BK568 HB HO_10 HO571; intro HO_569002 BK560 BK561 BK562 BK568 HB HO574; clear ho hb hg hat; have hnb61 := NB568_561.out; have hnc61 := NB561_568.out; have hnb62 := NB568_562.out; have hnc62 := NB562_568.out; obtain ⟨hcz63_0, hcz63_1, hcz63_2, hfz63_0, hfz63_1, hfz63_2⟩ := bt3 BK568; obtain ⟨Ao64, co64, eo64⟩ := Kd.R_slice HO_569002.out; subst eo64) | ((with_reducible refine gate_callee (f := 128) rfl ?_); refine goesL_ (some 32) rfl rfl Try.func128 (by kernel_rfl) rfl #[.agg #[.int .i64 t563, .int .i64 t564, .slice Ao64 x569002_1.length co64], .int .i64 x12_1, .int .i64 x2_1] rfl (by (try simp only [ma_, mb_, mc_]); first | done | rfl | (simp only [List.length_drop, List.length_take]; rfl)) ?_; (with_reducible refine (spec_boAt.calls t563 t564 _ _ x569002_1 x12_1 x2_1 t575 t576 _ (Kd.C_mv (Kd.R_reads' HO_569002.out).2.2) ((Kd.R_reads' HO_569002.out).2.1) A20.out).mono ?_); rintro e w65 ⟨rfl, hb⟩; refine ⟨_, rfl, ?_⟩; refine ev7 (Kd.R_below (Kd.R_mv HO_569002.out) hb) (Kd.S_below (Kd.S_mv HO574.out) hb) (kb BK560 hb) (kb BK561 hb) (kb BK562 hb) (kb BK568 hb) (bs HB hb) ?_; clear HO_569002 HO574 BK560 BK561 BK562 BK568 HB; intro HO_569002 HO574 BK560 BK561 BK562 BK568 HB; (try clear hb); (try clear hb2); (try clear hk); (try clear hi)) | ((with_reducible refine gate_dst (N := 13) rfl ?_); refine box_event ?hg (N := 13) ?hd (cs := #[.int .i64 0, .int .i64 0]) (t := 78) ?hr ?_; (case hd => rfl); (case hg => rfl); (case hr => first | (go_simp; done) | (go_simp; rfl)); intro gb577 hg w66 hbox hb; refine ev12 (Kd.R_below (Kd.R_elderB (Kd.R_mv HO_569002.out) gb577 (Nat.le_of_eq hg.symm)) hb) (Kd.S_below (Kd.S_mv HO574.out) hb) (kb BK560 hb) (kb BK561 hb) (kb BK562 hb) (kb BK568 hb) (bs HB hb) (hbox) (gle hg HB) (gle hg HB) (gnf hg BK560) (gne hg BK560) ?_; intro n0_ n1_ n2_ n3_ n4_ n5_ n6_ n7_ n8_ n9_ n10_ n11_; refine ev6 (gnf hg BK561) (gne hg BK561) (gnf hg BK562) (gne hg BK562) (gnf hg BK568) (gne hg BK568) ?_; intro n12_ n13_ n14_ n15_ n16_ n17_; clear HO_569002 HO574 BK560 BK561 BK562 BK568 HB; revert n0_ n1_ n2_ n3_ n4_ n5_ n6_ n7_ n8_ n9_ n10_ n11_ n12_ n13_ n14_ n15_ n16_ n17_; intro HO_569002 HO574 BK560 BK561 BK562 BK568 HB BK577 GW577 GE577 NB560_577 NB577_560 NB561_577 NB577_561 NB562_577 NB577_562 NB568_577 NB577_568; clear hb hbox hg; have hnb67 := NB577_560.out; have hnc67 := NB560_577.out; have hnb68 := NB577_561.out; have hnc68 := NB561_577.out; have hnb69 := NB577_562.out; have hnc69 := NB562_577.out; have hnb70 := NB577_568.out; have hnc70 := NB568_577.out; obtain ⟨hcz71_0, hcz71_1, hfz71_0, hfz71_1⟩ := bt2 BK577) | ((with_reducible refine gate_callee (f := 129) rfl ?_); refine goesL_ (some 43) rfl rfl Try.func129 (by kernel_rfl) rfl #[.agg #[.int .i64 t575, .int .i64 t576], .int .i64 x11_1] rfl (by (try simp only [ma_, mb_, mc_]); first | done | rfl | (simp only [List.length_drop, List.length_take]; rfl)) ?_; (with_reducible refine (spec_paGoes.calls k1 t575 t576 x11_1 t578 _ A49.out).mono ?_); rintro e w72 ⟨rfl, hb⟩; refine ⟨_, rfl, ?_⟩; refine ev8 (Kd.R_below (Kd.R_mv (Kd.R_mono (Kd.R_far (p := ⟨gb577, 1, none⟩) (Kd.R_far (p := ⟨gb577, 0, none⟩) (Kd.R_mono HO_569002.out (fun k_ hk => (⟨hk, hk.2⟩ : _ ∧ k_ ≠ gb577))) (fun _ hk => hk.2) (.int .i64 t575)) (fun _ hk => hk.2) (.int .i64 t576)) (fun _ h_ => h_.1))) hb) (Kd.S_below (Kd.S_mv (Kd.S_mono (Kd.S_far (p := ⟨gb577, 1, none⟩) (Kd.S_far (p := ⟨gb577, 0, none⟩) (Kd.S_types HO574.out BK577.out (by decide)) (fun _ hk => hk.2) (.int .i64 t575)) (fun _ hk => hk.2) (.int .i64 t576)) (fun _ h_ => h_.1))) hb) (blk_below (g := gb560) (o := .cells #[.int .i64 a0_0, .int .i64 a0_1, .slice A0_2 l0_2.length c0_2] 48 (0, 0)) (fp BK560 rfl) hb) (blk_below (g := gb561) (o := .cells #[.int .i64 x562000_1, .int .i64 x562001_1, .int .i64 x562002_1] 90 (0, 0)) (fp BK561 rfl) hb) (blk_below (g := gb562) (o := .cells #[.int .i64 x563000_1, .int .i64 x563001_1, .slice none 0 0] 48 (0, 0)) (fp BK562 rfl) hb) (blk_below (g := gb568) (o := .cells #[.int .i64 t563, .int .i64 t564, .slice Ao64 x569002_1.length co64] 48 (0, 0)) (fp BK568 rfl) hb) (blk_below (g := gb577) (o := .cells #[.int .i64 t575, .int .i64 t576] 78 (0, 0)) (fp BK577 rfl) hb) (bs HB hb) ?_; clear HO_569002 HO574 BK560 BK561 BK562 BK568 BK577 HB; intro HO_569002 HO574 BK560 BK561 BK562 BK568 BK577 HB; (try clear hb); (try clear hb2); (try clear hk); (try clear hi); obtain ⟨hcz73_0, hcz73_1, hcz73_2, hfz73_0, hfz73_1, hfz73_2⟩ := bt3 BK568; obtain ⟨hcz74_0, hcz74_1, hcz74_2, hfz74_0, hfz74_1, hfz74_2⟩ := bt3 BK560) | ((with_reducible refine gate_callee (f := 130) rfl ?_); refine goesL_ (some 52) rfl rfl Try.func130 (by kernel_rfl) rfl #[.agg #[.int .i64 t563, .int .i64 t564, .slice Ao64 x569002_1.length co64], .slice A1 l1.length c1, .int .i64 (wrap64 ((wrap64 (x12_1 * a0_1)) + x2_1))] rfl (by (try simp only [ma_, mb_, mc_]); first | done | rfl | (simp only [List.length_drop, List.length_take]; rfl)) ?_; (with_reducible refine (spec_flPass.calls k1 t563 t564 (fun k_ => some k_ = (.slice Ao64 x569002_1.length co64 : Value).ownBlock) (.slice Ao64 x569002_1.length co64) x569002_1 _ _ l1 (wrap64 ((wrap64 (x12_1 * a0_1)) + x2_1)) t579 w _ (bm HB) ?side2 ?side3 HC1.out A50.out).mono ?_); (case side2 => exact Kd.R_tight rfl HO_569002.out); (case side3 => exact Kd.C_kept_came (Kd.heap_int .i64) HR1.out (bm HB) (fun k_ hs_ => (fun e_ => Kd.R_base HO_569002.out k_ e_.symm) hs_)); rintro e w75 ⟨rfl, hy0, hb, hkp⟩; refine ⟨_, rfl, ?_⟩; refine ev8 (Kd.R_reok rfl hy0 (fun k_ e_ => HO_569002.out.1 k_ e_)) (blk_kept (km_ BK560) hkp (fun hs_ => (fun e_ => (Kd.R_ne HO_569002.out BK560.out (by decide)) e_) hs_)) (blk_kept (km_ BK561) hkp (fun hs_ => (fun e_ => (Kd.R_ne HO_569002.out BK561.out (by decide)) e_) hs_)) (blk_kept (km_ BK562) hkp (fun hs_ => (fun e_ => (Kd.R_ne HO_569002.out BK562.out (by decide)) e_) hs_)) (blk_kept (km_ BK568) hkp (fun hs_ => (fun e_ => (Kd.R_ne HO_569002.out BK568.out (by decide)) e_) hs_)) (Kd.S_mono (ok' := fun k_ => True) (Kd.S_keptB ((Kd.S_apart' HO574.out (Kd.R_typed HO_569002.out) (by decide))) hkp (fun k_ hk_ hs_ => (hk_.2) hs_)) (fun k_ hk_ => trivial)) (blk_kept (km_ BK577) hkp (fun hs_ => (fun e_ => (Kd.R_away HO_569002.out (fun _ hk => hk.2)) e_) hs_)) (hb) ?_; clear HO_569002 BK560 BK561 BK562 BK568 HO574 BK577 HB; intro HO_569002 BK560 BK561 BK562 BK568 HO574 BK577 HB; (try clear hb); (try clear hkp); (try clear hy0); obtain ⟨hcz76_0, hcz76_1, hcz76_2, hfz76_0, hfz76_1, hfz76_2⟩ := bt3 BK560) | ((with_reducible refine gate_callee (f := 81) rfl ?_); refine goesL_ (some 62) rfl rfl Try.func81 (by kernel_rfl) rfl #[.int .i64 (wrap64 (x2_1 + t578)), .int .i64 0, .int .i64 (wrap64 (a0_1 - 1))] rfl (by (try simp only [ma_, mb_, mc_]); first | done | rfl | (simp only [List.length_drop, List.length_take]; rfl)) ?_; (with_reducible refine (spec_l1In.calls (wrap64 (x2_1 + t578)) 0 (wrap64 (a0_1 - 1)) true _ A51.out).mono ?_); rintro e w' ⟨rfl, ⟨nd, rfl⟩⟩; refine ⟨_, rfl, ?_⟩))
       go_roundg k1
       case measure => have := HK1.out; omega
       case rel => exact ⟨(wrap64 (x2_1 + t578)), (y572), (wrap64 (-t578)), (wrap64 (x12_1 + 1)), (x562000_1), (x562001_1), (x562002_1), (x563000_1), (x563001_1), (t579), (.slice Ao64 x569002_1.length co64), (by first | rfl | (simp; done) | (simp [*]; done)), (by first | rfl | (simp; done) | (simp [*]; done)), (by first | rfl | (simp; done) | (simp [*]; done)), H', ⟨by have := HK1.out; omega⟩, ⟨Kd.S_mv HO574.out⟩, ⟨Kd.R_mv (Kd.R_mono (ok' := fun k_ => True) HO_569002.out (fun _ hk => trivial))⟩, ⟨km_ BK560⟩, ⟨km_ BK561⟩, ⟨km_ BK562⟩, ⟨km_ BK568⟩, ⟨bm HB⟩⟩
      ·replace c52 := Bool.eq_false_iff.mpr c52
       subst c52
       have H1 : (some (3, x12_1, wrap64 (x2_1 + t578), t563, t564, t579, y572)) = some (r1, r2, r3, r4, r5, r6, r7) := by rw [if_neg (show ¬ (false = true) by decide)] at H; exact H
       clear H
       have H := H1
       clear H1
       simp only [Option.some.injEq, Prod.mk.injEq] at H
       obtain ⟨rfl, rfl, rfl, rfl, rfl, rfl, rfl⟩ := H
       have hnb77 := NB560_561.out
       have hnc77 := NB561_560.out
       have hnb78 := NB560_562.out
       have hnc78 := NB562_560.out
       have hnb79 := NB560_568.out
       have hnc79 := NB568_560.out
       obtain ⟨hcz80_0, hcz80_1, hcz80_2, hfz80_0, hfz80_1, hfz80_2⟩ := bt3 BK560
       try go_wp2_with (first | ((with_reducible refine gate_dst (N := 26) rfl ?_); refine Kd.R_lit (Kd.int .i64) _ 3 ?hg (N := 26) ?hd (xs := ([x12_1, x2_1] : List Int)) (inner := [.int .i64 x12_1, .int .i64 x2_1]) (ok := fun _ => True) (okp := fun _ => True) ?hr ?hp (fun _ hk => hk) trivial (Below.refl _ _) (Nat.le_refl _) (by simp) ?_; (case hd => rfl); (case hg => rfl); (case hr => first | (go_simp; done) | (go_simp; rfl)); (case hp => exact (Reps.one (show Kd.M (Kd.int .i64) _ _ _ x12_1 [.int .i64 x12_1] from rfl) (Reps.one (show Kd.M (Kd.int .i64) _ _ _ x2_1 [.int .i64 x2_1] from rfl) (Reps.none _ _)))); intro v570 w81 ho82 hb hg_ hnew_; clear hg_ hnew_; (first | rw [← Ny569.out] at ho82 | (simp only [Int.reduceToNat] at ho82; rw [← Ny569.out] at ho82)); refine ev8 (Kd.S_elder' (Kd.S_mv HO_10.out) (Kd.R_base ho82) hb) (Kd.R_below (Kd.R_mv HO_569002.out) hb) (Kd.R_lower ho82 (below_size (bm HB))) (kb BK560 hb) (kb BK561 hb) (kb BK562 hb) (kb BK568 hb) (bs HB hb) ?_; clear HO_10 HO_569002 BK560 BK561 BK562 BK568 HB; intro HO_10 HO_569002 HO571 BK560 BK561 BK562 BK568 HB; clear hb ho82; obtain ⟨Ao84, co84, eo84⟩ := Kd.R_slice HO571.out; subst eo84) | ((with_reducible refine gate_builtin (b := .append) (xs := #[.tmp 23, .tmp 27]) rfl ?_); at_builtin; refine Kd.S_append (Kd.slice 3 (Kd.int .i64)) (w0 := w) w.heap.size rfl (.tmp 23) (.tmp 27) 116 22 (.slice none 0 0) 24 rfl Try.underlying116 info22 rfl (by decide) (by omega) u10 x10_1 y569 [.slice Ao84 y569.length co84] (fun _ => True) (fun k_ => some k_ = (.slice Ao84 y569.length co84 : Value).ownBlock) rfl rfl ?aP (fun k_ hk_ => ((Kd.R_mono (ok' := fun k_ => ((fun _ => True)) k_ ∧ some k_ ≠ (u10 : Value).ownBlock) (Kd.R_apart' (HO571.out) (Kd.S_typed HO_10.out) (by decide)) (fun k_ hk => ⟨trivial, hk.2⟩))).1 k_ hk_.symm) ?aF ?aO ?aB ?aS ?aL ?_; (case aP => exact Kd.M_row (Kd.R_mono (Kd.R_tight rfl (Kd.R_mono (ok' := fun k_ => ((fun _ => True)) k_ ∧ some k_ ≠ (u10 : Value).ownBlock) (Kd.R_apart' (HO571.out) (Kd.S_typed HO_10.out) (by decide)) (fun k_ hk => ⟨trivial, hk.2⟩))) (fun _ h_ => h_))); (case aB => exact (bm HB)); (case aF => exact (fun _ _ => trivial)); (case aO => exact (by (with_reducible repeat (first | apply Kd.S_alloc | apply Kd.S_drewN | apply Kd.S_drew)); exact Kd.S_mono HO_10.out (fun k_ hk => ⟨trivial, fun e_ => hk.2 e_⟩))); (case aS => exact (below_size (bm HB))); (case aL => have := LMc19.out; omega); intro v573 w83 ho hb hg hat; rw [← Ny572.out] at ho; refine ev7 (Kd.R_over' (Kd.R_mv HO_569002.out) (Kd.S_typed (Kd.S_mv HO_10.out)) (by decide) hg) (blk_grown (km_ BK560) hg (Kd.S_ne HO_10.out BK560.out (by decide))) (blk_grown (km_ BK561) hg (Kd.S_ne HO_10.out BK561.out (by decide))) (blk_grown (km_ BK562) hg (Kd.S_ne HO_10.out BK562.out (by decide))) (blk_grown (km_ BK568) hg (Kd.S_ne HO_10.out BK568.out (by decide))) (hb) (ho) ?_; clear HO_569002 BK560 BK561 BK562 BK568 HB HO_10 HO571; intro HO_569002 BK560 BK561 BK562 BK568 HB HO574; clear ho hb hg hat; have hnb85 := NB568_561.out; have hnc85 := NB561_568.out; have hnb86 := NB568_562.out; have hnc86 := NB562_568.out; obtain ⟨hcz87_0, hcz87_1, hcz87_2, hfz87_0, hfz87_1, hfz87_2⟩ := bt3 BK568; obtain ⟨Ao88, co88, eo88⟩ := Kd.R_slice HO_569002.out; subst eo88) | ((with_reducible refine gate_callee (f := 128) rfl ?_); refine goesL_ (some 32) rfl rfl Try.func128 (by kernel_rfl) rfl #[.agg #[.int .i64 t563, .int .i64 t564, .slice Ao88 x569002_1.length co88], .int .i64 x12_1, .int .i64 x2_1] rfl (by (try simp only [ma_, mb_, mc_]); first | done | rfl | (simp only [List.length_drop, List.length_take]; rfl)) ?_; (with_reducible refine (spec_boAt.calls t563 t564 _ _ x569002_1 x12_1 x2_1 t575 t576 _ (Kd.C_mv (Kd.R_reads' HO_569002.out).2.2) ((Kd.R_reads' HO_569002.out).2.1) A20.out).mono ?_); rintro e w89 ⟨rfl, hb⟩; refine ⟨_, rfl, ?_⟩; refine ev7 (Kd.R_below (Kd.R_mv HO_569002.out) hb) (Kd.S_below (Kd.S_mv HO574.out) hb) (kb BK560 hb) (kb BK561 hb) (kb BK562 hb) (kb BK568 hb) (bs HB hb) ?_; clear HO_569002 HO574 BK560 BK561 BK562 BK568 HB; intro HO_569002 HO574 BK560 BK561 BK562 BK568 HB; (try clear hb); (try clear hb2); (try clear hk); (try clear hi)) | ((with_reducible refine gate_dst (N := 13) rfl ?_); refine box_event ?hg (N := 13) ?hd (cs := #[.int .i64 0, .int .i64 0]) (t := 78) ?hr ?_; (case hd => rfl); (case hg => rfl); (case hr => first | (go_simp; done) | (go_simp; rfl)); intro gb577 hg w90 hbox hb; refine ev12 (Kd.R_below (Kd.R_elderB (Kd.R_mv HO_569002.out) gb577 (Nat.le_of_eq hg.symm)) hb) (Kd.S_below (Kd.S_mv HO574.out) hb) (kb BK560 hb) (kb BK561 hb) (kb BK562 hb) (kb BK568 hb) (bs HB hb) (hbox) (gle hg HB) (gle hg HB) (gnf hg BK560) (gne hg BK560) ?_; intro n0_ n1_ n2_ n3_ n4_ n5_ n6_ n7_ n8_ n9_ n10_ n11_; refine ev6 (gnf hg BK561) (gne hg BK561) (gnf hg BK562) (gne hg BK562) (gnf hg BK568) (gne hg BK568) ?_; intro n12_ n13_ n14_ n15_ n16_ n17_; clear HO_569002 HO574 BK560 BK561 BK562 BK568 HB; revert n0_ n1_ n2_ n3_ n4_ n5_ n6_ n7_ n8_ n9_ n10_ n11_ n12_ n13_ n14_ n15_ n16_ n17_; intro HO_569002 HO574 BK560 BK561 BK562 BK568 HB BK577 GW577 GE577 NB560_577 NB577_560 NB561_577 NB577_561 NB562_577 NB577_562 NB568_577 NB577_568; clear hb hbox hg; have hnb91 := NB577_560.out; have hnc91 := NB560_577.out; have hnb92 := NB577_561.out; have hnc92 := NB561_577.out; have hnb93 := NB577_562.out; have hnc93 := NB562_577.out; have hnb94 := NB577_568.out; have hnc94 := NB568_577.out; obtain ⟨hcz95_0, hcz95_1, hfz95_0, hfz95_1⟩ := bt2 BK577) | ((with_reducible refine gate_callee (f := 129) rfl ?_); refine goesL_ (some 43) rfl rfl Try.func129 (by kernel_rfl) rfl #[.agg #[.int .i64 t575, .int .i64 t576], .int .i64 x11_1] rfl (by (try simp only [ma_, mb_, mc_]); first | done | rfl | (simp only [List.length_drop, List.length_take]; rfl)) ?_; (with_reducible refine (spec_paGoes.calls k1 t575 t576 x11_1 t578 _ A49.out).mono ?_); rintro e w96 ⟨rfl, hb⟩; refine ⟨_, rfl, ?_⟩; refine ev8 (Kd.R_below (Kd.R_mv (Kd.R_mono (Kd.R_far (p := ⟨gb577, 1, none⟩) (Kd.R_far (p := ⟨gb577, 0, none⟩) (Kd.R_mono HO_569002.out (fun k_ hk => (⟨hk, hk.2⟩ : _ ∧ k_ ≠ gb577))) (fun _ hk => hk.2) (.int .i64 t575)) (fun _ hk => hk.2) (.int .i64 t576)) (fun _ h_ => h_.1))) hb) (Kd.S_below (Kd.S_mv (Kd.S_mono (Kd.S_far (p := ⟨gb577, 1, none⟩) (Kd.S_far (p := ⟨gb577, 0, none⟩) (Kd.S_types HO574.out BK577.out (by decide)) (fun _ hk => hk.2) (.int .i64 t575)) (fun _ hk => hk.2) (.int .i64 t576)) (fun _ h_ => h_.1))) hb) (blk_below (g := gb560) (o := .cells #[.int .i64 a0_0, .int .i64 a0_1, .slice A0_2 l0_2.length c0_2] 48 (0, 0)) (fp BK560 rfl) hb) (blk_below (g := gb561) (o := .cells #[.int .i64 x562000_1, .int .i64 x562001_1, .int .i64 x562002_1] 90 (0, 0)) (fp BK561 rfl) hb) (blk_below (g := gb562) (o := .cells #[.int .i64 x563000_1, .int .i64 x563001_1, .slice none 0 0] 48 (0, 0)) (fp BK562 rfl) hb) (blk_below (g := gb568) (o := .cells #[.int .i64 t563, .int .i64 t564, .slice Ao88 x569002_1.length co88] 48 (0, 0)) (fp BK568 rfl) hb) (blk_below (g := gb577) (o := .cells #[.int .i64 t575, .int .i64 t576] 78 (0, 0)) (fp BK577 rfl) hb) (bs HB hb) ?_; clear HO_569002 HO574 BK560 BK561 BK562 BK568 BK577 HB; intro HO_569002 HO574 BK560 BK561 BK562 BK568 BK577 HB; (try clear hb); (try clear hb2); (try clear hk); (try clear hi); obtain ⟨hcz97_0, hcz97_1, hcz97_2, hfz97_0, hfz97_1, hfz97_2⟩ := bt3 BK568; obtain ⟨hcz98_0, hcz98_1, hcz98_2, hfz98_0, hfz98_1, hfz98_2⟩ := bt3 BK560) | ((with_reducible refine gate_callee (f := 130) rfl ?_); refine goesL_ (some 52) rfl rfl Try.func130 (by kernel_rfl) rfl #[.agg #[.int .i64 t563, .int .i64 t564, .slice Ao88 x569002_1.length co88], .slice A1 l1.length c1, .int .i64 (wrap64 ((wrap64 (x12_1 * a0_1)) + x2_1))] rfl (by (try simp only [ma_, mb_, mc_]); first | done | rfl | (simp only [List.length_drop, List.length_take]; rfl)) ?_; (with_reducible refine (spec_flPass.calls k1 t563 t564 (fun k_ => some k_ = (.slice Ao88 x569002_1.length co88 : Value).ownBlock) (.slice Ao88 x569002_1.length co88) x569002_1 _ _ l1 (wrap64 ((wrap64 (x12_1 * a0_1)) + x2_1)) t579 w _ (bm HB) ?side2 ?side3 HC1.out A50.out).mono ?_); (case side2 => exact Kd.R_tight rfl HO_569002.out); (case side3 => exact Kd.C_kept_came (Kd.heap_int .i64) HR1.out (bm HB) (fun k_ hs_ => (fun e_ => Kd.R_base HO_569002.out k_ e_.symm) hs_)); rintro e w99 ⟨rfl, hy0, hb, hkp⟩; refine ⟨_, rfl, ?_⟩; refine ev8 (Kd.R_reok rfl hy0 (fun k_ e_ => HO_569002.out.1 k_ e_)) (blk_kept (km_ BK560) hkp (fun hs_ => (fun e_ => (Kd.R_ne HO_569002.out BK560.out (by decide)) e_) hs_)) (blk_kept (km_ BK561) hkp (fun hs_ => (fun e_ => (Kd.R_ne HO_569002.out BK561.out (by decide)) e_) hs_)) (blk_kept (km_ BK562) hkp (fun hs_ => (fun e_ => (Kd.R_ne HO_569002.out BK562.out (by decide)) e_) hs_)) (blk_kept (km_ BK568) hkp (fun hs_ => (fun e_ => (Kd.R_ne HO_569002.out BK568.out (by decide)) e_) hs_)) (Kd.S_mono (ok' := fun k_ => True) (Kd.S_keptB ((Kd.S_apart' HO574.out (Kd.R_typed HO_569002.out) (by decide))) hkp (fun k_ hk_ hs_ => (hk_.2) hs_)) (fun k_ hk_ => trivial)) (blk_kept (km_ BK577) hkp (fun hs_ => (fun e_ => (Kd.R_away HO_569002.out (fun _ hk => hk.2)) e_) hs_)) (hb) ?_; clear HO_569002 BK560 BK561 BK562 BK568 HO574 BK577 HB; intro HO_569002 BK560 BK561 BK562 BK568 HO574 BK577 HB; (try clear hb); (try clear hkp); (try clear hy0); obtain ⟨hcz100_0, hcz100_1, hcz100_2, hfz100_0, hfz100_1, hfz100_2⟩ := bt3 BK560) | ((with_reducible refine gate_callee (f := 81) rfl ?_); refine goesL_ (some 62) rfl rfl Try.func81 (by kernel_rfl) rfl #[.int .i64 (wrap64 (x2_1 + t578)), .int .i64 0, .int .i64 (wrap64 (a0_1 - 1))] rfl (by (try simp only [ma_, mb_, mc_]); first | done | rfl | (simp only [List.length_drop, List.length_take]; rfl)) ?_; (with_reducible refine (spec_l1In.calls (wrap64 (x2_1 + t578)) 0 (wrap64 (a0_1 - 1)) false _ A51.out).mono ?_); rintro e w' ⟨rfl, ⟨nd, rfl⟩⟩; refine ⟨_, rfl, ?_⟩; (try (rw [drewN_self w99]; generalize hq_ : World.drewN w99 _ = w99; have n0_ : Aside0 (Kd.S (Kd.slice 3 (Kd.int .i64)) 22 w99 w.heap.size (fun _ => True) v573 y572) := ⟨by rw [← hq_]; exact (Kd.S_mv HO574.out)⟩; have n1_ : Aside0 (Kd.R k78 78 w99 w.heap.size (fun k_ => k_ ≠ gb577) (.slice Ao88 x569002_1.length co88) t579) := ⟨by rw [← hq_]; exact (Kd.R_mv (Kd.R_mono (ok' := fun k_ => k_ ≠ gb577) HO_569002.out (fun _ hk => hk.2)))⟩; have n2_ : Aside0 (w99.heap[gb560]? = some (.cells #[.int .i64 a0_0, .int .i64 a0_1, .slice A0_2 l0_2.length c0_2] 48 (0, 0))) := ⟨by rw [← hq_]; exact (km_ BK560)⟩; have n3_ : Aside0 (w99.heap[gb561]? = some (.cells #[.int .i64 x562000_1, .int .i64 x562001_1, .int .i64 x562002_1] 90 (0, 0))) := ⟨by rw [← hq_]; exact (km_ BK561)⟩; have n4_ : Aside0 (w99.heap[gb562]? = some (.cells #[.int .i64 x563000_1, .int .i64 x563001_1, .slice none 0 0] 48 (0, 0))) := ⟨by rw [← hq_]; exact (km_ BK562)⟩; have n5_ : Aside0 (w99.heap[gb568]? = some (.cells #[.int .i64 t563, .int .i64 t564, .slice Ao88 x569002_1.length co88] 48 (0, 0))) := ⟨by rw [← hq_]; exact (km_ BK568)⟩; have n6_ : Aside0 (w99.heap[gb577]? = some (.cells #[.int .i64 t575, .int .i64 t576] 78 (0, 0))) := ⟨by rw [← hq_]; exact (km_ BK577)⟩; have n7_ : Aside0 (Below w.heap.size w w99) := ⟨by rw [← hq_]; exact (bm HB)⟩; clear HO574 HO_569002 BK560 BK561 BK562 BK568 BK577 HB hq_; have HO574 := n0_; have HO_569002 := n1_; have BK560 := n2_; have BK561 := n3_; have BK562 := n4_; have BK568 := n5_; have BK577 := n6_; have HB := n7_; clear n0_ n1_ n2_ n3_ n4_ n5_ n6_ n7_))))
       refine ev8 (Kd.R_drew HO_569002.out) (Kd.S_drew HO574.out) (blk_drew BK560.out) (blk_drew BK561.out) (blk_drew BK562.out) (blk_drew BK568.out) (blk_drew BK577.out) (below_drew1 HB.out) ?_
       clear HO_569002 HO574 BK560 BK561 BK562 BK568 BK577 HB
       intro HO_569002 HO574 BK560 BK561 BK562 BK568 BK577 HB
       refine start_ (n := 8) (S := fun w' => w'.cell? ⟨gb568, 0, none⟩ = some (.int .i64 t563) ∧ w'.cell? ⟨gb568, 1, none⟩ = some (.int .i64 t564) ∧ w'.cell? ⟨gb568, 2, none⟩ = some (.slice Ao88 x569002_1.length co88)) (ds := []) #[false, false, false, false, false, false, false, false] (by kernel_rfl) rfl rfl ⟨(blk_cell BK568.out 0).trans rfl, (blk_cell BK568.out 1).trans rfl, (blk_cell BK568.out 2).trans rfl⟩ (fun hHeld => ?_); refine with_tabW spec_flGo.tab16 spec_flGo.bits16 (fun HT_ HW_ => ?_)
       generalize w99.drew = w101 at HO_569002 HO574 BK560 BK561 BK562 BK568 BK577 HB hHeld ⊢
       refine pure_ (i := 0) (N := some 64) (v := ?_) (a' := ?_) #[true, false, false, false, false, false, false, false] rfl rfl (any_of HT_.out (by kernel_rfl)) (fun _ _ _ h => h) (Or.inl ⟨by rfl, ?_⟩) ?_ ?_
       rotate_left
       ·intro w'
        go_simp
        with_reducible rfl
       rotate_left
       ·simp only [Act.put, za_, zb_, zc_, i64_w, i32_w]
        rfl
       refine pure_ (i := 1) (N := some 65) (v := ?_) (a' := ?_) #[true, true, false, false, false, false, false, false] rfl rfl (any_of HT_.out (by kernel_rfl)) (fun _ _ _ h => h) (Or.inl ⟨by rfl, ?_⟩) ?_ ?_
       rotate_left
       ·intro w'
        go_simp
        with_reducible rfl
       rotate_left
       ·simp only [Act.put, za_, zb_, zc_, i64_w, i32_w]
        rfl
       refine pure_ (i := 2) (N := some 66) (v := ?_) (a' := ?_) #[true, true, true, false, false, false, false, false] rfl rfl (any_of HT_.out (by kernel_rfl)) (fun _ _ _ h => h) (Or.inl ⟨by rfl, ?_⟩) ?_ ?_
       rotate_left
       ·intro w'
        go_simp
        with_reducible rfl
       rotate_left
       ·simp only [Act.put, za_, zb_, zc_, i64_w, i32_w]
        rfl
       refine pure_ (i := 4) (N := some 68) (v := ?_) (a' := ?_) #[true, true, true, false, true, false, false, false] rfl rfl (any_of HT_.out (by kernel_rfl)) (fun _ _ _ h => h) (Or.inl ⟨by rfl, ?_⟩) ?_ ?_
       rotate_left
       ·intro w'
        go_simp
        with_reducible rfl
       rotate_left
       ·simp only [Act.put, za_, zb_, zc_, i64_w, i32_w]
        rfl
       refine take_ (i := 3) (N := some 67) (v := ?_) (a' := ?_) #[true, true, true, true, true, false, false, false] rfl rfl (take_ofW HT_.out HW_.out (by kernel_rfl)) (fun _ _ _ h => h) (Or.inl ⟨by rfl, ?_⟩) hHeld ?_ ?_
       rotate_left
       ·rintro w' ⟨s0, s1, s2⟩
        go_simp
        with_reducible rfl
       rotate_left
       ·simp only [Act.put, za_, zb_, zc_, i64_w, i32_w]
        rfl
       refine one_ (i := 5) (N := none) #[true, true, true, true, true, true, false, false] rfl rfl (one_of HT_.out (by kernel_rfl)) (by decide) (fun K hK => ?_)
       have hs102 : w101.cell? ⟨gb561, 0, none⟩ = some (.int .i64 x562000_1) := (blk_cell BK561.out 0).trans rfl
       have hfs102 := blk_frozen BK561.out 0
       have hns102_0 := NB560_561.out
       have hns102_2 := NB562_561.out
       have hns102_3 := NB568_561.out
       have hns102_4 := NB577_561.out
       have hms102_0 := NB561_560.out
       have hms102_2 := NB561_562.out
       have hms102_3 := NB561_568.out
       have hms102_4 := NB561_577.out
       have hs103 : w101.cell? ⟨gb561, 1, none⟩ = some (.int .i64 x562001_1) := (blk_cell BK561.out 1).trans rfl
       have hfs103 := blk_frozen BK561.out 1
       have hns103_0 := NB560_561.out
       have hns103_2 := NB562_561.out
       have hns103_3 := NB568_561.out
       have hns103_4 := NB577_561.out
       have hms103_0 := NB561_560.out
       have hms103_2 := NB561_562.out
       have hms103_3 := NB561_568.out
       have hms103_4 := NB561_577.out
       have hs104 : w101.cell? ⟨gb561, 2, none⟩ = some (.int .i64 x562002_1) := (blk_cell BK561.out 2).trans rfl
       have hfs104 := blk_frozen BK561.out 2
       have hns104_0 := NB560_561.out
       have hns104_2 := NB562_561.out
       have hns104_3 := NB568_561.out
       have hns104_4 := NB577_561.out
       have hms104_0 := NB561_560.out
       have hms104_2 := NB561_562.out
       have hms104_3 := NB561_568.out
       have hms104_4 := NB561_577.out
       refine skip_ (w1 := ?_) (by rfl) rfl ?_ ?_
       rotate_left
       ·go_simp
        rfl
       refine hK.out _ _ ⟨((cell_far (p := ⟨gb561, _, none⟩) NB568_561.out _).trans (((cell_far (p := ⟨gb561, _, none⟩) NB568_561.out _).trans (((cell_far (p := ⟨gb561, _, none⟩) NB568_561.out _).trans (hHeld.1)))))), ((cell_far (p := ⟨gb561, _, none⟩) NB568_561.out _).trans (((cell_far (p := ⟨gb561, _, none⟩) NB568_561.out _).trans (((cell_far (p := ⟨gb561, _, none⟩) NB568_561.out _).trans (hHeld.2.1)))))), ((cell_far (p := ⟨gb561, _, none⟩) NB568_561.out _).trans (((cell_far (p := ⟨gb561, _, none⟩) NB568_561.out _).trans (((cell_far (p := ⟨gb561, _, none⟩) NB568_561.out _).trans (hHeld.2.2))))))⟩ (fun hHeld => ?_)
       clear hK K
       refine one_ (i := 6) (N := none) #[true, true, true, true, true, true, true, false] rfl rfl (one_of HT_.out (by kernel_rfl)) (by decide) (fun K hK => ?_)
       have hs105 : w101.cell? ⟨gb562, 0, none⟩ = some (.int .i64 x563000_1) := (blk_cell BK562.out 0).trans rfl
       have hfs105 := blk_frozen BK562.out 0
       have hns105_0 := NB560_562.out
       have hns105_1 := NB561_562.out
       have hns105_3 := NB568_562.out
       have hns105_4 := NB577_562.out
       have hms105_0 := NB562_560.out
       have hms105_1 := NB562_561.out
       have hms105_3 := NB562_568.out
       have hms105_4 := NB562_577.out
       have hs106 : w101.cell? ⟨gb562, 1, none⟩ = some (.int .i64 x563001_1) := (blk_cell BK562.out 1).trans rfl
       have hfs106 := blk_frozen BK562.out 1
       have hns106_0 := NB560_562.out
       have hns106_1 := NB561_562.out
       have hns106_3 := NB568_562.out
       have hns106_4 := NB577_562.out
       have hms106_0 := NB562_560.out
       have hms106_1 := NB562_561.out
       have hms106_3 := NB562_568.out
       have hms106_4 := NB562_577.out
       have hs107 : w101.cell? ⟨gb562, 2, none⟩ = some (.slice none 0 0) := (blk_cell BK562.out 2).trans rfl
       have hfs107 := blk_frozen BK562.out 2
       have hns107_0 := NB560_562.out
       have hns107_1 := NB561_562.out
       have hns107_3 := NB568_562.out
       have hns107_4 := NB577_562.out
       have hms107_0 := NB562_560.out
       have hms107_1 := NB562_561.out
       have hms107_3 := NB562_568.out
       have hms107_4 := NB562_577.out
       refine skip_ (w1 := ?_) (by rfl) rfl ?_ ?_
       rotate_left
       ·go_simp
        rfl
       refine hK.out _ _ ⟨((cell_far (p := ⟨gb562, _, none⟩) NB568_562.out _).trans (((cell_far (p := ⟨gb562, _, none⟩) NB568_562.out _).trans (((cell_far (p := ⟨gb562, _, none⟩) NB568_562.out _).trans (hHeld.1)))))), ((cell_far (p := ⟨gb562, _, none⟩) NB568_562.out _).trans (((cell_far (p := ⟨gb562, _, none⟩) NB568_562.out _).trans (((cell_far (p := ⟨gb562, _, none⟩) NB568_562.out _).trans (hHeld.2.1)))))), ((cell_far (p := ⟨gb562, _, none⟩) NB568_562.out _).trans (((cell_far (p := ⟨gb562, _, none⟩) NB568_562.out _).trans (((cell_far (p := ⟨gb562, _, none⟩) NB568_562.out _).trans (hHeld.2.2))))))⟩ (fun hHeld => ?_)
       clear hK K
       refine pure_ (i := 7) (N := some 8) (v := ?_) (a' := ?_) #[true, true, true, true, true, true, true, true] rfl rfl (any_of HT_.out (by kernel_rfl)) (fun _ _ _ h => h) (Or.inl ⟨by rfl, ?_⟩) ?_ ?_
       rotate_left
       ·intro w'
        go_simp
        with_reducible rfl
       rotate_left
       ·simp only [Act.put, za_, zb_, zc_, i64_w, i32_w]
        rfl
       refine done_ (done_of HT_.out (by kernel_rfl)) ?_
       try go_wp2
       refine bodyPost_ret (results_list (rs := [.cell 6 90, .cell 7 48, .tmp 8]) rfl (by simp) (.cell gb561 90 #[.int .i64 3, .int .i64 x12_1, .int .i64 (wrap64 (x2_1 + t578))] (0, 0) _ rfl (fp BK561 rfl) Try.underlying90 rfl (by kernel_rfl) (.cell gb562 48 #[.int .i64 t563, .int .i64 t564, .slice Ao88 x569002_1.length co88] (0, 0) _ rfl (fp BK562 rfl) Try.underlying48 rfl (by kernel_rfl) (.tmp .nil)))) rfl ?_
       exact ⟨_, _, by first | rfl | (simp [e0_, e1_] <;> rfl) | (simp [*, e0_, e1_] <;> rfl), Kd.R_mv (Kd.R_mono (ok' := fun k_ => True) (Kd.R_far (p := ⟨gb562, 2, none⟩) (Kd.R_far (p := ⟨gb562, 1, none⟩) (Kd.R_far (p := ⟨gb562, 0, none⟩) (Kd.R_far (p := ⟨gb561, 2, none⟩) (Kd.R_far (p := ⟨gb561, 1, none⟩) (Kd.R_far (p := ⟨gb561, 0, none⟩) (Kd.R_types (Kd.R_types HO_569002.out BK561.out (by decide)) BK562.out (by decide)) (fun _ hk => hk.1.2) (.int .i64 3)) (fun _ hk => hk.1.2) (.int .i64 x12_1)) (fun _ hk => hk.1.2) (.int .i64 (wrap64 (x2_1 + t578)))) (fun _ hk => hk.2) (.int .i64 t563)) (fun _ hk => hk.2) (.int .i64 t564)) (fun _ hk => hk.2) (.slice Ao88 x569002_1.length co88)) (fun _ hk => trivial)), Kd.S_mv (Kd.S_mono (ok' := fun k_ => True) (Kd.S_far (p := ⟨gb562, 2, none⟩) (Kd.S_far (p := ⟨gb562, 1, none⟩) (Kd.S_far (p := ⟨gb562, 0, none⟩) (Kd.S_far (p := ⟨gb561, 2, none⟩) (Kd.S_far (p := ⟨gb561, 1, none⟩) (Kd.S_far (p := ⟨gb561, 0, none⟩) (Kd.S_types (Kd.S_types HO574.out BK561.out (by decide)) BK562.out (by decide)) (fun _ hk => hk.1.2) (.int .i64 3)) (fun _ hk => hk.1.2) (.int .i64 x12_1)) (fun _ hk => hk.1.2) (.int .i64 (wrap64 (x2_1 + t578)))) (fun _ hk => hk.2) (.int .i64 t563)) (fun _ hk => hk.2) (.int .i64 t564)) (fun _ hk => hk.2) (.slice Ao88 x569002_1.length co88)) (fun _ hk => trivial)), bm HB⟩
    ·rw [if_neg c19] at H
     exact absurd H (by simp)
   ·rw [if_neg c18] at H
    have c18b0 : decide (x12_1 < a0_0) = false := decide_eq_false c18
    clear c18
    simp only [Option.some.injEq, Prod.mk.injEq] at H
    obtain ⟨rfl, rfl, rfl, rfl, rfl, rfl, rfl⟩ := H
    have hnb108 := NB560_561.out
    have hnc108 := NB561_560.out
    have hnb109 := NB560_562.out
    have hnc109 := NB562_560.out
    have hnb110 := NB560_568.out
    have hnc110 := NB568_560.out
    obtain ⟨hcz111_0, hcz111_1, hcz111_2, hfz111_0, hfz111_1, hfz111_2⟩ := bt3 BK560
    try go_wp2
    refine ev7 (Kd.S_drew HO_10.out) (Kd.R_drew HO_569002.out) (blk_drew BK560.out) (blk_drew BK561.out) (blk_drew BK562.out) (blk_drew BK568.out) (below_drew1 HB.out) ?_
    clear HO_10 HO_569002 BK560 BK561 BK562 BK568 HB
    intro HO_10 HO_569002 BK560 BK561 BK562 BK568 HB
    obtain ⟨Ao118, co118, eo118⟩ := Kd.R_slice HO_569002.out
    (first | subst eo118 | (injection eo118 with f1_ f2_ f3_; have f4_ := f1_.symm; have f5_ := f3_.symm; clear f1_ f2_ f3_; subst f4_; subst f5_))
    refine start_ (n := 9) (S := fun w' => w'.cell? ⟨gb560, 0, none⟩ = some (.int .i64 a0_0) ∧ w'.cell? ⟨gb560, 1, none⟩ = some (.int .i64 a0_1) ∧ w'.cell? ⟨gb560, 2, none⟩ = some (.slice A0_2 l0_2.length c0_2) ∧ w'.cell? ⟨gb568, 0, none⟩ = some (.int .i64 t563) ∧ w'.cell? ⟨gb568, 1, none⟩ = some (.int .i64 t564) ∧ w'.cell? ⟨gb568, 2, none⟩ = some (.slice Ao118 x569002_1.length co118)) (ds := []) #[false, false, false, false, false, false, false, false, false] (by kernel_rfl) rfl rfl ⟨(blk_cell BK560.out 0).trans rfl, (blk_cell BK560.out 1).trans rfl, (blk_cell BK560.out 2).trans rfl, (blk_cell BK568.out 0).trans rfl, (blk_cell BK568.out 1).trans rfl, (blk_cell BK568.out 2).trans rfl⟩ (fun hHeld => ?_); refine with_tabW spec_flGo.tab17 spec_flGo.bits17 (fun HT_ HW_ => ?_)
    generalize wr.drew = w112 at HO_10 HO_569002 BK560 BK561 BK562 BK568 HB hHeld ⊢
    refine pure_ (i := 0) (N := some 69) (v := ?_) (a' := ?_) #[true, false, false, false, false, false, false, false, false] rfl rfl (any_of HT_.out (by kernel_rfl)) (fun _ _ _ h => h) (Or.inl ⟨by rfl, ?_⟩) ?_ ?_
    rotate_left
    ·intro w'
     go_simp
     with_reducible rfl
    rotate_left
    ·simp only [Act.put, za_, zb_, zc_, i64_w, i32_w]
     rfl
    refine pure_ (i := 2) (N := some 71) (v := ?_) (a' := ?_) #[true, false, true, false, false, false, false, false, false] rfl rfl (any_of HT_.out (by kernel_rfl)) (fun _ _ _ h => h) (Or.inl ⟨by rfl, ?_⟩) ?_ ?_
    rotate_left
    ·intro w'
     go_simp
     with_reducible rfl
    rotate_left
    ·simp only [Act.put, za_, zb_, zc_, i64_w, i32_w]
     rfl
    refine pure_ (i := 5) (N := some 74) (v := ?_) (a' := ?_) #[true, false, true, false, false, true, false, false, false] rfl rfl (any_of HT_.out (by kernel_rfl)) (fun _ _ _ h => h) (Or.inl ⟨by rfl, ?_⟩) ?_ ?_
    rotate_left
    ·intro w'
     go_simp
     with_reducible rfl
    rotate_left
    ·simp only [Act.put, za_, zb_, zc_, i64_w, i32_w]
     rfl
    refine take_ (i := 1) (N := some 70) (v := ?_) (a' := ?_) #[true, true, true, false, false, true, false, false, false] rfl rfl (take_ofW HT_.out HW_.out (by kernel_rfl)) (fun _ _ _ h => h) (Or.inl ⟨by rfl, ?_⟩) hHeld ?_ ?_
    rotate_left
    ·rintro w' ⟨s0, s1, s2, s3, s4, s5⟩
     go_simp
     with_reducible rfl
    rotate_left
    ·simp only [Act.put, za_, zb_, zc_, i64_w, i32_w]
     rfl
    refine pure_ (i := 3) (N := some 72) (v := ?_) (a' := ?_) #[true, true, true, true, false, true, false, false, false] rfl rfl (any_of HT_.out (by kernel_rfl)) (fun _ _ _ h => h) (Or.inl ⟨by rfl, ?_⟩) ?_ ?_
    rotate_left
    ·intro w'
     go_simp
     with_reducible rfl
    rotate_left
    ·simp only [Act.put, za_, zb_, zc_, i64_w, i32_w]
     rfl
    refine take_ (i := 4) (N := some 73) (v := ?_) (a' := ?_) #[true, true, true, true, true, true, false, false, false] rfl rfl (take_ofW HT_.out HW_.out (by kernel_rfl)) (fun _ _ _ h => h) (Or.inl ⟨by rfl, ?_⟩) hHeld ?_ ?_
    rotate_left
    ·rintro w' ⟨s0, s1, s2, s3, s4, s5⟩
     go_simp
     with_reducible rfl
    rotate_left
    ·simp only [Act.put, za_, zb_, zc_, i64_w, i32_w]
     rfl
    refine one_ (i := 6) (N := none) #[true, true, true, true, true, true, true, false, false] rfl rfl (one_of HT_.out (by kernel_rfl)) (by decide) (fun K hK => ?_)
    have hs113 : w112.cell? ⟨gb561, 0, none⟩ = some (.int .i64 x562000_1) := (blk_cell BK561.out 0).trans rfl
    have hfs113 := blk_frozen BK561.out 0
    have hns113_0 := NB560_561.out
    have hns113_2 := NB562_561.out
    have hns113_3 := NB568_561.out
    have hms113_0 := NB561_560.out
    have hms113_2 := NB561_562.out
    have hms113_3 := NB561_568.out
    have hs114 : w112.cell? ⟨gb561, 1, none⟩ = some (.int .i64 x562001_1) := (blk_cell BK561.out 1).trans rfl
    have hfs114 := blk_frozen BK561.out 1
    have hns114_0 := NB560_561.out
    have hns114_2 := NB562_561.out
    have hns114_3 := NB568_561.out
    have hms114_0 := NB561_560.out
    have hms114_2 := NB561_562.out
    have hms114_3 := NB561_568.out
    have hs115 : w112.cell? ⟨gb561, 2, none⟩ = some (.int .i64 x562002_1) := (blk_cell BK561.out 2).trans rfl
    have hfs115 := blk_frozen BK561.out 2
    have hns115_0 := NB560_561.out
    have hns115_2 := NB562_561.out
    have hns115_3 := NB568_561.out
    have hms115_0 := NB561_560.out
    have hms115_2 := NB561_562.out
    have hms115_3 := NB561_568.out
    refine skip_ (w1 := ?_) (by rfl) rfl ?_ ?_
    rotate_left
    ·go_simp
     rfl
    refine hK.out _ _ ⟨((cell_far (p := ⟨gb561, _, none⟩) NB560_561.out _).trans (((cell_far (p := ⟨gb561, _, none⟩) NB560_561.out _).trans (((cell_far (p := ⟨gb561, _, none⟩) NB560_561.out _).trans (hHeld.1)))))), ((cell_far (p := ⟨gb561, _, none⟩) NB560_561.out _).trans (((cell_far (p := ⟨gb561, _, none⟩) NB560_561.out _).trans (((cell_far (p := ⟨gb561, _, none⟩) NB560_561.out _).trans (hHeld.2.1)))))), ((cell_far (p := ⟨gb561, _, none⟩) NB560_561.out _).trans (((cell_far (p := ⟨gb561, _, none⟩) NB560_561.out _).trans (((cell_far (p := ⟨gb561, _, none⟩) NB560_561.out _).trans (hHeld.2.2.1)))))), ((cell_far (p := ⟨gb561, _, none⟩) NB568_561.out _).trans (((cell_far (p := ⟨gb561, _, none⟩) NB568_561.out _).trans (((cell_far (p := ⟨gb561, _, none⟩) NB568_561.out _).trans (hHeld.2.2.2.1)))))), ((cell_far (p := ⟨gb561, _, none⟩) NB568_561.out _).trans (((cell_far (p := ⟨gb561, _, none⟩) NB568_561.out _).trans (((cell_far (p := ⟨gb561, _, none⟩) NB568_561.out _).trans (hHeld.2.2.2.2.1)))))), ((cell_far (p := ⟨gb561, _, none⟩) NB568_561.out _).trans (((cell_far (p := ⟨gb561, _, none⟩) NB568_561.out _).trans (((cell_far (p := ⟨gb561, _, none⟩) NB568_561.out _).trans (hHeld.2.2.2.2.2))))))⟩ (fun hHeld => ?_)
    clear hK K
    refine one_ (i := 7) (N := none) #[true, true, true, true, true, true, true, true, false] rfl rfl (one_of HT_.out (by kernel_rfl)) (by decide) (fun K hK => ?_)
    have hs116 : w112.cell? ⟨gb562, 0, none⟩ = some (.int .i64 x563000_1) := (blk_cell BK562.out 0).trans rfl
    have hfs116 := blk_frozen BK562.out 0
    have hns116_0 := NB560_562.out
    have hns116_1 := NB561_562.out
    have hns116_3 := NB568_562.out
    have hms116_0 := NB562_560.out
    have hms116_1 := NB562_561.out
    have hms116_3 := NB562_568.out
    have hs117 : w112.cell? ⟨gb562, 1, none⟩ = some (.int .i64 x563001_1) := (blk_cell BK562.out 1).trans rfl
    have hfs117 := blk_frozen BK562.out 1
    have hns117_0 := NB560_562.out
    have hns117_1 := NB561_562.out
    have hns117_3 := NB568_562.out
    have hms117_0 := NB562_560.out
    have hms117_1 := NB562_561.out
    have hms117_3 := NB562_568.out
    have hs119 : w112.cell? ⟨gb562, 2, none⟩ = some (.slice none 0 0) := (blk_cell BK562.out 2).trans rfl
    have hfs119 := blk_frozen BK562.out 2
    have hns119_0 := NB560_562.out
    have hns119_1 := NB561_562.out
    have hns119_3 := NB568_562.out
    have hms119_0 := NB562_560.out
    have hms119_1 := NB562_561.out
    have hms119_3 := NB562_568.out
    refine skip_ (w1 := ?_) (by rfl) rfl ?_ ?_
    rotate_left
    ·go_simp
     rfl
    refine hK.out _ _ ⟨((cell_far (p := ⟨gb562, _, none⟩) NB560_562.out _).trans (((cell_far (p := ⟨gb562, _, none⟩) NB560_562.out _).trans (((cell_far (p := ⟨gb562, _, none⟩) NB560_562.out _).trans (hHeld.1)))))), ((cell_far (p := ⟨gb562, _, none⟩) NB560_562.out _).trans (((cell_far (p := ⟨gb562, _, none⟩) NB560_562.out _).trans (((cell_far (p := ⟨gb562, _, none⟩) NB560_562.out _).trans (hHeld.2.1)))))), ((cell_far (p := ⟨gb562, _, none⟩) NB560_562.out _).trans (((cell_far (p := ⟨gb562, _, none⟩) NB560_562.out _).trans (((cell_far (p := ⟨gb562, _, none⟩) NB560_562.out _).trans (hHeld.2.2.1)))))), ((cell_far (p := ⟨gb562, _, none⟩) NB568_562.out _).trans (((cell_far (p := ⟨gb562, _, none⟩) NB568_562.out _).trans (((cell_far (p := ⟨gb562, _, none⟩) NB568_562.out _).trans (hHeld.2.2.2.1)))))), ((cell_far (p := ⟨gb562, _, none⟩) NB568_562.out _).trans (((cell_far (p := ⟨gb562, _, none⟩) NB568_562.out _).trans (((cell_far (p := ⟨gb562, _, none⟩) NB568_562.out _).trans (hHeld.2.2.2.2.1)))))), ((cell_far (p := ⟨gb562, _, none⟩) NB568_562.out _).trans (((cell_far (p := ⟨gb562, _, none⟩) NB568_562.out _).trans (((cell_far (p := ⟨gb562, _, none⟩) NB568_562.out _).trans (hHeld.2.2.2.2.2))))))⟩ (fun hHeld => ?_)
    clear hK K
    refine pure_ (i := 8) (N := some 8) (v := ?_) (a' := ?_) #[true, true, true, true, true, true, true, true, true] rfl rfl (any_of HT_.out (by kernel_rfl)) (fun _ _ _ h => h) (Or.inl ⟨by rfl, ?_⟩) ?_ ?_
    rotate_left
    ·intro w'
     go_simp
     with_reducible rfl
    rotate_left
    ·simp only [Act.put, za_, zb_, zc_, i64_w, i32_w]
     rfl
    refine done_ (done_of HT_.out (by kernel_rfl)) ?_
    try go_wp2
    refine bodyPost_ret (results_list (rs := [.cell 6 90, .cell 7 48, .tmp 8]) rfl (by simp) (.cell gb561 90 #[.int .i64 1, .int .i64 a0_0, .int .i64 x2_1] (0, 0) _ rfl (fp BK561 rfl) Try.underlying90 rfl (by kernel_rfl) (.cell gb562 48 #[.int .i64 t563, .int .i64 t564, .slice Ao118 x569002_1.length co118] (0, 0) _ rfl (fp BK562 rfl) Try.underlying48 rfl (by kernel_rfl) (.tmp .nil)))) rfl ?_
    exact ⟨_, _, by first | rfl | (simp [e0_, e1_] <;> rfl) | (simp [*, e0_, e1_] <;> rfl), Kd.R_mv (Kd.R_mono (ok' := fun k_ => True) (Kd.R_far (p := ⟨gb562, 2, none⟩) (Kd.R_far (p := ⟨gb562, 1, none⟩) (Kd.R_far (p := ⟨gb562, 0, none⟩) (Kd.R_far (p := ⟨gb561, 2, none⟩) (Kd.R_far (p := ⟨gb561, 1, none⟩) (Kd.R_far (p := ⟨gb561, 0, none⟩) (Kd.R_types (Kd.R_types HO_569002.out BK561.out (by decide)) BK562.out (by decide)) (fun _ hk => hk.1.2) (.int .i64 1)) (fun _ hk => hk.1.2) (.int .i64 a0_0)) (fun _ hk => hk.1.2) (.int .i64 x2_1)) (fun _ hk => hk.2) (.int .i64 t563)) (fun _ hk => hk.2) (.int .i64 t564)) (fun _ hk => hk.2) (.slice Ao118 x569002_1.length co118)) (fun _ hk => trivial)), Kd.S_mv (Kd.S_mono (ok' := fun k_ => True) (Kd.S_far (p := ⟨gb562, 2, none⟩) (Kd.S_far (p := ⟨gb562, 1, none⟩) (Kd.S_far (p := ⟨gb562, 0, none⟩) (Kd.S_far (p := ⟨gb561, 2, none⟩) (Kd.S_far (p := ⟨gb561, 1, none⟩) (Kd.S_far (p := ⟨gb561, 0, none⟩) (Kd.S_types (Kd.S_types HO_10.out BK561.out (by decide)) BK562.out (by decide)) (fun _ hk => hk.1.2) (.int .i64 1)) (fun _ hk => hk.1.2) (.int .i64 a0_0)) (fun _ hk => hk.1.2) (.int .i64 x2_1)) (fun _ hk => hk.2) (.int .i64 t563)) (fun _ hk => hk.2) (.int .i64 t564)) (fun _ hk => hk.2) (.slice Ao118 x569002_1.length co118)) (fun _ hk => trivial)), bm HB⟩

/-! ### spec_ggGear: function 131 -/
def spec_ggGear.f (a0_0 : Int) (a0_1 : Int) : Option (Bool) := if a0_0 = 6 then (some true) else (some (a0_0 == 7))
set_option maxHeartbeats 8000000 in
set_option maxRecDepth 100000 in
theorem spec_ggGear.calls (a0_0 : Int) (a0_1 : Int) (r : Bool) (w : World) (h : spec_ggGear.f a0_0 a0_1 = some r) :
  Calls Try.prog 131 #[.agg #[.int .i64 a0_0, .int .i64 a0_1]] w fun e w' => e = .returned (.bool r) ∧ Below w.heap.size w w' := by
 have HB := Aside0.mk (Below.refl w.heap.size w)
 have H : (if a0_0 = 6 then (some true) else (some (a0_0 == 7))) = some r := h
 clear h
 by_cases c2 : a0_0 = 6
 ·rw [if_pos c2] at H
  have c2b0 : (a0_0 == 6) = true := beq_iff_eq.mpr c2
  have c2b1 : (a0_0 != 6) = false := bne_eq_false_iff_eq.mpr c2
  clear c2
  obtain rfl := Option.some.inj H
  go_enter Try.func131, Try.ntmps131
  go_wp2_with (first | ((with_reducible refine gate_dst (N := 1) rfl ?_); refine box_event ?hg (N := 1) ?hd (cs := #[.int .i64 a0_0, .int .i64 a0_1]) (t := 78) ?hr ?_; (case hd => rfl); (case hg => rfl); (case hr => first | (go_simp; done) | (go_simp; rfl)); intro gb581 hg w3 hbox hb; refine ev4 (bs HB hb) (hbox) (gle hg HB) (gle hg HB) ?_; clear HB; intro HB BK581 GW581 GE581; clear hb hbox hg; obtain ⟨hcz4_0, hcz4_1, hfz4_0, hfz4_1⟩ := bt2 BK581))
  go_ret
  exact ⟨by first | rfl | (simp [e0_, e1_] <;> rfl) | (simp [*, e0_, e1_] <;> rfl), bm HB⟩
 ·rw [if_neg c2] at H
  have c2b0 : (a0_0 == 6) = false := beq_eq_false_iff_ne.mpr c2
  have c2b1 : (a0_0 != 6) = true := bne_iff_ne.mpr c2
  obtain rfl := Option.some.inj H
  go_enter Try.func131, Try.ntmps131
  go_wp2_with (first | ((with_reducible refine gate_dst (N := 1) rfl ?_); refine box_event ?hg (N := 1) ?hd (cs := #[.int .i64 a0_0, .int .i64 a0_1]) (t := 78) ?hr ?_; (case hd => rfl); (case hg => rfl); (case hr => first | (go_simp; done) | (go_simp; rfl)); intro gb581 hg w5 hbox hb; refine ev4 (bs HB hb) (hbox) (gle hg HB) (gle hg HB) ?_; clear HB; intro HB BK581 GW581 GE581; clear hb hbox hg; obtain ⟨hcz6_0, hcz6_1, hfz6_0, hfz6_1⟩ := bt2 BK581))
  go_ret
  exact ⟨by first | rfl | (simp [e0_, e1_] <;> rfl) | (simp [*, e0_, e1_] <;> rfl), bm HB⟩

/-! ### spec_ggNear: function 132 -/
mutual
def spec_ggNear.j0 : Nat → Int → Int → Int → List Int → Int → Int → List (S78) → Option (List Int)
 | 0, _, _, _, _, _, _, _ => none
 | k + 1, x1, x5, x6, x7, x583000, x583001, x583002 => if x6 > 0 then (if x7.length < 17592186044416 then (spec_ggNear.j1 k x1 x5 x6 (x7 ++ [wrap64 (x1 - 1)]) x583000 x583001 x583002) else (none)) else (spec_ggNear.j1 k x1 x5 x6 x7 x583000 x583001 x583002)
def spec_ggNear.j1 : Nat → Int → Int → Int → List Int → Int → Int → List (S78) → Option (List Int)
 | 0, _, _, _, _, _, _, _ => none
 | k + 1, x1, x5, x6, x7, x583000, x583001, x583002 => if (wrap64 (x6 + 1)) < x583001 then (if x7.length < 17592186044416 then ((some (x7 ++ [wrap64 (x1 + 1)] : List Int)).bind fun y589 => (if (wrap64 (x5 + 1)) < x583000 then (if y589.length < 17592186044416 then (some (y589 ++ [wrap64 (x1 + x583001)])) else (none)) else (some y589))) else (none)) else (if (wrap64 (x5 + 1)) < x583000 then (if x7.length < 17592186044416 then (some (x7 ++ [wrap64 (x1 + x583001)])) else (none)) else (some x7))
end
def spec_ggNear.f (k : Nat) (a0_0 : Int) (a0_1 : Int) (l0_2 : List (S78)) (a1 : Int) : Option (List Int) := if a0_1 = 0 then (none) else (if (wrap64 (Int.tdiv a1 a0_1)) > 0 then (if ([] : List Int).length < 17592186044416 then (spec_ggNear.j0 k a1 (wrap64 (Int.tdiv a1 a0_1)) (Int.tmod a1 a0_1) (([] : List Int) ++ [wrap64 (a1 - a0_1)]) a0_0 a0_1 l0_2) else (none)) else (spec_ggNear.j0 k a1 (wrap64 (Int.tdiv a1 a0_1)) (Int.tmod a1 a0_1) ([] : List Int) a0_0 a0_1 l0_2))
set_option maxHeartbeats 8000000 in
set_option maxRecDepth 100000 in
theorem spec_ggNear.calls (k : Nat) (a0_0 : Int) (a0_1 : Int) (A0_2 : Option Addr) (c0_2 : Nat) (l0_2 : List (S78)) (a1 : Int) (r : List Int) (w : World) (hr0_2 : Kd.C k78 w A0_2 l0_2.length l0_2) (hc0_2 : l0_2.length ≤ c0_2) (h : spec_ggNear.f k a0_0 a0_1 l0_2 a1 = some r) :
  Calls Try.prog 132 #[.agg #[.int .i64 a0_0, .int .i64 a0_1, .slice A0_2 l0_2.length c0_2], .int .i64 a1] w fun e w' => ∃ v0_ : Value, e = .returned (v0_) ∧ Kd.R (Kd.int .i64) 3 w' w.heap.size (fun _ => True) v0_ r ∧ Below w.heap.size w w' := by
 have HR0_2 := Aside0.mk hr0_2
 have HC0_2 := Aside0.mk hc0_2
 clear hr0_2 hc0_2
 have HB := Aside0.mk (Below.refl w.heap.size w)
 have H : (if a0_1 = 0 then (none) else (if (wrap64 (Int.tdiv a1 a0_1)) > 0 then (if ([] : List Int).length < 17592186044416 then (spec_ggNear.j0 k a1 (wrap64 (Int.tdiv a1 a0_1)) (Int.tmod a1 a0_1) (([] : List Int) ++ [wrap64 (a1 - a0_1)]) a0_0 a0_1 l0_2) else (none)) else (spec_ggNear.j0 k a1 (wrap64 (Int.tdiv a1 a0_1)) (Int.tmod a1 a0_1) ([] : List Int) a0_0 a0_1 l0_2))) = some r := h
 clear h
 by_cases c3 : a0_1 = 0
 ·rw [if_pos c3] at H
  exact absurd H (by simp)
 ·rw [if_neg c3] at H
  have c3b0 : (a0_1 == 0) = false := beq_eq_false_iff_ne.mpr c3
  have c3b1 : (a0_1 != 0) = true := bne_iff_ne.mpr c3
  have HC4 := Aside0.mk H
  clear H
  go_enter Try.func132, Try.ntmps132
  go_upto_if 17 with (first | ((with_reducible refine gate_dst (N := 2) rfl ?_); refine box_event ?hg (N := 2) ?hd (cs := #[.int .i64 a0_0, .int .i64 a0_1, .slice A0_2 l0_2.length c0_2]) (t := 48) ?hr ?_; (case hd => rfl); (case hg => rfl); (case hr => first | (go_simp; done) | (go_simp; rfl)); intro gb582 hg w5 hbox hb; refine ev4 (bs HB hb) (hbox) (gle hg HB) (gle hg HB) ?_; clear HB; intro HB BK582 GW582 GE582; clear hb hbox hg; obtain ⟨hcz6_0, hcz6_1, hcz6_2, hfz6_0, hfz6_1, hfz6_2⟩ := bt3 BK582))
  repeat (go_quiet (first | ((with_reducible refine gate_dst (N := 2) rfl ?_); refine box_event ?hg (N := 2) ?hd (cs := #[.int .i64 a0_0, .int .i64 a0_1, .slice A0_2 l0_2.length c0_2]) (t := 48) ?hr ?_; (case hd => rfl); (case hg => rfl); (case hr => first | (go_simp; done) | (go_simp; rfl)); intro gb582 hg w5 hbox hb; refine ev4 (bs HB hb) (hbox) (gle hg HB) (gle hg HB) ?_; clear HB; intro HB BK582 GW582 GE582; clear hb hbox hg; obtain ⟨hcz6_0, hcz6_1, hcz6_2, hfz6_0, hfz6_1, hfz6_2⟩ := bt3 BK582)); go_upto_if 17 with (first | ((with_reducible refine gate_dst (N := 2) rfl ?_); refine box_event ?hg (N := 2) ?hd (cs := #[.int .i64 a0_0, .int .i64 a0_1, .slice A0_2 l0_2.length c0_2]) (t := 48) ?hr ?_; (case hd => rfl); (case hg => rfl); (case hr => first | (go_simp; done) | (go_simp; rfl)); intro gb582 hg w5 hbox hb; refine ev4 (bs HB hb) (hbox) (gle hg HB) (gle hg HB) ?_; clear HB; intro HB BK582 GW582 GE582; clear hb hbox hg; obtain ⟨hcz6_0, hcz6_1, hcz6_2, hfz6_0, hfz6_1, hfz6_2⟩ := bt3 BK582)))
  (try simp only [Act.put, za_, zb_, zc_])
  go_cut [7] (fun v7 wc => ∃ (kq : Nat) (x7_3 : List Int), Aside0 (spec_ggNear.j0 kq a1 (wrap64 (Int.tdiv a1 a0_1)) (Int.tmod a1 a0_1) x7_3 a0_0 a0_1 l0_2 = some r) ∧ Aside0 (kq ≤ k) ∧ Aside0 (Kd.R (Kd.int .i64) 3 wc w.heap.size (fun _ => True) v7 x7_3) ∧ Aside0 (wc.heap[gb582]? = some (.cells #[.int .i64 a0_0, .int .i64 a0_1, (.slice A0_2 l0_2.length c0_2)] 48 (0, 0))) ∧ Aside0 (Below w.heap.size w wc))
  case first =>
   have H := HC4.out
   clear HC4
   by_cases c7 : (wrap64 (Int.tdiv a1 a0_1)) > 0
   ·rw [if_pos c7] at H
    have c7b0 : decide (0 < (wrap64 (Int.tdiv a1 a0_1))) = true := decide_eq_true c7
    clear c7
    (first | rw [c7b0] | (simp only [i64_w, i32_w]; rw [c7b0]) | skip)
    by_cases c8 : ([] : List Int).length < 17592186044416
    ·rw [if_pos c8] at H
     have LMc8 := Aside0.mk c8
     clear c8
     obtain ⟨y583, hy583⟩ : ∃ y_ : List Int, y_ = (([] : List Int) ++ [wrap64 (a1 - a0_1)]) := ⟨_, rfl⟩
     replace H : (spec_ggNear.j0 k a1 (wrap64 (Int.tdiv a1 a0_1)) (Int.tmod a1 a0_1) y583 a0_0 a0_1 l0_2) = some r := by first | (rw [hy583]; with_reducible exact H) | (have H2_ := (Option.bind_some _ _).symm.trans H; rw [hy583]; with_reducible exact H2_) | (have H2_ := (Option.bind_some _ _).symm.trans H; with_reducible exact H2_) | with_reducible exact H | (rw [hy583]; exact H) | exact H
     have Ny583 := Aside0.mk hy583
     clear hy583
     have H' := Aside0.mk H
     clear H
     obtain ⟨hcz9_0, hcz9_1, hcz9_2, hfz9_0, hfz9_1, hfz9_2⟩ := bt3 BK582
     go_wp2_with (first | ((with_reducible refine gate_builtin (b := .append) (xs := #[.tmp 18, .tmp 23]) rfl ?_); at_builtin; refine Kd.R_append (Kd.int .i64) (w0 := w) w.heap.size rfl (.tmp 18) (.tmp 23) 22 3 (.int .i64 0) 8 rfl Try.underlying22 info3 rfl (by decide) (by omega) (.slice none 0 0) ([] : List Int) (wrap64 (a1 - a0_1)) [.int .i64 (wrap64 (a1 - a0_1))] (fun _ => True) (fun _ => False) rfl rfl ?aP (fun _ hk => hk.elim) ?aF ?aO ?aB ?aS ?aL ?_; (case aP => exact rfl); (case aB => exact (bm HB)); (case aF => exact (fun _ _ => trivial)); (case aO => exact ((Kd.R_nil _ _ _ _ (fun _ => True)))); (case aS => exact (below_size (bm HB))); (case aL => have := LMc8.out; omega); intro v584 w10 ho hb hg hat; rw [← Ny583.out] at ho; refine ev3 (blk_grown (km_ BK582) hg (by simp [Value.ownBlock])) (hb) (ho) ?_; clear BK582 HB; intro BK582 HB HO585; clear ho hb hg hat))
     repeat (go_quiet (first | ((with_reducible refine gate_builtin (b := .append) (xs := #[.tmp 18, .tmp 23]) rfl ?_); at_builtin; refine Kd.R_append (Kd.int .i64) (w0 := w) w.heap.size rfl (.tmp 18) (.tmp 23) 22 3 (.int .i64 0) 8 rfl Try.underlying22 info3 rfl (by decide) (by omega) (.slice none 0 0) ([] : List Int) (wrap64 (a1 - a0_1)) [.int .i64 (wrap64 (a1 - a0_1))] (fun _ => True) (fun _ => False) rfl rfl ?aP (fun _ hk => hk.elim) ?aF ?aO ?aB ?aS ?aL ?_; (case aP => exact rfl); (case aB => exact (bm HB)); (case aF => exact (fun _ _ => trivial)); (case aO => exact ((Kd.R_nil _ _ _ _ (fun _ => True)))); (case aS => exact (below_size (bm HB))); (case aL => have := LMc8.out; omega); intro v584 w10 ho hb hg hat; rw [← Ny583.out] at ho; refine ev3 (blk_grown (km_ BK582) hg (by simp [Value.ownBlock])) (hb) (ho) ?_; clear BK582 HB; intro BK582 HB HO585; clear ho hb hg hat)); try go_wp2_with (first | ((with_reducible refine gate_builtin (b := .append) (xs := #[.tmp 18, .tmp 23]) rfl ?_); at_builtin; refine Kd.R_append (Kd.int .i64) (w0 := w) w.heap.size rfl (.tmp 18) (.tmp 23) 22 3 (.int .i64 0) 8 rfl Try.underlying22 info3 rfl (by decide) (by omega) (.slice none 0 0) ([] : List Int) (wrap64 (a1 - a0_1)) [.int .i64 (wrap64 (a1 - a0_1))] (fun _ => True) (fun _ => False) rfl rfl ?aP (fun _ hk => hk.elim) ?aF ?aO ?aB ?aS ?aL ?_; (case aP => exact rfl); (case aB => exact (bm HB)); (case aF => exact (fun _ _ => trivial)); (case aO => exact ((Kd.R_nil _ _ _ _ (fun _ => True)))); (case aS => exact (below_size (bm HB))); (case aL => have := LMc8.out; omega); intro v584 w10 ho hb hg hat; rw [← Ny583.out] at ho; refine ev3 (blk_grown (km_ BK582) hg (by simp [Value.ownBlock])) (hb) (ho) ?_; clear BK582 HB; intro BK582 HB HO585; clear ho hb hg hat)))
     go_meet
     case rel => exact ⟨_, (y583), H', ⟨by first | omega | exact Nat.le_refl _⟩, ⟨Kd.R_mv HO585.out⟩, ⟨km_ BK582⟩, ⟨bm HB⟩⟩
    ·rw [if_neg c8] at H
     exact absurd H (by simp)
   ·rw [if_neg c7] at H
    have c7b0 : decide (0 < (wrap64 (Int.tdiv a1 a0_1))) = false := decide_eq_false c7
    clear c7
    (first | rw [c7b0] | (simp only [i64_w, i32_w]; rw [c7b0]) | skip)
    have H' := Aside0.mk H
    clear H
    go_wp2
    repeat (go_quiet (fail); try go_wp2)
    go_meet
    case rel => exact ⟨_, (([] : List Int)), H', ⟨by first | omega | exact Nat.le_refl _⟩, ⟨by first | exact Kd.R_nil _ _ _ _ _ | exact Kd.N_nil _ _ _ _ _ | exact Kd.V_nil _ _ _ _ _ | exact Kd.Q_nil _ _ _ _ _ | exact Kd.S_nil _ _ _ _ _⟩, ⟨km_ BK582⟩, ⟨bm HB⟩⟩
  case rest =>
   clear HC4
   try clear c1
   try clear c3
   try clear c3b0
   try clear c3b1
   try clear p6
   try clear hcz6_0
   try clear hcz6_1
   try clear hcz6_2
   try clear hfz6_0
   try clear hfz6_1
   try clear hfz6_2
   obtain ⟨kq, x7_3, HA, HJ3, HO_7, BK582, HB⟩ := hcut
   cases kq with
   | zero => exact absurd HA.out (by simp [spec_ggNear.j0])
   | succ kj3 =>
    have H := HA.out
    clear HA
    simp only [spec_ggNear.j0] at H
    have HC11 := Aside0.mk H
    clear H
    go_upto_if 26 with (fail)
    repeat (go_quiet (fail); go_upto_if 26 with (fail))
    go_cut [7] (fun v7 wc => ∃ (kq : Nat) (x7_10 : List Int), Aside0 (spec_ggNear.j1 kq a1 (wrap64 (Int.tdiv a1 a0_1)) (Int.tmod a1 a0_1) x7_10 a0_0 a0_1 l0_2 = some r) ∧ Aside0 (kq ≤ kj3) ∧ Aside0 (Kd.R (Kd.int .i64) 3 wc w.heap.size (fun _ => True) v7 x7_10) ∧ Aside0 (wc.heap[gb582]? = some (.cells #[.int .i64 a0_0, .int .i64 a0_1, (.slice A0_2 l0_2.length c0_2)] 48 (0, 0))) ∧ Aside0 (Below w.heap.size w wc))
    case first =>
     have H := HC11.out
     clear HC11
     by_cases c12 : (Int.tmod a1 a0_1) > 0
     ·rw [if_pos c12] at H
      have c12b0 : decide (0 < (Int.tmod a1 a0_1)) = true := decide_eq_true c12
      clear c12
      (first | rw [c12b0] | (simp only [i64_w, i32_w]; rw [c12b0]) | skip)
      by_cases c13 : x7_3.length < 17592186044416
      ·rw [if_pos c13] at H
       have LMc13 := Aside0.mk c13
       clear c13
       obtain ⟨y586, hy586⟩ : ∃ y_ : List Int, y_ = (x7_3 ++ [wrap64 (a1 - 1)]) := ⟨_, rfl⟩
       replace H : (spec_ggNear.j1 kj3 a1 (wrap64 (Int.tdiv a1 a0_1)) (Int.tmod a1 a0_1) y586 a0_0 a0_1 l0_2) = some r := by first | (rw [hy586]; with_reducible exact H) | (have H2_ := (Option.bind_some _ _).symm.trans H; rw [hy586]; with_reducible exact H2_) | (have H2_ := (Option.bind_some _ _).symm.trans H; with_reducible exact H2_) | with_reducible exact H | (rw [hy586]; exact H) | exact H
       have Ny586 := Aside0.mk hy586
       clear hy586
       have H' := Aside0.mk H
       clear H
       go_wp2_with (first | ((with_reducible refine gate_builtin (b := .append) (xs := #[.tmp 27, .tmp 30]) rfl ?_); at_builtin; refine Kd.R_append (Kd.int .i64) (w0 := w) w.heap.size rfl (.tmp 27) (.tmp 30) 22 3 (.int .i64 0) 8 rfl Try.underlying22 info3 rfl (by decide) (by omega) u7 x7_3 (wrap64 (a1 - 1)) [.int .i64 (wrap64 (a1 - 1))] (fun _ => True) (fun _ => False) rfl rfl ?aP (fun _ hk => hk.elim) ?aF ?aO ?aB ?aS ?aL ?_; (case aP => exact rfl); (case aB => exact (bm HB)); (case aF => exact (fun _ _ => trivial)); (case aO => exact (Kd.R_mv HO_7.out)); (case aS => exact (below_size (bm HB))); (case aL => have := LMc13.out; omega); intro v587 w14 ho hb hg hat; rw [← Ny586.out] at ho; refine ev3 (blk_grown (km_ BK582) hg (Kd.R_ne HO_7.out BK582.out (by decide))) (hb) (ho) ?_; clear BK582 HB HO_7; intro BK582 HB HO588; clear ho hb hg hat))
       repeat (go_quiet (first | ((with_reducible refine gate_builtin (b := .append) (xs := #[.tmp 27, .tmp 30]) rfl ?_); at_builtin; refine Kd.R_append (Kd.int .i64) (w0 := w) w.heap.size rfl (.tmp 27) (.tmp 30) 22 3 (.int .i64 0) 8 rfl Try.underlying22 info3 rfl (by decide) (by omega) u7 x7_3 (wrap64 (a1 - 1)) [.int .i64 (wrap64 (a1 - 1))] (fun _ => True) (fun _ => False) rfl rfl ?aP (fun _ hk => hk.elim) ?aF ?aO ?aB ?aS ?aL ?_; (case aP => exact rfl); (case aB => exact (bm HB)); (case aF => exact (fun _ _ => trivial)); (case aO => exact (Kd.R_mv HO_7.out)); (case aS => exact (below_size (bm HB))); (case aL => have := LMc13.out; omega); intro v587 w14 ho hb hg hat; rw [← Ny586.out] at ho; refine ev3 (blk_grown (km_ BK582) hg (Kd.R_ne HO_7.out BK582.out (by decide))) (hb) (ho) ?_; clear BK582 HB HO_7; intro BK582 HB HO588; clear ho hb hg hat)); try go_wp2_with (first | ((with_reducible refine gate_builtin (b := .append) (xs := #[.tmp 27, .tmp 30]) rfl ?_); at_builtin; refine Kd.R_append (Kd.int .i64) (w0 := w) w.heap.size rfl (.tmp 27) (.tmp 30) 22 3 (.int .i64 0) 8 rfl Try.underlying22 info3 rfl (by decide) (by omega) u7 x7_3 (wrap64 (a1 - 1)) [.int .i64 (wrap64 (a1 - 1))] (fun _ => True) (fun _ => False) rfl rfl ?aP (fun _ hk => hk.elim) ?aF ?aO ?aB ?aS ?aL ?_; (case aP => exact rfl); (case aB => exact (bm HB)); (case aF => exact (fun _ _ => trivial)); (case aO => exact (Kd.R_mv HO_7.out)); (case aS => exact (below_size (bm HB))); (case aL => have := LMc13.out; omega); intro v587 w14 ho hb hg hat; rw [← Ny586.out] at ho; refine ev3 (blk_grown (km_ BK582) hg (Kd.R_ne HO_7.out BK582.out (by decide))) (hb) (ho) ?_; clear BK582 HB HO_7; intro BK582 HB HO588; clear ho hb hg hat)))
       go_meet
       case rel => exact ⟨_, (y586), H', ⟨by have := HJ3.out; first | omega | exact Nat.le_refl _⟩, ⟨Kd.R_mv HO588.out⟩, ⟨km_ BK582⟩, ⟨bm HB⟩⟩
      ·rw [if_neg c13] at H
       exact absurd H (by simp)
     ·rw [if_neg c12] at H
      have c12b0 : decide (0 < (Int.tmod a1 a0_1)) = false := decide_eq_false c12
      clear c12
      (first | rw [c12b0] | (simp only [i64_w, i32_w]; rw [c12b0]) | skip)
      have H' := Aside0.mk H
      clear H
      go_wp2
      repeat (go_quiet (fail); try go_wp2)
      go_meet
      case rel => exact ⟨_, (x7_3), H', ⟨by have := HJ3.out; first | omega | exact Nat.le_refl _⟩, ⟨Kd.R_mv HO_7.out⟩, ⟨km_ BK582⟩, ⟨bm HB⟩⟩
    case rest =>
     clear HC11
     try clear c1
     try clear c3
     try clear c3b0
     try clear c3b1
     try clear p6
     try clear c13
     try clear hcz6_0
     try clear hcz6_1
     try clear hcz6_2
     try clear hfz6_0
     try clear hfz6_1
     try clear hfz6_2
     try clear p6
     obtain ⟨kq, x7_10, HA, HJ10, HO_7, BK582, HB⟩ := hcut
     cases kq with
     | zero => exact absurd HA.out (by simp [spec_ggNear.j1])
     | succ kj10 =>
      have H := HA.out
      clear HA
      simp only [spec_ggNear.j1] at H
      by_cases c15 : (wrap64 ((Int.tmod a1 a0_1) + 1)) < a0_1
      ·rw [if_pos c15] at H
       have c15b0 : decide ((wrap64 ((Int.tmod a1 a0_1) + 1)) < a0_1) = true := decide_eq_true c15
       clear c15
       by_cases c16 : x7_10.length < 17592186044416
       ·rw [if_pos c16] at H
        have LMc16 := Aside0.mk c16
        clear c16
        obtain ⟨y589, hy589⟩ : ∃ y_ : List Int, y_ = (x7_10 ++ [wrap64 (a1 + 1)]) := ⟨_, rfl⟩
        replace H : (if (wrap64 ((wrap64 (Int.tdiv a1 a0_1)) + 1)) < a0_0 then (if y589.length < 17592186044416 then (some (y589 ++ [wrap64 (a1 + a0_1)])) else (none)) else (some y589)) = some r := by first | (rw [hy589]; with_reducible exact H) | (have H2_ := (Option.bind_some _ _).symm.trans H; rw [hy589]; with_reducible exact H2_) | (have H2_ := (Option.bind_some _ _).symm.trans H; with_reducible exact H2_) | with_reducible exact H | (rw [hy589]; exact H) | exact H
        have Ny589 := Aside0.mk hy589
        clear hy589
        by_cases c17 : (wrap64 ((wrap64 (Int.tdiv a1 a0_1)) + 1)) < a0_0
        ·rw [if_pos c17] at H
         have c17b0 : decide ((wrap64 ((wrap64 (Int.tdiv a1 a0_1)) + 1)) < a0_0) = true := decide_eq_true c17
         clear c17
         by_cases c18 : y589.length < 17592186044416
         ·rw [if_pos c18] at H
          have LMc18 := Aside0.mk c18
          clear c18
          obtain ⟨y592, hy592⟩ : ∃ y_ : List Int, y_ = (y589 ++ [wrap64 (a1 + a0_1)]) := ⟨_, rfl⟩
          replace H : (some y592) = some r := by first | (rw [hy592]; with_reducible exact H) | (have H2_ := (Option.bind_some _ _).symm.trans H; rw [hy592]; with_reducible exact H2_) | (have H2_ := (Option.bind_some _ _).symm.trans H; with_reducible exact H2_) | with_reducible exact H | (rw [hy592]; exact H) | exact H
          have Ny592 := Aside0.mk hy592
          clear hy592
          obtain rfl := Option.some.inj H
          obtain ⟨hcz19_0, hcz19_1, hcz19_2, hfz19_0, hfz19_1, hfz19_2⟩ := bt3 BK582
          go_wp2_with (first | ((with_reducible refine gate_builtin (b := .append) (xs := #[.tmp 37, .tmp 40]) rfl ?_); at_builtin; refine Kd.R_append (Kd.int .i64) (w0 := w) w.heap.size rfl (.tmp 37) (.tmp 40) 22 3 (.int .i64 0) 8 rfl Try.underlying22 info3 rfl (by decide) (by omega) u7 x7_10 (wrap64 (a1 + 1)) [.int .i64 (wrap64 (a1 + 1))] (fun _ => True) (fun _ => False) rfl rfl ?aP (fun _ hk => hk.elim) ?aF ?aO ?aB ?aS ?aL ?_; (case aP => exact rfl); (case aB => exact (bm HB)); (case aF => exact (fun _ _ => trivial)); (case aO => exact (Kd.R_mv HO_7.out)); (case aS => exact (below_size (bm HB))); (case aL => have := LMc16.out; omega); intro v590 w20 ho hb hg hat; rw [← Ny589.out] at ho; refine ev3 (blk_grown (km_ BK582) hg (Kd.R_ne HO_7.out BK582.out (by decide))) (hb) (ho) ?_; clear BK582 HB HO_7; intro BK582 HB HO591; clear ho hb hg hat; obtain ⟨hcz21_0, hcz21_1, hcz21_2, hfz21_0, hfz21_1, hfz21_2⟩ := bt3 BK582) | ((with_reducible refine gate_builtin (b := .append) (xs := #[.tmp 47, .tmp 52]) rfl ?_); at_builtin; refine Kd.R_append (Kd.int .i64) (w0 := w) w.heap.size rfl (.tmp 47) (.tmp 52) 22 3 (.int .i64 0) 8 rfl Try.underlying22 info3 rfl (by decide) (by omega) v590 y589 (wrap64 (a1 + a0_1)) [.int .i64 (wrap64 (a1 + a0_1))] (fun _ => True) (fun _ => False) rfl rfl ?aP (fun _ hk => hk.elim) ?aF ?aO ?aB ?aS ?aL ?_; (case aP => exact rfl); (case aB => exact (bm HB)); (case aF => exact (fun _ _ => trivial)); (case aO => exact (Kd.R_mv HO591.out)); (case aS => exact (below_size (bm HB))); (case aL => have := LMc18.out; omega); intro v593 w22 ho hb hg hat; rw [← Ny592.out] at ho; refine ev3 (blk_grown (km_ BK582) hg (Kd.R_ne HO591.out BK582.out (by decide))) (hb) (ho) ?_; clear BK582 HB HO591; intro BK582 HB HO594; clear ho hb hg hat))
          repeat (go_quiet (first | ((with_reducible refine gate_builtin (b := .append) (xs := #[.tmp 37, .tmp 40]) rfl ?_); at_builtin; refine Kd.R_append (Kd.int .i64) (w0 := w) w.heap.size rfl (.tmp 37) (.tmp 40) 22 3 (.int .i64 0) 8 rfl Try.underlying22 info3 rfl (by decide) (by omega) u7 x7_10 (wrap64 (a1 + 1)) [.int .i64 (wrap64 (a1 + 1))] (fun _ => True) (fun _ => False) rfl rfl ?aP (fun _ hk => hk.elim) ?aF ?aO ?aB ?aS ?aL ?_; (case aP => exact rfl); (case aB => exact (bm HB)); (case aF => exact (fun _ _ => trivial)); (case aO => exact (Kd.R_mv HO_7.out)); (case aS => exact (below_size (bm HB))); (case aL => have := LMc16.out; omega); intro v590 w20 ho hb hg hat; rw [← Ny589.out] at ho; refine ev3 (blk_grown (km_ BK582) hg (Kd.R_ne HO_7.out BK582.out (by decide))) (hb) (ho) ?_; clear BK582 HB HO_7; intro BK582 HB HO591; clear ho hb hg hat; obtain ⟨hcz21_0, hcz21_1, hcz21_2, hfz21_0, hfz21_1, hfz21_2⟩ := bt3 BK582) | ((with_reducible refine gate_builtin (b := .append) (xs := #[.tmp 47, .tmp 52]) rfl ?_); at_builtin; refine Kd.R_append (Kd.int .i64) (w0 := w) w.heap.size rfl (.tmp 47) (.tmp 52) 22 3 (.int .i64 0) 8 rfl Try.underlying22 info3 rfl (by decide) (by omega) v590 y589 (wrap64 (a1 + a0_1)) [.int .i64 (wrap64 (a1 + a0_1))] (fun _ => True) (fun _ => False) rfl rfl ?aP (fun _ hk => hk.elim) ?aF ?aO ?aB ?aS ?aL ?_; (case aP => exact rfl); (case aB => exact (bm HB)); (case aF => exact (fun _ _ => trivial)); (case aO => exact (Kd.R_mv HO591.out)); (case aS => exact (below_size (bm HB))); (case aL => have := LMc18.out; omega); intro v593 w22 ho hb hg hat; rw [← Ny592.out] at ho; refine ev3 (blk_grown (km_ BK582) hg (Kd.R_ne HO591.out BK582.out (by decide))) (hb) (ho) ?_; clear BK582 HB HO591; intro BK582 HB HO594; clear ho hb hg hat)); try go_wp2_with (first | ((with_reducible refine gate_builtin (b := .append) (xs := #[.tmp 37, .tmp 40]) rfl ?_); at_builtin; refine Kd.R_append (Kd.int .i64) (w0 := w) w.heap.size rfl (.tmp 37) (.tmp 40) 22 3 (.int .i64 0) 8 rfl Try.underlying22 info3 rfl (by decide) (by omega) u7 x7_10 (wrap64 (a1 + 1)) [.int .i64 (wrap64 (a1 + 1))] (fun _ => True) (fun _ => False) rfl rfl ?aP (fun _ hk => hk.elim) ?aF ?aO ?aB ?aS ?aL ?_; (case aP => exact rfl); (case aB => exact (bm HB)); (case aF => exact (fun _ _ => trivial)); (case aO => exact (Kd.R_mv HO_7.out)); (case aS => exact (below_size (bm HB))); (case aL => have := LMc16.out; omega); intro v590 w20 ho hb hg hat; rw [← Ny589.out] at ho; refine ev3 (blk_grown (km_ BK582) hg (Kd.R_ne HO_7.out BK582.out (by decide))) (hb) (ho) ?_; clear BK582 HB HO_7; intro BK582 HB HO591; clear ho hb hg hat; obtain ⟨hcz21_0, hcz21_1, hcz21_2, hfz21_0, hfz21_1, hfz21_2⟩ := bt3 BK582) | ((with_reducible refine gate_builtin (b := .append) (xs := #[.tmp 47, .tmp 52]) rfl ?_); at_builtin; refine Kd.R_append (Kd.int .i64) (w0 := w) w.heap.size rfl (.tmp 47) (.tmp 52) 22 3 (.int .i64 0) 8 rfl Try.underlying22 info3 rfl (by decide) (by omega) v590 y589 (wrap64 (a1 + a0_1)) [.int .i64 (wrap64 (a1 + a0_1))] (fun _ => True) (fun _ => False) rfl rfl ?aP (fun _ hk => hk.elim) ?aF ?aO ?aB ?aS ?aL ?_; (case aP => exact rfl); (case aB => exact (bm HB)); (case aF => exact (fun _ _ => trivial)); (case aO => exact (Kd.R_mv HO591.out)); (case aS => exact (below_size (bm HB))); (case aL => have := LMc18.out; omega); intro v593 w22 ho hb hg hat; rw [← Ny592.out] at ho; refine ev3 (blk_grown (km_ BK582) hg (Kd.R_ne HO591.out BK582.out (by decide))) (hb) (ho) ?_; clear BK582 HB HO591; intro BK582 HB HO594; clear ho hb hg hat)))
          go_ret
          exact ⟨_, by first | rfl | (simp [e0_, e1_] <;> rfl) | (simp [*, e0_, e1_] <;> rfl), Kd.R_mv HO594.out, bm HB⟩
         ·rw [if_neg c18] at H
          exact absurd H (by simp)
        ·rw [if_neg c17] at H
         have c17b0 : decide ((wrap64 ((wrap64 (Int.tdiv a1 a0_1)) + 1)) < a0_0) = false := decide_eq_false c17
         clear c17
         obtain rfl := Option.some.inj H
         obtain ⟨hcz23_0, hcz23_1, hcz23_2, hfz23_0, hfz23_1, hfz23_2⟩ := bt3 BK582
         go_wp2_with (first | ((with_reducible refine gate_builtin (b := .append) (xs := #[.tmp 37, .tmp 40]) rfl ?_); at_builtin; refine Kd.R_append (Kd.int .i64) (w0 := w) w.heap.size rfl (.tmp 37) (.tmp 40) 22 3 (.int .i64 0) 8 rfl Try.underlying22 info3 rfl (by decide) (by omega) u7 x7_10 (wrap64 (a1 + 1)) [.int .i64 (wrap64 (a1 + 1))] (fun _ => True) (fun _ => False) rfl rfl ?aP (fun _ hk => hk.elim) ?aF ?aO ?aB ?aS ?aL ?_; (case aP => exact rfl); (case aB => exact (bm HB)); (case aF => exact (fun _ _ => trivial)); (case aO => exact (Kd.R_mv HO_7.out)); (case aS => exact (below_size (bm HB))); (case aL => have := LMc16.out; omega); intro v590 w24 ho hb hg hat; rw [← Ny589.out] at ho; refine ev3 (blk_grown (km_ BK582) hg (Kd.R_ne HO_7.out BK582.out (by decide))) (hb) (ho) ?_; clear BK582 HB HO_7; intro BK582 HB HO591; clear ho hb hg hat; obtain ⟨hcz25_0, hcz25_1, hcz25_2, hfz25_0, hfz25_1, hfz25_2⟩ := bt3 BK582))
         repeat (go_quiet (first | ((with_reducible refine gate_builtin (b := .append) (xs := #[.tmp 37, .tmp 40]) rfl ?_); at_builtin; refine Kd.R_append (Kd.int .i64) (w0 := w) w.heap.size rfl (.tmp 37) (.tmp 40) 22 3 (.int .i64 0) 8 rfl Try.underlying22 info3 rfl (by decide) (by omega) u7 x7_10 (wrap64 (a1 + 1)) [.int .i64 (wrap64 (a1 + 1))] (fun _ => True) (fun _ => False) rfl rfl ?aP (fun _ hk => hk.elim) ?aF ?aO ?aB ?aS ?aL ?_; (case aP => exact rfl); (case aB => exact (bm HB)); (case aF => exact (fun _ _ => trivial)); (case aO => exact (Kd.R_mv HO_7.out)); (case aS => exact (below_size (bm HB))); (case aL => have := LMc16.out; omega); intro v590 w24 ho hb hg hat; rw [← Ny589.out] at ho; refine ev3 (blk_grown (km_ BK582) hg (Kd.R_ne HO_7.out BK582.out (by decide))) (hb) (ho) ?_; clear BK582 HB HO_7; intro BK582 HB HO591; clear ho hb hg hat; obtain ⟨hcz25_0, hcz25_1, hcz25_2, hfz25_0, hfz25_1, hfz25_2⟩ := bt3 BK582)); try go_wp2_with (first | ((with_reducible refine gate_builtin (b := .append) (xs := #[.tmp 37, .tmp 40]) rfl ?_); at_builtin; refine Kd.R_append (Kd.int .i64) (w0 := w) w.heap.size rfl (.tmp 37) (.tmp 40) 22 3 (.int .i64 0) 8 rfl Try.underlying22 info3 rfl (by decide) (by omega) u7 x7_10 (wrap64 (a1 + 1)) [.int .i64 (wrap64 (a1 + 1))] (fun _ => True) (fun _ => False) rfl rfl ?aP (fun _ hk => hk.elim) ?aF ?aO ?aB ?aS ?aL ?_; (case aP => exact rfl); (case aB => exact (bm HB)); (case aF => exact (fun _ _ => trivial)); (case aO => exact (Kd.R_mv HO_7.out)); (case aS => exact (below_size (bm HB))); (case aL => have := LMc16.out; omega); intro v590 w24 ho hb hg hat; rw [← Ny589.out] at ho; refine ev3 (blk_grown (km_ BK582) hg (Kd.R_ne HO_7.out BK582.out (by decide))) (hb) (ho) ?_; clear BK582 HB HO_7; intro BK582 HB HO591; clear ho hb hg hat; obtain ⟨hcz25_0, hcz25_1, hcz25_2, hfz25_0, hfz25_1, hfz25_2⟩ := bt3 BK582)))
         go_ret
         exact ⟨_, by first | rfl | (simp [e0_, e1_] <;> rfl) | (simp [*, e0_, e1_] <;> rfl), Kd.R_mv HO591.out, bm HB⟩
       ·rw [if_neg c16] at H
        exact absurd H (by simp)
      ·rw [if_neg c15] at H
       have c15b0 : decide ((wrap64 ((Int.tmod a1 a0_1) + 1)) < a0_1) = false := decide_eq_false c15
       clear c15
       by_cases c26 : (wrap64 ((wrap64 (Int.tdiv a1 a0_1)) + 1)) < a0_0
       ·rw [if_pos c26] at H
        have c26b0 : decide ((wrap64 ((wrap64 (Int.tdiv a1 a0_1)) + 1)) < a0_0) = true := decide_eq_true c26
        clear c26
        by_cases c27 : x7_10.length < 17592186044416
        ·rw [if_pos c27] at H
         have LMc27 := Aside0.mk c27
         clear c27
         obtain ⟨y595, hy595⟩ : ∃ y_ : List Int, y_ = (x7_10 ++ [wrap64 (a1 + a0_1)]) := ⟨_, rfl⟩
         replace H : (some y595) = some r := by first | (rw [hy595]; with_reducible exact H) | (have H2_ := (Option.bind_some _ _).symm.trans H; rw [hy595]; with_reducible exact H2_) | (have H2_ := (Option.bind_some _ _).symm.trans H; with_reducible exact H2_) | with_reducible exact H | (rw [hy595]; exact H) | exact H
         have Ny595 := Aside0.mk hy595
         clear hy595
         obtain rfl := Option.some.inj H
         obtain ⟨hcz28_0, hcz28_1, hcz28_2, hfz28_0, hfz28_1, hfz28_2⟩ := bt3 BK582
         go_wp2_with (first | ((with_reducible refine gate_builtin (b := .append) (xs := #[.tmp 47, .tmp 52]) rfl ?_); at_builtin; refine Kd.R_append (Kd.int .i64) (w0 := w) w.heap.size rfl (.tmp 47) (.tmp 52) 22 3 (.int .i64 0) 8 rfl Try.underlying22 info3 rfl (by decide) (by omega) u7 x7_10 (wrap64 (a1 + a0_1)) [.int .i64 (wrap64 (a1 + a0_1))] (fun _ => True) (fun _ => False) rfl rfl ?aP (fun _ hk => hk.elim) ?aF ?aO ?aB ?aS ?aL ?_; (case aP => exact rfl); (case aB => exact (bm HB)); (case aF => exact (fun _ _ => trivial)); (case aO => exact (Kd.R_mv HO_7.out)); (case aS => exact (below_size (bm HB))); (case aL => have := LMc27.out; omega); intro v596 w29 ho hb hg hat; rw [← Ny595.out] at ho; refine ev3 (blk_grown (km_ BK582) hg (Kd.R_ne HO_7.out BK582.out (by decide))) (hb) (ho) ?_; clear BK582 HB HO_7; intro BK582 HB HO597; clear ho hb hg hat))
         repeat (go_quiet (first | ((with_reducible refine gate_builtin (b := .append) (xs := #[.tmp 47, .tmp 52]) rfl ?_); at_builtin; refine Kd.R_append (Kd.int .i64) (w0 := w) w.heap.size rfl (.tmp 47) (.tmp 52) 22 3 (.int .i64 0) 8 rfl Try.underlying22 info3 rfl (by decide) (by omega) u7 x7_10 (wrap64 (a1 + a0_1)) [.int .i64 (wrap64 (a1 + a0_1))] (fun _ => True) (fun _ => False) rfl rfl ?aP (fun _ hk => hk.elim) ?aF ?aO ?aB ?aS ?aL ?_; (case aP => exact rfl); (case aB => exact (bm HB)); (case aF => exact (fun _ _ => trivial)); (case aO => exact (Kd.R_mv HO_7.out)); (case aS => exact (below_size (bm HB))); (case aL => have := LMc27.out; omega); intro v596 w29 ho hb hg hat; rw [← Ny595.out] at ho; refine ev3 (blk_grown (km_ BK582) hg (Kd.R_ne HO_7.out BK582.out (by decide))) (hb) (ho) ?_; clear BK582 HB HO_7; intro BK582 HB HO597; clear ho hb hg hat)); try go_wp2_with (first | ((with_reducible refine gate_builtin (b := .append) (xs := #[.tmp 47, .tmp 52]) rfl ?_); at_builtin; refine Kd.R_append (Kd.int .i64) (w0 := w) w.heap.size rfl (.tmp 47) (.tmp 52) 22 3 (.int .i64 0) 8 rfl Try.underlying22 info3 rfl (by decide) (by omega) u7 x7_10 (wrap64 (a1 + a0_1)) [.int .i64 (wrap64 (a1 + a0_1))] (fun _ => True) (fun _ => False) rfl rfl ?aP (fun _ hk => hk.elim) ?aF ?aO ?aB ?aS ?aL ?_; (case aP => exact rfl); (case aB => exact (bm HB)); (case aF => exact (fun _ _ => trivial)); (case aO => exact (Kd.R_mv HO_7.out)); (case aS => exact (below_size (bm HB))); (case aL => have := LMc27.out; omega); intro v596 w29 ho hb hg hat; rw [← Ny595.out] at ho; refine ev3 (blk_grown (km_ BK582) hg (Kd.R_ne HO_7.out BK582.out (by decide))) (hb) (ho) ?_; clear BK582 HB HO_7; intro BK582 HB HO597; clear ho hb hg hat)))
         go_ret
         exact ⟨_, by first | rfl | (simp [e0_, e1_] <;> rfl) | (simp [*, e0_, e1_] <;> rfl), Kd.R_mv HO597.out, bm HB⟩
        ·rw [if_neg c27] at H
         exact absurd H (by simp)
       ·rw [if_neg c26] at H
        have c26b0 : decide ((wrap64 ((wrap64 (Int.tdiv a1 a0_1)) + 1)) < a0_0) = false := decide_eq_false c26
        clear c26
        obtain rfl := Option.some.inj H
        obtain ⟨hcz30_0, hcz30_1, hcz30_2, hfz30_0, hfz30_1, hfz30_2⟩ := bt3 BK582
        go_wp2
        repeat (go_quiet (fail); try go_wp2)
        go_ret
        exact ⟨_, by first | rfl | (simp [e0_, e1_] <;> rfl) | (simp [*, e0_, e1_] <;> rfl), Kd.R_mv HO_7.out, bm HB⟩
end Go.Proofs.Ytjogiiobaakjkaa.F
