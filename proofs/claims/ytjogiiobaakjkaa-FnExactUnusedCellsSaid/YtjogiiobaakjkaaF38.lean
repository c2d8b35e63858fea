-- Written by a program of this session (a patched print) out of the translation; Lean checks it.
import Derived.Test.YtjogiiobaakjkaaF0
import Derived.Test.YtjogiiobaakjkaaF5
import Derived.Test.YtjogiiobaakjkaaF12
import Derived.Test.YtjogiiobaakjkaaF17
import Derived.Test.YtjogiiobaakjkaaF20
import Derived.Test.YtjogiiobaakjkaaF27
namespace Go.Proofs.Ytjogiiobaakjkaa.F
open Go.RowKit Go.Proofs.YtjogiiobaakjkaaV.PrintWords Go.Proofs.YtjogiiobaakjkaaV.PrintLast Go.Proofs.YtjogiiobaakjkaaV.PrintMore
attribute [local go_sem] max2_int min2_int max_two min_two max_three min_three max_four min_four
attribute [local go_sem] Try.underlying30 Try.underlying35 Try.underlying44 Try.underlying48 Try.underlying62 Try.underlying66 Try.underlying78 Try.underlying90 Try.underlying112
set_option linter.unusedVariables false
set_option linter.unusedSimpArgs false

/-! ### spec_UnusedCells: function 37 -/
def spec_UnusedCells.f (k : Nat) (a0_0 : Int) (a0_1 : Int) (l0_2 : List (S78)) : Option (List Int × Bool) := (spec_boGood.f k a0_0 a0_1 l0_2).bind fun t1083 => (if t1083 = true then ((spec_vfUnused.f k a0_0 a0_1 l0_2).bind fun t1084 => (some (t1084, true))) else (some (([] : List Int), false)))
set_option maxHeartbeats 8000000 in
set_option maxRecDepth 100000 in
theorem spec_UnusedCells.calls (k : Nat) (a0_0 : Int) (a0_1 : Int) (A0_2 : Option Addr) (c0_2 : Nat) (l0_2 : List (S78)) (r1 : List Int) (r2 : Bool) (w : World) (hr0_2 : Kd.C k78 w A0_2 l0_2.length l0_2) (hc0_2 : l0_2.length ≤ c0_2) (h : spec_UnusedCells.f k a0_0 a0_1 l0_2 = some (r1, r2)) :
  Calls Try.prog 37 #[.agg #[.int .i64 a0_0, .int .i64 a0_1, .slice A0_2 l0_2.length c0_2]] w fun e w' => ∃ v0_ : Value, e = .returned (.tuple #[v0_, .bool r2]) ∧ Kd.R (Kd.int .i64) 3 w' w.heap.size (fun _ => True) v0_ r1 ∧ Below w.heap.size w w' := by
 have HR0_2 := Aside0.mk hr0_2
 have HC0_2 := Aside0.mk hc0_2
 clear hr0_2 hc0_2
 have HB := Aside0.mk (Below.refl w.heap.size w)
 have H : ((spec_boGood.f k a0_0 a0_1 l0_2).bind fun t1083 => (if t1083 = true then ((spec_vfUnused.f k a0_0 a0_1 l0_2).bind fun t1084 => (some (t1084, true))) else (some (([] : List Int), false)))) = some (r1, r2) := h
 clear h
 replace H := Option.bind_eq_some_iff.mp H
 obtain ⟨t1083, A20, H⟩ := H
 replace H : (if t1083 = true then ((spec_vfUnused.f k a0_0 a0_1 l0_2).bind fun t1084 => (some (t1084, true))) else (some (([] : List Int), false))) = some (r1, r2) := H
 have A2 := Aside0.mk A20
 clear A20
 by_cases c3 : t1083 = true
 ·subst c3
  have H1 : ((spec_vfUnused.f k a0_0 a0_1 l0_2).bind fun t1084 => (some (t1084, true))) = some (r1, r2) := by rw [if_pos rfl] at H; exact H
  clear H
  have H := H1
  clear H1
  replace H := Option.bind_eq_some_iff.mp H
  obtain ⟨t1084, A40, H⟩ := H
  replace H : (some (t1084, true)) = some (r1, r2) := H
  have A4 := Aside0.mk A40
  clear A40
  simp only [Option.some.injEq, Prod.mk.injEq] at H
  obtain ⟨rfl, rfl⟩ := H
  go_enter Try.func37, Try.ntmps37
  go_wp2_with (first | ((with_reducible refine gate_dst (N := 1) rfl ?_); refine box_event ?hg (N := 1) ?hd (cs := #[.int .i64 a0_0, .int .i64 a0_1, .slice A0_2 l0_2.length c0_2]) (t := 48) ?hr ?_; (case hd => rfl); (case hg => rfl); (case hr => first | (go_simp; done) | (go_simp; rfl)); intro gb1082 hg w5 hbox hb; refine ev4 (bs HB hb) (hbox) (gle hg HB) (gle hg HB) ?_; clear HB; intro HB BK1082 GW1082 GE1082; clear hb hbox hg; obtain ⟨hcz6_0, hcz6_1, hcz6_2, hfz6_0, hfz6_1, hfz6_2⟩ := bt3 BK1082) | ((with_reducible refine gate_callee (f := 84) rfl ?_); refine goesL_ (some 5) rfl rfl Try.func84 (by kernel_rfl) rfl #[.agg #[.int .i64 a0_0, .int .i64 a0_1, .slice A0_2 l0_2.length c0_2]] rfl (by (try simp only [ma_, mb_, mc_]); first | done | rfl | (simp only [List.length_drop, List.length_take]; rfl)) ?_; (with_reducible refine (spec_boGood.calls k a0_0 a0_1 _ _ l0_2 true _ (Kd.C_mv (Kd.C_below HR0_2.out HB.out)) HC0_2.out A2.out).mono ?_); rintro e w7 ⟨rfl, hb⟩; refine ⟨_, rfl, ?_⟩; refine ev2 (kb BK1082 hb) (bs HB hb) ?_; clear BK1082 HB; intro BK1082 HB; (try clear hb); (try clear hb2); (try clear hk); (try clear hi); obtain ⟨hcz8_0, hcz8_1, hcz8_2, hfz8_0, hfz8_1, hfz8_2⟩ := bt3 BK1082) | ((with_reducible refine gate_callee (f := 85) rfl ?_); refine goesL_ (some 8) rfl rfl Try.func85 (by kernel_rfl) rfl #[.agg #[.int .i64 a0_0, .int .i64 a0_1, .slice A0_2 l0_2.length c0_2]] rfl (by (try simp only [ma_, mb_, mc_]); first | done | rfl | (simp only [List.length_drop, List.length_take]; rfl)) ?_; (with_reducible refine (spec_vfUnused.calls k a0_0 a0_1 _ _ l0_2 t1084 _ (Kd.C_mv (Kd.C_below HR0_2.out HB.out)) HC0_2.out A4.out).mono ?_); rintro e w9 ⟨v1085, rfl, ho0, hb⟩; refine ⟨_, rfl, ?_⟩; refine ev3 (Kd.R_lower ho0 (below_size (bm HB))) (kb BK1082 hb) (bs HB hb) ?_; clear BK1082 HB; intro HO1086 BK1082 HB; (try clear hb); (try clear hb2); (try clear hk); (try clear hi); (try clear ho0)))
  go_ret2
  exact ⟨_, by first | rfl | (simp [e0_, e1_] <;> rfl) | (simp [*, e0_, e1_] <;> rfl), Kd.R_mv HO1086.out, bm HB⟩
 ·replace c3 := Bool.eq_false_iff.mpr c3
  subst c3
  have H1 : (some (([] : List Int), false)) = some (r1, r2) := by rw [if_neg (show ¬ (false = true) by decide)] at H; exact H
  clear H
  have H := H1
  clear H1
  simp only [Option.some.injEq, Prod.mk.injEq] at H
  obtain ⟨rfl, rfl⟩ := H
  go_enter Try.func37, Try.ntmps37
  go_wp2_with (first | ((with_reducible refine gate_dst (N := 1) rfl ?_); refine box_event ?hg (N := 1) ?hd (cs := #[.int .i64 a0_0, .int .i64 a0_1, .slice A0_2 l0_2.length c0_2]) (t := 48) ?hr ?_; (case hd => rfl); (case hg => rfl); (case hr => first | (go_simp; done) | (go_simp; rfl)); intro gb1082 hg w10 hbox hb; refine ev4 (bs HB hb) (hbox) (gle hg HB) (gle hg HB) ?_; clear HB; intro HB BK1082 GW1082 GE1082; clear hb hbox hg; obtain ⟨hcz11_0, hcz11_1, hcz11_2, hfz11_0, hfz11_1, hfz11_2⟩ := bt3 BK1082) | ((with_reducible refine gate_callee (f := 84) rfl ?_); refine goesL_ (some 5) rfl rfl Try.func84 (by kernel_rfl) rfl #[.agg #[.int .i64 a0_0, .int .i64 a0_1, .slice A0_2 l0_2.length c0_2]] rfl (by (try simp only [ma_, mb_, mc_]); first | done | rfl | (simp only [List.length_drop, List.length_take]; rfl)) ?_; (with_reducible refine (spec_boGood.calls k a0_0 a0_1 _ _ l0_2 false _ (Kd.C_mv (Kd.C_below HR0_2.out HB.out)) HC0_2.out A2.out).mono ?_); rintro e w12 ⟨rfl, hb⟩; refine ⟨_, rfl, ?_⟩; refine ev2 (kb BK1082 hb) (bs HB hb) ?_; clear BK1082 HB; intro BK1082 HB; (try clear hb); (try clear hb2); (try clear hk); (try clear hi)))
  go_ret2
  exact ⟨_, by first | rfl | (simp [e0_, e1_] <;> rfl) | (simp [*, e0_, e1_] <;> rfl), by first | exact Kd.R_nil _ _ _ _ _ | exact Kd.N_nil _ _ _ _ _ | exact Kd.V_nil _ _ _ _ _ | exact Kd.Q_nil _ _ _ _ _ | exact Kd.S_nil _ _ _ _ _, bm HB⟩

/-! ### laws_FnExactUnusedCells: function 9 -/
mutual
def laws_FnExactUnusedCells.j0 : Nat → List Int → Bool → List Int → Bool → Bool → Int → Int → List (S112) → Int → Int → List (S78) → Option (Bool)
 | 0, _, _, _, _, _, _, _, _, _, _, _ => none
 | k + 1, x4, x5, x7, x8, x40, x1137000, x1137001, x1137002, x1153000, x1153001, x1153002 => if x40 = true then (some false) else ((laws_toBoard.f k x1137000 x1137001 x1137002).bind fun bt1158 => ((laws_eqBoard.f k x1153000 x1153001 x1153002 bt1158.1 bt1158.2.1 bt1158.2.2).bind fun t1163 => (if t1163 = true then ((laws_markBoard.f k x1153000 x1153001 x1153002 1).bind fun bt1164 => (if bt1164.1 < 0 then (laws_FnExactUnusedCells.j1 k x4 x5 x7 true x1137000 x1137001 x1137002) else ((laws_eqIntS.f k x7 x4).bind fun t1166 => (if t1166 = true then (laws_FnExactUnusedCells.j1 k x4 x5 x7 (x8 != x5) x1137000 x1137001 x1137002) else (laws_FnExactUnusedCells.j1 k x4 x5 x7 true x1137000 x1137001 x1137002))))) else (some false))))
def laws_FnExactUnusedCells.j1 : Nat → List Int → Bool → List Int → Bool → Int → Int → List (S112) → Option (Bool)
 | 0, _, _, _, _, _, _, _ => none
 | k + 1, x4, x5, x7, x61, x1137000, x1137001, x1137002 => if x61 = true then (some false) else ((laws_markIntS.f k x7 1).bind fun bt1167 => ((laws_heldIntS.f k bt1167.2 1).bind fun t1169 => (if t1169 < 0 then (some false) else (if t1169 = bt1167.1 then ((laws_toBoard.f k x1137000 x1137001 x1137002).bind fun bt1170 => ((impl_UnusedCells.f k bt1170.1 bt1170.2.1 bt1170.2.2).bind fun bt1175 => ((laws_eqIntS.f k bt1175.1 x4).bind fun t1179 => (if t1179 = true then (laws_FnExactUnusedCells.j2 k bt1167.2 bt1167.1 (bt1175.2 != x5)) else (laws_FnExactUnusedCells.j2 k bt1167.2 bt1167.1 true))))) else (some false)))))
def laws_FnExactUnusedCells.j2 : Nat → List Int → Int → Bool → Option (Bool)
 | 0, _, _, _ => none
 | k + 1, x7, x10, x87 => if x87 = true then (some false) else ((laws_heldIntS.f k x7 1).bind fun t1180 => (if t1180 < 0 then (some false) else (if t1180 = x10 then (some true) else (some false))))
end
def laws_FnExactUnusedCells.f (k : Nat) (a0_0 : Int) (a0_1 : Int) (l0_2 : List (S112)) : Option (Bool) := (laws_szBoard.f a0_0 a0_1 l0_2 1048576).bind fun t1137 => (if t1137 < 0 then (some true) else ((laws_toBoard.f k a0_0 a0_1 l0_2).bind fun bt1138 => ((spec_UnusedCells.f k bt1138.1 bt1138.2.1 bt1138.2.2).bind fun bt1143 => ((laws_toBoard.f k a0_0 a0_1 l0_2).bind fun bt1147 => ((impl_UnusedCells.f k bt1147.1 bt1147.2.1 bt1147.2.2).bind fun bt1153 => ((laws_eqIntS.f k bt1153.1 bt1143.1).bind fun t1157 => (if t1157 = true then (laws_FnExactUnusedCells.j0 k bt1143.1 bt1143.2 bt1153.1 bt1153.2 (bt1153.2 != bt1143.2) a0_0 a0_1 l0_2 bt1147.1 bt1147.2.1 bt1147.2.2) else (laws_FnExactUnusedCells.j0 k bt1143.1 bt1143.2 bt1153.1 bt1153.2 true a0_0 a0_1 l0_2 bt1147.1 bt1147.2.1 bt1147.2.2))))))))
set_option maxHeartbeats 8000000 in
set_option maxRecDepth 100000 in
theorem laws_FnExactUnusedCells.calls (k : Nat) (a0_0 : Int) (a0_1 : Int) (A0_2 : Option Addr) (c0_2 : Nat) (l0_2 : List (S112)) (r : Bool) (w : World) (hr0_2 : Kd.C k112 w A0_2 l0_2.length l0_2) (hc0_2 : l0_2.length ≤ c0_2) (hrt : r = true) (h : laws_FnExactUnusedCells.f k a0_0 a0_1 l0_2 = some r) :
  Calls Try.prog 9 #[.agg #[.int .i64 a0_0, .int .i64 a0_1, .slice A0_2 l0_2.length c0_2]] w fun e w' => e = .returned (.bool r) ∧ Below w.heap.size w w' := by
 have HR0_2 := Aside0.mk hr0_2
 have HC0_2 := Aside0.mk hc0_2
 clear hr0_2 hc0_2
 have HRT := Aside0.mk hrt
 clear hrt
 have HB := Aside0.mk (Below.refl w.heap.size w)
 have H : ((laws_szBoard.f a0_0 a0_1 l0_2 1048576).bind fun t1137 => (if t1137 < 0 then (some true) else ((laws_toBoard.f k a0_0 a0_1 l0_2).bind fun bt1138 => ((spec_UnusedCells.f k bt1138.1 bt1138.2.1 bt1138.2.2).bind fun bt1143 => ((laws_toBoard.f k a0_0 a0_1 l0_2).bind fun bt1147 => ((impl_UnusedCells.f k bt1147.1 bt1147.2.1 bt1147.2.2).bind fun bt1153 => ((laws_eqIntS.f k bt1153.1 bt1143.1).bind fun t1157 => (if t1157 = true then (laws_FnExactUnusedCells.j0 k bt1143.1 bt1143.2 bt1153.1 bt1153.2 (bt1153.2 != bt1143.2) a0_0 a0_1 l0_2 bt1147.1 bt1147.2.1 bt1147.2.2) else (laws_FnExactUnusedCells.j0 k bt1143.1 bt1143.2 bt1153.1 bt1153.2 true a0_0 a0_1 l0_2 bt1147.1 bt1147.2.1 bt1147.2.2))))))))) = some r := h
 clear h
 replace H := Option.bind_eq_some_iff.mp H
 obtain ⟨t1137, A20, H⟩ := H
 replace H : (if t1137 < 0 then (some true) else ((laws_toBoard.f k a0_0 a0_1 l0_2).bind fun bt1138 => ((spec_UnusedCells.f k bt1138.1 bt1138.2.1 bt1138.2.2).bind fun bt1143 => ((laws_toBoard.f k a0_0 a0_1 l0_2).bind fun bt1147 => ((impl_UnusedCells.f k bt1147.1 bt1147.2.1 bt1147.2.2).bind fun bt1153 => ((laws_eqIntS.f k bt1153.1 bt1143.1).bind fun t1157 => (if t1157 = true then (laws_FnExactUnusedCells.j0 k bt1143.1 bt1143.2 bt1153.1 bt1153.2 (bt1153.2 != bt1143.2) a0_0 a0_1 l0_2 bt1147.1 bt1147.2.1 bt1147.2.2) else (laws_FnExactUnusedCells.j0 k bt1143.1 bt1143.2 bt1153.1 bt1153.2 true a0_0 a0_1 l0_2 bt1147.1 bt1147.2.1 bt1147.2.2)))))))) = some r := H
 have A2 := Aside0.mk A20
 clear A20
 by_cases c3 : t1137 < 0
 ·rw [if_pos c3] at H
  have c3b0 : decide (t1137 < 0) = true := decide_eq_true c3
  clear c3
  obtain rfl := Option.some.inj H
  go_enter Try.func9, Try.ntmps9
  go_wp2_with (first | ((with_reducible refine gate_dst (N := 1) rfl ?_); refine box_event ?hg (N := 1) ?hd (cs := #[.int .i64 a0_0, .int .i64 a0_1, .slice A0_2 l0_2.length c0_2]) (t := 44) ?hr ?_; (case hd => rfl); (case hg => rfl); (case hr => first | (go_simp; done) | (go_simp; rfl)); intro gb1136 hg w4 hbox hb; refine ev4 (bs HB hb) (hbox) (gle hg HB) (gle hg HB) ?_; clear HB; intro HB BK1136 GW1136 GE1136; clear hb hbox hg; obtain ⟨hcz5_0, hcz5_1, hcz5_2, hfz5_0, hfz5_1, hfz5_2⟩ := bt3 BK1136) | ((with_reducible refine gate_callee (f := 30) rfl ?_); refine goesL_ (some 16) rfl rfl Try.func30 (by kernel_rfl) rfl #[.agg #[.int .i64 a0_0, .int .i64 a0_1, .slice A0_2 l0_2.length c0_2], .int .i64 1048576] rfl (by (try simp only [ma_, mb_, mc_]); first | done | rfl | (simp only [List.length_drop, List.length_take]; rfl)) ?_; (with_reducible refine (laws_szBoard.calls a0_0 a0_1 _ _ l0_2 1048576 t1137 _ (Kd.C_mv (Kd.C_below HR0_2.out HB.out)) HC0_2.out A2.out).mono ?_); rintro e w6 ⟨rfl, hb⟩; refine ⟨_, rfl, ?_⟩; refine ev2 (kb BK1136 hb) (bs HB hb) ?_; clear BK1136 HB; intro BK1136 HB; (try clear hb); (try clear hb2); (try clear hk); (try clear hi)))
  go_ret
  exact ⟨by first | rfl | (simp [e0_, e1_] <;> rfl) | (simp [*, e0_, e1_] <;> rfl), bm HB⟩
 ·rw [if_neg c3] at H
  have c3b0 : decide (t1137 < 0) = false := decide_eq_false c3
  clear c3
  replace H := Option.bind_eq_some_iff.mp H
  obtain ⟨⟨t1138, t1139, t1140⟩, A70, H⟩ := H
  replace H : ((spec_UnusedCells.f k t1138 t1139 t1140).bind fun bt1143 => ((laws_toBoard.f k a0_0 a0_1 l0_2).bind fun bt1147 => ((impl_UnusedCells.f k bt1147.1 bt1147.2.1 bt1147.2.2).bind fun bt1153 => ((laws_eqIntS.f k bt1153.1 bt1143.1).bind fun t1157 => (if t1157 = true then (laws_FnExactUnusedCells.j0 k bt1143.1 bt1143.2 bt1153.1 bt1153.2 (bt1153.2 != bt1143.2) a0_0 a0_1 l0_2 bt1147.1 bt1147.2.1 bt1147.2.2) else (laws_FnExactUnusedCells.j0 k bt1143.1 bt1143.2 bt1153.1 bt1153.2 true a0_0 a0_1 l0_2 bt1147.1 bt1147.2.1 bt1147.2.2)))))) = some r := H
  have A7 := Aside0.mk A70
  clear A70
  replace H := Option.bind_eq_some_iff.mp H
  obtain ⟨⟨t1143, t1146⟩, A80, H⟩ := H
  replace H : ((laws_toBoard.f k a0_0 a0_1 l0_2).bind fun bt1147 => ((impl_UnusedCells.f k bt1147.1 bt1147.2.1 bt1147.2.2).bind fun bt1153 => ((laws_eqIntS.f k bt1153.1 t1143).bind fun t1157 => (if t1157 = true then (laws_FnExactUnusedCells.j0 k t1143 t1146 bt1153.1 bt1153.2 (bt1153.2 != t1146) a0_0 a0_1 l0_2 bt1147.1 bt1147.2.1 bt1147.2.2) else (laws_FnExactUnusedCells.j0 k t1143 t1146 bt1153.1 bt1153.2 true a0_0 a0_1 l0_2 bt1147.1 bt1147.2.1 bt1147.2.2))))) = some r := H
  have A8 := Aside0.mk A80
  clear A80
  replace H := Option.bind_eq_some_iff.mp H
  obtain ⟨⟨t1147, t1148, t1149⟩, A90, H⟩ := H
  replace H : ((impl_UnusedCells.f k t1147 t1148 t1149).bind fun bt1153 => ((laws_eqIntS.f k bt1153.1 t1143).bind fun t1157 => (if t1157 = true then (laws_FnExactUnusedCells.j0 k t1143 t1146 bt1153.1 bt1153.2 (bt1153.2 != t1146) a0_0 a0_1 l0_2 t1147 t1148 t1149) else (laws_FnExactUnusedCells.j0 k t1143 t1146 bt1153.1 bt1153.2 true a0_0 a0_1 l0_2 t1147 t1148 t1149)))) = some r := H
  have A9 := Aside0.mk A90
  clear A90
  replace H := Option.bind_eq_some_iff.mp H
  obtain ⟨⟨t1153, t1156⟩, A100, H⟩ := H
  replace H : ((laws_eqIntS.f k t1153 t1143).bind fun t1157 => (if t1157 = true then (laws_FnExactUnusedCells.j0 k t1143 t1146 t1153 t1156 (t1156 != t1146) a0_0 a0_1 l0_2 t1147 t1148 t1149) else (laws_FnExactUnusedCells.j0 k t1143 t1146 t1153 t1156 true a0_0 a0_1 l0_2 t1147 t1148 t1149))) = some r := H
  have A10 := Aside0.mk A100
  clear A100
  have HC11 := Aside0.mk H
  clear H
  go_enter Try.func9, Try.ntmps9
  go_upto_region 8 with (first | ((with_reducible refine gate_dst (N := 1) rfl ?_); refine box_event ?hg (N := 1) ?hd (cs := #[.int .i64 a0_0, .int .i64 a0_1, .slice A0_2 l0_2.length c0_2]) (t := 44) ?hr ?_; (case hd => rfl); (case hg => rfl); (case hr => first | (go_simp; done) | (go_simp; rfl)); intro gb1136 hg w12 hbox hb; refine ev4 (bs HB hb) (hbox) (gle hg HB) (gle hg HB) ?_; clear HB; intro HB BK1136 GW1136 GE1136; clear hb hbox hg; obtain ⟨hcz13_0, hcz13_1, hcz13_2, hfz13_0, hfz13_1, hfz13_2⟩ := bt3 BK1136) | ((with_reducible refine gate_callee (f := 30) rfl ?_); refine goesL_ (some 16) rfl rfl Try.func30 (by kernel_rfl) rfl #[.agg #[.int .i64 a0_0, .int .i64 a0_1, .slice A0_2 l0_2.length c0_2], .int .i64 1048576] rfl (by (try simp only [ma_, mb_, mc_]); first | done | rfl | (simp only [List.length_drop, List.length_take]; rfl)) ?_; (with_reducible refine (laws_szBoard.calls a0_0 a0_1 _ _ l0_2 1048576 t1137 _ (Kd.C_mv (Kd.C_below HR0_2.out HB.out)) HC0_2.out A2.out).mono ?_); rintro e w14 ⟨rfl, hb⟩; refine ⟨_, rfl, ?_⟩; refine ev2 (kb BK1136 hb) (bs HB hb) ?_; clear BK1136 HB; intro BK1136 HB; (try clear hb); (try clear hb2); (try clear hk); (try clear hi); obtain ⟨hcz15_0, hcz15_1, hcz15_2, hfz15_0, hfz15_1, hfz15_2⟩ := bt3 BK1136) | ((with_reducible refine gate_callee (f := 32) rfl ?_); refine goesL_ (some 21) rfl rfl Try.func32 (by kernel_rfl) rfl #[.agg #[.int .i64 a0_0, .int .i64 a0_1, .slice A0_2 l0_2.length c0_2]] rfl (by (try simp only [ma_, mb_, mc_]); first | done | rfl | (simp only [List.length_drop, List.length_take]; rfl)) ?_; (with_reducible refine (laws_toBoard.calls k a0_0 a0_1 _ _ l0_2 t1138 t1139 t1140 _ (Kd.C_mv (Kd.C_below HR0_2.out HB.out)) HC0_2.out A7.out).mono ?_); rintro e w16 ⟨v1141, rfl, ho0, hb⟩; refine ⟨_, rfl, ?_⟩; refine ev3 (Kd.R_lower ho0 (below_size (bm HB))) (kb BK1136 hb) (bs HB hb) ?_; clear BK1136 HB; intro HO1142 BK1136 HB; (try clear hb); (try clear hb2); (try clear hk); (try clear hi); (try clear ho0); obtain ⟨Ao17, co17, eo17⟩ := Kd.R_slice HO1142.out; subst eo17) | ((with_reducible refine gate_callee (f := 37) rfl ?_); refine goesL_ (some 22) rfl rfl Try.func37 (by kernel_rfl) rfl #[.agg #[.int .i64 t1138, .int .i64 t1139, .slice Ao17 t1140.length co17]] rfl (by (try simp only [ma_, mb_, mc_]); first | done | rfl | (simp only [List.length_drop, List.length_take]; rfl)) ?_; (with_reducible refine (spec_UnusedCells.calls k t1138 t1139 _ _ t1140 t1143 t1146 _ (Kd.C_mv (Kd.R_reads' HO1142.out).2.2) ((Kd.R_reads' HO1142.out).2.1) A8.out).mono ?_); rintro e w18 ⟨v1144, rfl, ho0, hb⟩; refine ⟨_, rfl, ?_⟩; refine ev4 (Kd.R_below (Kd.R_mv HO1142.out) hb) (Kd.R_lower ho0 (below_size (bm HB))) (kb BK1136 hb) (bs HB hb) ?_; clear HO1142 BK1136 HB; intro HO1142 HO1145 BK1136 HB; (try clear hb); (try clear hb2); (try clear hk); (try clear hi); (try clear ho0); obtain ⟨hcz19_0, hcz19_1, hcz19_2, hfz19_0, hfz19_1, hfz19_2⟩ := bt3 BK1136) | ((with_reducible refine gate_callee (f := 32) rfl ?_); refine goesL_ (some 26) rfl rfl Try.func32 (by kernel_rfl) rfl #[.agg #[.int .i64 a0_0, .int .i64 a0_1, .slice A0_2 l0_2.length c0_2]] rfl (by (try simp only [ma_, mb_, mc_]); first | done | rfl | (simp only [List.length_drop, List.length_take]; rfl)) ?_; (with_reducible refine (laws_toBoard.calls k a0_0 a0_1 _ _ l0_2 t1147 t1148 t1149 _ (Kd.C_mv (Kd.C_below HR0_2.out HB.out)) HC0_2.out A9.out).mono ?_); rintro e w20 ⟨v1150, rfl, ho0, hb⟩; refine ⟨_, rfl, ?_⟩; refine ev5 (Kd.R_elder' (Kd.R_mv HO1142.out) (Kd.R_base ho0) hb) (Kd.R_below (Kd.R_mv HO1145.out) hb) (Kd.R_lower (Kd.R_new' ho0 (Kd.R_lt (Kd.R_mv HO1142.out))) (below_size (bm HB))) (kb BK1136 hb) (bs HB hb) ?_; clear HO1142 HO1145 BK1136 HB; intro HO1142 HO1145 HO1151 BK1136 HB; (try clear hb); (try clear hb2); (try clear hk); (try clear hi); (try clear ho0)) | ((with_reducible refine gate_dst (N := 6) rfl ?_); refine box_event ?hg (N := 6) ?hd (cs := #[.int .i64 0, .int .i64 0, .slice none 0 0]) (t := 48) ?hr ?_; (case hd => rfl); (case hg => rfl); (case hr => first | (go_simp; done) | (go_simp; rfl)); intro gb1152 hg w21 hbox hb; refine ev10 (Kd.R_below (Kd.R_mv HO1142.out) hb) (Kd.R_below (Kd.R_mv HO1145.out) hb) (Kd.R_below (Kd.R_mv HO1151.out) hb) (kb BK1136 hb) (bs HB hb) (hbox) (gle hg HB) (gle hg HB) (gnf hg BK1136) (gne hg BK1136) ?_; clear HO1142 HO1145 HO1151 BK1136 HB; intro HO1142 HO1145 HO1151 BK1136 HB BK1152 GW1152 GE1152 NB1136_1152 NB1152_1136; clear hb hbox hg; have hnb22 := NB1152_1136.out; have hnc22 := NB1136_1152.out; obtain ⟨hcz23_0, hcz23_1, hcz23_2, hfz23_0, hfz23_1, hfz23_2⟩ := bt3 BK1152; obtain ⟨Ao24, co24, eo24⟩ := Kd.R_slice HO1151.out; subst eo24) | ((with_reducible refine gate_callee (f := 38) rfl ?_); refine goesL_ (some 29) rfl rfl Try.func38 (by kernel_rfl) rfl #[.agg #[.int .i64 t1147, .int .i64 t1148, .slice Ao24 t1149.length co24]] rfl (by (try simp only [ma_, mb_, mc_]); first | done | rfl | (simp only [List.length_drop, List.length_take]; rfl)) ?_; (with_reducible refine (impl_UnusedCells.calls k t1147 t1148 _ _ t1149 t1153 t1156 _ ?side1 ((Kd.R_reads' HO1151.out).2.1) A10.out).mono ?_); (case side1 => refine (Kd.R_reads' (e := 78) (base := w.heap.size) (ok := fun k_ => (True ∧ some k_ ≠ (.slice Ao17 t1140.length co17 : Value).ownBlock)) (n := t1149.length) (c := co24) ?_).2.2; exact (Kd.R_mv (Kd.R_mono (Kd.R_far (p := ⟨gb1152, 2, none⟩) (Kd.R_far (p := ⟨gb1152, 1, none⟩) (Kd.R_far (p := ⟨gb1152, 0, none⟩) (Kd.R_types HO1151.out BK1152.out (by decide)) (fun _ hk => hk.2) (.int .i64 t1147)) (fun _ hk => hk.2) (.int .i64 t1148)) (fun _ hk => hk.2) (.slice Ao24 t1149.length co24)) (fun _ h_ => h_.1)))); rintro e w25 ⟨v1154, rfl, ho0, hb⟩; refine ⟨_, rfl, ?_⟩; refine ev7 (Kd.R_below (Kd.R_mv (Kd.R_mono (Kd.R_far (p := ⟨gb1152, 2, none⟩) (Kd.R_far (p := ⟨gb1152, 1, none⟩) (Kd.R_far (p := ⟨gb1152, 0, none⟩) (Kd.R_types HO1142.out BK1152.out (by decide)) (fun _ hk => hk.2) (.int .i64 t1147)) (fun _ hk => hk.2) (.int .i64 t1148)) (fun _ hk => hk.2) (.slice Ao24 t1149.length co24)) (fun _ h_ => h_.1))) hb) (Kd.R_elder' (Kd.R_mv (Kd.R_mono (Kd.R_far (p := ⟨gb1152, 2, none⟩) (Kd.R_far (p := ⟨gb1152, 1, none⟩) (Kd.R_far (p := ⟨gb1152, 0, none⟩) (Kd.R_types HO1145.out BK1152.out (by decide)) (fun _ hk => hk.2) (.int .i64 t1147)) (fun _ hk => hk.2) (.int .i64 t1148)) (fun _ hk => hk.2) (.slice Ao24 t1149.length co24)) (fun _ h_ => h_.1))) (Kd.R_base ho0) hb) (Kd.R_below (Kd.R_mv (Kd.R_mono (Kd.R_far (p := ⟨gb1152, 2, none⟩) (Kd.R_far (p := ⟨gb1152, 1, none⟩) (Kd.R_far (p := ⟨gb1152, 0, none⟩) (Kd.R_types HO1151.out BK1152.out (by decide)) (fun _ hk => hk.2) (.int .i64 t1147)) (fun _ hk => hk.2) (.int .i64 t1148)) (fun _ hk => hk.2) (.slice Ao24 t1149.length co24)) (fun _ h_ => h_.1))) hb) (Kd.R_lower (Kd.R_new' ho0 (Kd.R_lt (Kd.R_mv (Kd.R_mono (Kd.R_far (p := ⟨gb1152, 2, none⟩) (Kd.R_far (p := ⟨gb1152, 1, none⟩) (Kd.R_far (p := ⟨gb1152, 0, none⟩) (Kd.R_types HO1145.out BK1152.out (by decide)) (fun _ hk => hk.2) (.int .i64 t1147)) (fun _ hk => hk.2) (.int .i64 t1148)) (fun _ hk => hk.2) (.slice Ao24 t1149.length co24)) (fun _ h_ => h_.1))))) (below_size (bm HB))) (blk_below (g := gb1136) (o := .cells #[.int .i64 a0_0, .int .i64 a0_1, .slice A0_2 l0_2.length c0_2] 44 (0, 0)) (fp BK1136 rfl) hb) (blk_below (g := gb1152) (o := .cells #[.int .i64 t1147, .int .i64 t1148, .slice Ao24 t1149.length co24] 48 (0, 0)) (fp BK1152 rfl) hb) (bs HB hb) ?_; clear HO1142 HO1145 HO1151 BK1136 BK1152 HB; intro HO1142 HO1145 HO1151 HO1155 BK1136 BK1152 HB; (try clear hb); (try clear hb2); (try clear hk); (try clear hi); (try clear ho0)))
  (try simp only [Act.put, za_, zb_, zc_])
  go_cut [40] (fun v40 wc => ∃ (kq : Nat) (x40_10 : Bool), v40 = .bool x40_10 ∧ Aside0 (laws_FnExactUnusedCells.j0 kq t1143 t1146 t1153 t1156 x40_10 a0_0 a0_1 l0_2 t1147 t1148 t1149 = some r) ∧ Aside0 (kq ≤ k) ∧ Aside0 (Kd.R (Kd.int .i64) 3 wc w.heap.size (fun k_ => some k_ ≠ (v1154 : Value).ownBlock) v1144 t1143) ∧ Aside0 (Kd.R (Kd.int .i64) 3 wc w.heap.size (fun k_ => some k_ ≠ (v1144 : Value).ownBlock) v1154 t1153) ∧ Aside0 (Kd.R k78 78 wc w.heap.size (fun _ => True) (.slice Ao24 t1149.length co24) t1149) ∧ Aside0 (wc.heap[gb1136]? = some (.cells #[.int .i64 a0_0, .int .i64 a0_1, (.slice A0_2 l0_2.length c0_2)] 44 (0, 0))) ∧ Aside0 (wc.heap[gb1152]? = some (.cells #[.int .i64 t1147, .int .i64 t1148, (.slice Ao24 t1149.length co24)] 48 (0, 0))) ∧ Aside0 (Below w.heap.size w wc))
  case first =>
   have H := HC11.out
   clear HC11
   replace H := Option.bind_eq_some_iff.mp H
   obtain ⟨t1157, A260, H⟩ := H
   replace H : (if t1157 = true then (laws_FnExactUnusedCells.j0 k t1143 t1146 t1153 t1156 (t1156 != t1146) a0_0 a0_1 l0_2 t1147 t1148 t1149) else (laws_FnExactUnusedCells.j0 k t1143 t1146 t1153 t1156 true a0_0 a0_1 l0_2 t1147 t1148 t1149)) = some r := H
   have A26 := Aside0.mk A260
   clear A260
   by_cases c27 : t1157 = true
   ·subst c27
    have H1 : (laws_FnExactUnusedCells.j0 k t1143 t1146 t1153 t1156 (t1156 != t1146) a0_0 a0_1 l0_2 t1147 t1148 t1149) = some r := by rw [if_pos rfl] at H; exact H
    clear H
    have H := H1
    clear H1
    have H' := Aside0.mk H
    clear H
    obtain ⟨Ao28, co28, eo28⟩ := Kd.R_slice HO1155.out
    subst eo28
    obtain ⟨Ao29, co29, eo29⟩ := Kd.R_slice HO1145.out
    subst eo29
    go_wp2_with (first | ((with_reducible refine gate_callee (f := 18) rfl ?_); refine goesL_ (some 34) rfl rfl Try.func18 (by kernel_rfl) rfl #[.slice Ao28 t1153.length co28, .slice Ao29 t1143.length co29] rfl (by (try simp only [ma_, mb_, mc_]); first | done | rfl | (simp only [List.length_drop, List.length_take]; rfl)) ?_; (with_reducible refine (laws_eqIntS.calls k _ _ t1153 _ _ t1143 true _ (Kd.C_mv (Kd.R_reads' HO1155.out).2.2) ((Kd.R_reads' HO1155.out).2.1) (Kd.C_mv (Kd.R_reads' HO1145.out).2.2) ((Kd.R_reads' HO1145.out).2.1) A26.out).mono ?_); rintro e w' ⟨rfl, ⟨nd, rfl⟩⟩; refine ⟨_, rfl, ?_⟩))
    go_meet
    case rel => exact ⟨_, ((t1156 != t1146)), (by first | rfl | (simp; done) | (simp [*]; done)), H', ⟨by first | omega | exact Nat.le_refl _⟩, ⟨Kd.R_mv (Kd.R_mono HO1145.out (fun _ hk => hk.2))⟩, ⟨Kd.R_mv (Kd.R_mono HO1155.out (fun _ hk => hk.2))⟩, ⟨Kd.R_mv (Kd.R_mono (ok' := fun k_ => True) HO1151.out (fun _ hk => trivial))⟩, ⟨km_ BK1136⟩, ⟨km_ BK1152⟩, ⟨bm HB⟩⟩
   ·replace c27 := Bool.eq_false_iff.mpr c27
    subst c27
    have H1 : (laws_FnExactUnusedCells.j0 k t1143 t1146 t1153 t1156 true a0_0 a0_1 l0_2 t1147 t1148 t1149) = some r := by rw [if_neg (show ¬ (false = true) by decide)] at H; exact H
    clear H
    have H := H1
    clear H1
    have H' := Aside0.mk H
    clear H
    obtain ⟨Ao30, co30, eo30⟩ := Kd.R_slice HO1155.out
    subst eo30
    obtain ⟨Ao31, co31, eo31⟩ := Kd.R_slice HO1145.out
    subst eo31
    go_wp2_with (first | ((with_reducible refine gate_callee (f := 18) rfl ?_); refine goesL_ (some 34) rfl rfl Try.func18 (by kernel_rfl) rfl #[.slice Ao30 t1153.length co30, .slice Ao31 t1143.length co31] rfl (by (try simp only [ma_, mb_, mc_]); first | done | rfl | (simp only [List.length_drop, List.length_take]; rfl)) ?_; (with_reducible refine (laws_eqIntS.calls k _ _ t1153 _ _ t1143 false _ (Kd.C_mv (Kd.R_reads' HO1155.out).2.2) ((Kd.R_reads' HO1155.out).2.1) (Kd.C_mv (Kd.R_reads' HO1145.out).2.2) ((Kd.R_reads' HO1145.out).2.1) A26.out).mono ?_); rintro e w' ⟨rfl, ⟨nd, rfl⟩⟩; refine ⟨_, rfl, ?_⟩))
    go_meet
    case rel => exact ⟨_, (true), (by first | rfl | (simp; done) | (simp [*]; done)), H', ⟨by first | omega | exact Nat.le_refl _⟩, ⟨Kd.R_mv (Kd.R_mono HO1145.out (fun _ hk => hk.2))⟩, ⟨Kd.R_mv (Kd.R_mono HO1155.out (fun _ hk => hk.2))⟩, ⟨Kd.R_mv (Kd.R_mono (ok' := fun k_ => True) HO1151.out (fun _ hk => trivial))⟩, ⟨km_ BK1136⟩, ⟨km_ BK1152⟩, ⟨bm HB⟩⟩
  case rest =>
   clear HC11
   try clear c2
   try clear c3
   try clear c3b0
   try clear c9
   try clear c22
   try clear c30
   try clear hcz13_0
   try clear hcz13_1
   try clear hcz13_2
   try clear hcz15_0
   try clear hcz15_1
   try clear hcz15_2
   try clear hcz19_0
   try clear hcz19_1
   try clear hcz19_2
   try clear hcz23_0
   try clear hcz23_1
   try clear hcz23_2
   try clear hfz13_0
   try clear hfz13_1
   try clear hfz13_2
   try clear hfz15_0
   try clear hfz15_1
   try clear hfz15_2
   try clear hfz19_0
   try clear hfz19_1
   try clear hfz19_2
   try clear hfz23_0
   try clear hfz23_1
   try clear hfz23_2
   obtain ⟨kq, x40_10, rfl, HA, HJ10, HO_4, HO_7, HO_1153002, BK1136, BK1152, HB⟩ := hcut
   cases kq with
   | zero => exact absurd HA.out (by simp [laws_FnExactUnusedCells.j0])
   | succ kj10 =>
    have H := HA.out
    clear HA
    simp only [laws_FnExactUnusedCells.j0] at H
    by_cases c32 : x40_10 = true
    ·subst c32
     have H1 : (some false) = some r := by rw [if_pos rfl] at H; exact H
     clear H
     have H := H1
     clear H1
     exact absurd (H.trans (congrArg some HRT.out)) (by simp)
    ·replace c32 := Bool.eq_false_iff.mpr c32
     subst c32
     have H1 : ((laws_toBoard.f kj10 a0_0 a0_1 l0_2).bind fun bt1158 => ((laws_eqBoard.f kj10 t1147 t1148 t1149 bt1158.1 bt1158.2.1 bt1158.2.2).bind fun t1163 => (if t1163 = true then ((laws_markBoard.f kj10 t1147 t1148 t1149 1).bind fun bt1164 => (if bt1164.1 < 0 then (laws_FnExactUnusedCells.j1 kj10 t1143 t1146 t1153 true a0_0 a0_1 l0_2) else ((laws_eqIntS.f kj10 t1153 t1143).bind fun t1166 => (if t1166 = true then (laws_FnExactUnusedCells.j1 kj10 t1143 t1146 t1153 (t1156 != t1146) a0_0 a0_1 l0_2) else (laws_FnExactUnusedCells.j1 kj10 t1143 t1146 t1153 true a0_0 a0_1 l0_2))))) else (some false)))) = some r := by rw [if_neg (show ¬ (false = true) by decide)] at H; exact H
     clear H
     have H := H1
     clear H1
     replace H := Option.bind_eq_some_iff.mp H
     obtain ⟨⟨t1158, t1159, t1160⟩, A330, H⟩ := H
     replace H : ((laws_eqBoard.f kj10 t1147 t1148 t1149 t1158 t1159 t1160).bind fun t1163 => (if t1163 = true then ((laws_markBoard.f kj10 t1147 t1148 t1149 1).bind fun bt1164 => (if bt1164.1 < 0 then (laws_FnExactUnusedCells.j1 kj10 t1143 t1146 t1153 true a0_0 a0_1 l0_2) else ((laws_eqIntS.f kj10 t1153 t1143).bind fun t1166 => (if t1166 = true then (laws_FnExactUnusedCells.j1 kj10 t1143 t1146 t1153 (t1156 != t1146) a0_0 a0_1 l0_2) else (laws_FnExactUnusedCells.j1 kj10 t1143 t1146 t1153 true a0_0 a0_1 l0_2))))) else (some false))) = some r := H
     have A33 := Aside0.mk A330
     clear A330
     replace H := Option.bind_eq_some_iff.mp H
     obtain ⟨t1163, A340, H⟩ := H
     replace H : (if t1163 = true then ((laws_markBoard.f kj10 t1147 t1148 t1149 1).bind fun bt1164 => (if bt1164.1 < 0 then (laws_FnExactUnusedCells.j1 kj10 t1143 t1146 t1153 true a0_0 a0_1 l0_2) else ((laws_eqIntS.f kj10 t1153 t1143).bind fun t1166 => (if t1166 = true then (laws_FnExactUnusedCells.j1 kj10 t1143 t1146 t1153 (t1156 != t1146) a0_0 a0_1 l0_2) else (laws_FnExactUnusedCells.j1 kj10 t1143 t1146 t1153 true a0_0 a0_1 l0_2))))) else (some false)) = some r := H
     have A34 := Aside0.mk A340
     clear A340
     by_cases c35 : t1163 = true
     ·subst c35
      have H1 : ((laws_markBoard.f kj10 t1147 t1148 t1149 1).bind fun bt1164 => (if bt1164.1 < 0 then (laws_FnExactUnusedCells.j1 kj10 t1143 t1146 t1153 true a0_0 a0_1 l0_2) else ((laws_eqIntS.f kj10 t1153 t1143).bind fun t1166 => (if t1166 = true then (laws_FnExactUnusedCells.j1 kj10 t1143 t1146 t1153 (t1156 != t1146) a0_0 a0_1 l0_2) else (laws_FnExactUnusedCells.j1 kj10 t1143 t1146 t1153 true a0_0 a0_1 l0_2))))) = some r := by rw [if_pos rfl] at H; exact H
      clear H
      have H := H1
      clear H1
      replace H := Option.bind_eq_some_iff.mp H
      obtain ⟨⟨t1164, t1165⟩, A360, H⟩ := H
      replace H : (if t1164 < 0 then (laws_FnExactUnusedCells.j1 kj10 t1143 t1146 t1153 true a0_0 a0_1 l0_2) else ((laws_eqIntS.f kj10 t1153 t1143).bind fun t1166 => (if t1166 = true then (laws_FnExactUnusedCells.j1 kj10 t1143 t1146 t1153 (t1156 != t1146) a0_0 a0_1 l0_2) else (laws_FnExactUnusedCells.j1 kj10 t1143 t1146 t1153 true a0_0 a0_1 l0_2)))) = some r := H
      have A36 := Aside0.mk A360
      clear A360
      have HC37 := Aside0.mk H
      clear H
      try go_wp2
      refine ev6 (Kd.R_drew HO_4.out) (Kd.R_drew HO_7.out) (Kd.R_drew HO_1153002.out) (blk_drew BK1136.out) (blk_drew BK1152.out) (below_drew1 HB.out) ?_
      clear HO_4 HO_7 HO_1153002 BK1136 BK1152 HB
      intro HO_4 HO_7 HO_1153002 BK1136 BK1152 HB
      refine start_ (n := 5) (S := fun w' => w'.cell? ⟨gb1152, 0, none⟩ = some (.int .i64 t1147) ∧ w'.cell? ⟨gb1152, 1, none⟩ = some (.int .i64 t1148) ∧ w'.cell? ⟨gb1152, 2, none⟩ = some (.slice Ao24 t1149.length co24) ∧ w'.cell? ⟨gb1136, 0, none⟩ = some (.int .i64 a0_0) ∧ w'.cell? ⟨gb1136, 1, none⟩ = some (.int .i64 a0_1) ∧ w'.cell? ⟨gb1136, 2, none⟩ = some (.slice A0_2 l0_2.length c0_2)) (ds := []) #[false, false, false, false, false] (by kernel_rfl) rfl rfl ⟨(blk_cell BK1152.out 0).trans rfl, (blk_cell BK1152.out 1).trans rfl, (blk_cell BK1152.out 2).trans rfl, (blk_cell BK1136.out 0).trans rfl, (blk_cell BK1136.out 1).trans rfl, (blk_cell BK1136.out 2).trans rfl⟩ (fun hHeld => ?_)
      generalize wc.drew = w38 at HO_4 HO_7 HO_1153002 BK1136 BK1152 HB hHeld ⊢
      refine take_ (i := 0) (N := some 41) (v := ?_) (a' := ?_) #[true, false, false, false, false] rfl rfl (by kernel_rfl) (fun _ _ _ h => h) (Or.inl ⟨by rfl, ?_⟩) hHeld ?_ ?_
      rotate_left
      ·rintro w' ⟨s0, s1, s2, s3, s4, s5⟩
       go_simp
       with_reducible rfl
      rotate_left
      ·simp only [Act.put, za_, zb_, zc_, i64_w, i32_w]
       rfl
      refine take_ (i := 1) (N := some 42) (v := ?_) (a' := ?_) #[true, true, false, false, false] rfl rfl (by kernel_rfl) (fun _ _ _ h => h) (Or.inl ⟨by rfl, ?_⟩) hHeld ?_ ?_
      rotate_left
      ·rintro w' ⟨s0, s1, s2, s3, s4, s5⟩
       go_simp
       with_reducible rfl
      rotate_left
      ·simp only [Act.put, za_, zb_, zc_, i64_w, i32_w]
       rfl
      refine one_ (i := 2) (N := some 43) #[true, true, true, false, false] rfl rfl (by kernel_rfl) (by decide) (fun K hK => ?_)
      refine goes_ Try.func32 (by kernel_rfl) rfl #[.agg #[.int .i64 a0_0, .int .i64 a0_1, .slice A0_2 l0_2.length c0_2]] (by rfl) rfl rfl (by (try simp only [ma_, mb_, mc_]); first | done | rfl | (simp only [List.length_drop, List.length_take]; rfl)) ?_
      with_reducible refine (laws_toBoard.calls kj10 a0_0 a0_1 _ _ l0_2 t1158 t1159 t1160 _ ?side1 ?side2 A33.out).mono ?_
      (case side1 => exact Kd.C_mv (Kd.C_below HR0_2.out HB.out))
      (case side2 => exact HC0_2.out)
      rintro e w39 ⟨v1161, rfl, ho0, hb⟩
      refine ⟨_, rfl, ?_⟩
      refine ev7 (Kd.R_below (Kd.R_mv HO_4.out) hb) (Kd.R_below (Kd.R_mv HO_7.out) hb) (Kd.R_elder' (Kd.R_mv HO_1153002.out) (Kd.R_base ho0) hb) (Kd.R_lower (Kd.R_new' ho0 (Kd.R_lt (Kd.R_mv HO_1153002.out))) (below_size (bm HB))) (kb BK1136 hb) (kb BK1152 hb) (bs HB hb) ?_
      clear HO_4 HO_7 HO_1153002 BK1136 BK1152 HB
      intro HO_4 HO_7 HO_1153002 HO1162 BK1136 BK1152 HB
      (try clear hb)
      (try clear hb2)
      (try clear hk)
      (try clear hi)
      (try clear ho0)
      obtain ⟨Ao40, co40, eo40⟩ := Kd.R_slice HO1162.out
      (first | subst eo40 | (injection eo40 with f1_ f2_ f3_; have f4_ := f1_.symm; have f5_ := f3_.symm; clear f1_ f2_ f3_; subst f4_; subst f5_))
      refine hK.out _ _ ⟨(blk_cell BK1152.out 0).trans rfl, (blk_cell BK1152.out 1).trans rfl, (blk_cell BK1152.out 2).trans rfl, (blk_cell BK1136.out 0).trans rfl, (blk_cell BK1136.out 1).trans rfl, (blk_cell BK1136.out 2).trans rfl⟩ (fun hHeld => ?_)
      clear hK K
      refine norm_ (a' := ?_) ?_ ?_
      rotate_left
      ·show Act.put _ (some 43) _ = _
       simp only [Act.put, za_, zb_, zc_, i64_w, i32_w]
       rfl
      refine one_ (i := 3) (N := some 44) #[true, true, true, true, false] rfl rfl (by kernel_rfl) (by decide) (fun K hK => ?_)
      refine goes_ Try.func34 (by kernel_rfl) rfl #[.agg #[.int .i64 t1147, .int .i64 t1148, .slice Ao24 t1149.length co24], .agg #[.int .i64 t1158, .int .i64 t1159, .slice Ao40 t1160.length co40]] (by rfl) rfl rfl (by (try simp only [ma_, mb_, mc_]); first | done | rfl | (simp only [List.length_drop, List.length_take]; rfl)) ?_
      with_reducible refine (laws_eqBoard.calls kj10 t1147 t1148 _ _ t1149 t1158 t1159 _ _ t1160 true _ ?side1 ?side2 ?side3 ?side4 A34.out).mono ?_
      (case side1 => exact Kd.C_mv (Kd.R_reads' HO_1153002.out).2.2)
      (case side2 => exact (Kd.R_reads' HO_1153002.out).2.1)
      (case side3 => exact Kd.C_mv (Kd.R_reads' HO1162.out).2.2)
      (case side4 => exact (Kd.R_reads' HO1162.out).2.1)
      rintro e w41 ⟨rfl, hb⟩
      refine ⟨_, rfl, ?_⟩
      refine ev7 (Kd.R_below (Kd.R_mv HO_4.out) hb) (Kd.R_below (Kd.R_mv HO_7.out) hb) (Kd.R_below (Kd.R_mv HO_1153002.out) hb) (Kd.R_below (Kd.R_mv HO1162.out) hb) (kb BK1136 hb) (kb BK1152 hb) (bs HB hb) ?_
      clear HO_4 HO_7 HO_1153002 HO1162 BK1136 BK1152 HB
      intro HO_4 HO_7 HO_1153002 HO1162 BK1136 BK1152 HB
      (try clear hb)
      (try clear hb2)
      (try clear hk)
      (try clear hi)
      refine hK.out _ _ ⟨(blk_cell BK1152.out 0).trans rfl, (blk_cell BK1152.out 1).trans rfl, (blk_cell BK1152.out 2).trans rfl, (blk_cell BK1136.out 0).trans rfl, (blk_cell BK1136.out 1).trans rfl, (blk_cell BK1136.out 2).trans rfl⟩ (fun hHeld => ?_)
      clear hK K
      refine norm_ (a' := ?_) ?_ ?_
      rotate_left
      ·show Act.put _ (some 44) _ = _
       simp only [Act.put, za_, zb_, zc_, i64_w, i32_w]
       rfl
      refine pure_ (i := 4) (N := some 45) (v := ?_) (a' := ?_) #[true, true, true, true, true] rfl rfl (by kernel_rfl) (fun _ _ _ h => h) (Or.inl ⟨by rfl, ?_⟩) ?_ ?_
      rotate_left
      ·intro w'
       go_simp
       with_reducible rfl
      rotate_left
      ·simp only [Act.put, za_, zb_, zc_, i64_w, i32_w]
       rfl
      refine done_ (by kernel_rfl) ?_
      have hnb42 := NB1152_1136.out
      have hnc42 := NB1136_1152.out
      obtain ⟨hcz43_0, hcz43_1, hcz43_2, hfz43_0, hfz43_1, hfz43_2⟩ := bt3 BK1152
      go_upto_region 14 with (first | ((with_reducible refine gate_callee (f := 39) rfl ?_); refine goesL_ (some 48) rfl rfl Try.func39 (by kernel_rfl) rfl #[.agg #[.int .i64 t1147, .int .i64 t1148, .slice Ao24 t1149.length co24], .int .i64 1] rfl (by (try simp only [ma_, mb_, mc_]); first | done | rfl | (simp only [List.length_drop, List.length_take]; rfl)) ?_; (with_reducible refine (laws_markBoard.calls kj10 t1147 t1148 (fun k_ => some k_ = (.slice Ao24 t1149.length co24 : Value).ownBlock) (.slice Ao24 t1149.length co24) t1149 1 t1164 t1165 w _ (bm HB) ?side2 A36.out).mono ?_); (case side2 => exact Kd.R_tight rfl HO_1153002.out); rintro e w44 ⟨rfl, hy0, hb, hkp⟩; refine ⟨_, rfl, ?_⟩; refine ev7 (Kd.R_mono (ok' := fun k_ => some k_ ≠ (v1154 : Value).ownBlock) (Kd.R_keptB ((Kd.R_apart' HO_4.out (Kd.R_typed HO_1153002.out) (by decide))) hkp (fun k_ hk_ hs_ => (hk_.2) hs_)) (fun k_ hk_ => hk_.1.1)) (Kd.R_mono (ok' := fun k_ => some k_ ≠ (v1144 : Value).ownBlock) (Kd.R_keptB ((Kd.R_apart' HO_7.out (Kd.R_typed HO_1153002.out) (by decide))) hkp (fun k_ hk_ hs_ => (hk_.2) hs_)) (fun k_ hk_ => hk_.1.1)) (Kd.R_reok rfl hy0 (fun k_ e_ => HO_1153002.out.1 k_ e_)) (blk_kept (km_ BK1136) hkp (fun hs_ => (fun e_ => (Kd.R_ne HO_1153002.out BK1136.out (by decide)) e_) hs_)) (blk_kept (km_ BK1152) hkp (fun hs_ => (fun e_ => (Kd.R_ne HO_1153002.out BK1152.out (by decide)) e_) hs_)) (Kd.R_mono (ok' := fun k_ => some k_ ≠ (.slice Ao24 t1149.length co24 : Value).ownBlock) (Kd.R_keptB (HO1162.out) hkp (fun k_ hk_ hs_ => (hk_.2) hs_)) (fun k_ hk_ => hk_.1.2)) (hb) ?_; clear HO_4 HO_7 HO_1153002 BK1136 BK1152 HO1162 HB; intro HO_4 HO_7 HO_1153002 BK1136 BK1152 HO1162 HB; (try clear hb); (try clear hkp); (try clear hy0)))
      (try simp only [Act.put, za_, zb_, zc_])
      go_cut [61] (fun v61 wc => ∃ (kq : Nat) (x61_36 : Bool), v61 = .bool x61_36 ∧ Aside0 (laws_FnExactUnusedCells.j1 kq t1143 t1146 t1153 x61_36 a0_0 a0_1 l0_2 = some r) ∧ Aside0 (kq ≤ kj10) ∧ Aside0 (Kd.R (Kd.int .i64) 3 wc w.heap.size (fun k_ => some k_ ≠ (v1154 : Value).ownBlock) v1144 t1143) ∧ Aside0 (Kd.R (Kd.int .i64) 3 wc w.heap.size (fun k_ => some k_ ≠ (v1144 : Value).ownBlock) v1154 t1153) ∧ Aside0 (Kd.R k78 78 wc w.heap.size (fun _ => True) (.slice Ao24 t1149.length co24) t1165) ∧ Aside0 (wc.heap[gb1136]? = some (.cells #[.int .i64 a0_0, .int .i64 a0_1, (.slice A0_2 l0_2.length c0_2)] 44 (0, 0))) ∧ Aside0 (wc.heap[gb1152]? = some (.cells #[.int .i64 t1147, .int .i64 t1148, (.slice Ao24 t1149.length co24)] 48 (0, 0))) ∧ Aside0 (Below w.heap.size w wc))
      case first =>
       have H := HC37.out
       clear HC37
       by_cases c45 : t1164 < 0
       ·rw [if_pos c45] at H
        have c45b0 : decide (t1164 < 0) = true := decide_eq_true c45
        clear c45
        (first | rw [c45b0] | (simp only [i64_w, i32_w]; rw [c45b0]) | skip)
        have H' := Aside0.mk H
        clear H
        go_wp2
        go_meet
        case rel => exact ⟨_, (true), (by first | rfl | (simp; done) | (simp [*]; done)), H', ⟨by have := HJ10.out; first | omega | exact Nat.le_refl _⟩, ⟨Kd.R_mv HO_4.out⟩, ⟨Kd.R_mv HO_7.out⟩, ⟨Kd.R_mv (Kd.R_mono (ok' := fun k_ => True) HO_1153002.out (fun _ hk => trivial))⟩, ⟨km_ BK1136⟩, ⟨km_ BK1152⟩, ⟨bm HB⟩⟩
       ·rw [if_neg c45] at H
        have c45b0 : decide (t1164 < 0) = false := decide_eq_false c45
        clear c45
        (first | rw [c45b0] | (simp only [i64_w, i32_w]; rw [c45b0]) | skip)
        replace H := Option.bind_eq_some_iff.mp H
        obtain ⟨t1166, A460, H⟩ := H
        replace H : (if t1166 = true then (laws_FnExactUnusedCells.j1 kj10 t1143 t1146 t1153 (t1156 != t1146) a0_0 a0_1 l0_2) else (laws_FnExactUnusedCells.j1 kj10 t1143 t1146 t1153 true a0_0 a0_1 l0_2)) = some r := H
        have A46 := Aside0.mk A460
        clear A460
        by_cases c47 : t1166 = true
        ·subst c47
         have H1 : (laws_FnExactUnusedCells.j1 kj10 t1143 t1146 t1153 (t1156 != t1146) a0_0 a0_1 l0_2) = some r := by rw [if_pos rfl] at H; exact H
         clear H
         have H := H1
         clear H1
         have H' := Aside0.mk H
         clear H
         obtain ⟨Ao48, co48, eo48⟩ := Kd.R_slice HO_7.out
         subst eo48
         obtain ⟨Ao49, co49, eo49⟩ := Kd.R_slice HO_4.out
         subst eo49
         go_wp2_with (first | (go_at_call 18; (with_reducible refine (laws_eqIntS.calls kj10 _ _ t1153 _ _ t1143 true _ (Kd.C_mv (Kd.R_reads' HO_7.out).2.2) ((Kd.R_reads' HO_7.out).2.1) (Kd.C_mv (Kd.R_reads' HO_4.out).2.2) ((Kd.R_reads' HO_4.out).2.1) A46.out).mono ?_); rintro e w' ⟨rfl, ⟨nd, rfl⟩⟩))
         go_meet
         case rel => exact ⟨_, ((t1156 != t1146)), (by first | rfl | (simp; done) | (simp [*]; done)), H', ⟨by have := HJ10.out; first | omega | exact Nat.le_refl _⟩, ⟨Kd.R_mv HO_4.out⟩, ⟨Kd.R_mv HO_7.out⟩, ⟨Kd.R_mv (Kd.R_mono (ok' := fun k_ => True) HO_1153002.out (fun _ hk => trivial))⟩, ⟨km_ BK1136⟩, ⟨km_ BK1152⟩, ⟨bm HB⟩⟩
        ·replace c47 := Bool.eq_false_iff.mpr c47
         subst c47
         have H1 : (laws_FnExactUnusedCells.j1 kj10 t1143 t1146 t1153 true a0_0 a0_1 l0_2) = some r := by rw [if_neg (show ¬ (false = true) by decide)] at H; exact H
         clear H
         have H := H1
         clear H1
         have H' := Aside0.mk H
         clear H
         obtain ⟨Ao50, co50, eo50⟩ := Kd.R_slice HO_7.out
         subst eo50
         obtain ⟨Ao51, co51, eo51⟩ := Kd.R_slice HO_4.out
         subst eo51
         go_wp2_with (first | (go_at_call 18; (with_reducible refine (laws_eqIntS.calls kj10 _ _ t1153 _ _ t1143 false _ (Kd.C_mv (Kd.R_reads' HO_7.out).2.2) ((Kd.R_reads' HO_7.out).2.1) (Kd.C_mv (Kd.R_reads' HO_4.out).2.2) ((Kd.R_reads' HO_4.out).2.1) A46.out).mono ?_); rintro e w' ⟨rfl, ⟨nd, rfl⟩⟩))
         go_meet
         case rel => exact ⟨_, (true), (by first | rfl | (simp; done) | (simp [*]; done)), H', ⟨by have := HJ10.out; first | omega | exact Nat.le_refl _⟩, ⟨Kd.R_mv HO_4.out⟩, ⟨Kd.R_mv HO_7.out⟩, ⟨Kd.R_mv (Kd.R_mono (ok' := fun k_ => True) HO_1153002.out (fun _ hk => trivial))⟩, ⟨km_ BK1136⟩, ⟨km_ BK1152⟩, ⟨bm HB⟩⟩
      case rest =>
       clear HC37
       try clear c2
       try clear p2
       try clear c3
       try clear c3b0
       try clear c4
       try clear c9
       try clear c22
       try clear c30
       try clear c32
       try clear c34
       try clear c35
       try clear c37
       try clear c38
       try clear c39
       try clear c42
       try clear hcz13_0
       try clear hcz13_1
       try clear hcz13_2
       try clear hcz15_0
       try clear hcz15_1
       try clear hcz15_2
       try clear hcz19_0
       try clear hcz19_1
       try clear hcz19_2
       try clear hcz23_0
       try clear hcz23_1
       try clear hcz23_2
       try clear hcz43_0
       try clear hcz43_1
       try clear hcz43_2
       try clear hfz13_0
       try clear hfz13_1
       try clear hfz13_2
       try clear hfz15_0
       try clear hfz15_1
       try clear hfz15_2
       try clear hfz19_0
       try clear hfz19_1
       try clear hfz19_2
       try clear hfz23_0
       try clear hfz23_1
       try clear hfz23_2
       try clear hfz43_0
       try clear hfz43_1
       try clear hfz43_2
       obtain ⟨kq, x61_36, rfl, HA, HJ36, HO_4, HO_7, HO_1153002, BK1136, BK1152, HB⟩ := hcut
       have hl1153002_36 := (Kd.R_reads' HO_1153002.out).1
       rw [hl1153002_36] at HO_1153002
       (try simp only [hl1153002_36])
       (try simp only [hl1153002_36] at BK1136)
       (try simp only [hl1153002_36] at BK1152)
       (try simp only [hl1153002_36] at HO_4)
       (try simp only [hl1153002_36] at HO_7)
       cases kq with
       | zero => exact absurd HA.out (by simp [laws_FnExactUnusedCells.j1])
       | succ kj36 =>
        have H := HA.out
        clear HA
        simp only [laws_FnExactUnusedCells.j1] at H
        by_cases c52 : x61_36 = true
        ·subst c52
         have H1 : (some false) = some r := by rw [if_pos rfl] at H; exact H
         clear H
         have H := H1
         clear H1
         exact absurd (H.trans (congrArg some HRT.out)) (by simp)
        ·replace c52 := Bool.eq_false_iff.mpr c52
         subst c52
         have H1 : ((laws_markIntS.f kj36 t1153 1).bind fun bt1167 => ((laws_heldIntS.f kj36 bt1167.2 1).bind fun t1169 => (if t1169 < 0 then (some false) else (if t1169 = bt1167.1 then ((laws_toBoard.f kj36 a0_0 a0_1 l0_2).bind fun bt1170 => ((impl_UnusedCells.f kj36 bt1170.1 bt1170.2.1 bt1170.2.2).bind fun bt1175 => ((laws_eqIntS.f kj36 bt1175.1 t1143).bind fun t1179 => (if t1179 = true then (laws_FnExactUnusedCells.j2 kj36 bt1167.2 bt1167.1 (bt1175.2 != t1146)) else (laws_FnExactUnusedCells.j2 kj36 bt1167.2 bt1167.1 true))))) else (some false))))) = some r := by rw [if_neg (show ¬ (false = true) by decide)] at H; exact H
         clear H
         have H := H1
         clear H1
         replace H := Option.bind_eq_some_iff.mp H
         obtain ⟨⟨t1167, t1168⟩, A530, H⟩ := H
         replace H : ((laws_heldIntS.f kj36 t1168 1).bind fun t1169 => (if t1169 < 0 then (some false) else (if t1169 = t1167 then ((laws_toBoard.f kj36 a0_0 a0_1 l0_2).bind fun bt1170 => ((impl_UnusedCells.f kj36 bt1170.1 bt1170.2.1 bt1170.2.2).bind fun bt1175 => ((laws_eqIntS.f kj36 bt1175.1 t1143).bind fun t1179 => (if t1179 = true then (laws_FnExactUnusedCells.j2 kj36 t1168 t1167 (bt1175.2 != t1146)) else (laws_FnExactUnusedCells.j2 kj36 t1168 t1167 true))))) else (some false)))) = some r := H
         have A53 := Aside0.mk A530
         clear A530
         replace H := Option.bind_eq_some_iff.mp H
         obtain ⟨t1169, A540, H⟩ := H
         replace H : (if t1169 < 0 then (some false) else (if t1169 = t1167 then ((laws_toBoard.f kj36 a0_0 a0_1 l0_2).bind fun bt1170 => ((impl_UnusedCells.f kj36 bt1170.1 bt1170.2.1 bt1170.2.2).bind fun bt1175 => ((laws_eqIntS.f kj36 bt1175.1 t1143).bind fun t1179 => (if t1179 = true then (laws_FnExactUnusedCells.j2 kj36 t1168 t1167 (bt1175.2 != t1146)) else (laws_FnExactUnusedCells.j2 kj36 t1168 t1167 true))))) else (some false))) = some r := H
         have A54 := Aside0.mk A540
         clear A540
         by_cases c55 : t1169 < 0
         ·rw [if_pos c55] at H
          have c55b0 : decide (t1169 < 0) = true := decide_eq_true c55
          clear c55
          exact absurd (H.trans (congrArg some HRT.out)) (by simp)
         ·rw [if_neg c55] at H
          have c55b0 : decide (t1169 < 0) = false := decide_eq_false c55
          clear c55
          by_cases c56 : t1169 = t1167
          ·rw [if_pos c56] at H
           have c56b0 : (t1169 == t1167) = true := beq_iff_eq.mpr c56
           have c56b1 : (t1169 != t1167) = false := bne_eq_false_iff_eq.mpr c56
           clear c56
           replace H := Option.bind_eq_some_iff.mp H
           obtain ⟨⟨t1170, t1171, t1172⟩, A570, H⟩ := H
           replace H : ((impl_UnusedCells.f kj36 t1170 t1171 t1172).bind fun bt1175 => ((laws_eqIntS.f kj36 bt1175.1 t1143).bind fun t1179 => (if t1179 = true then (laws_FnExactUnusedCells.j2 kj36 t1168 t1167 (bt1175.2 != t1146)) else (laws_FnExactUnusedCells.j2 kj36 t1168 t1167 true)))) = some r := H
           have A57 := Aside0.mk A570
           clear A570
           replace H := Option.bind_eq_some_iff.mp H
           obtain ⟨⟨t1175, t1178⟩, A580, H⟩ := H
           replace H : ((laws_eqIntS.f kj36 t1175 t1143).bind fun t1179 => (if t1179 = true then (laws_FnExactUnusedCells.j2 kj36 t1168 t1167 (t1178 != t1146)) else (laws_FnExactUnusedCells.j2 kj36 t1168 t1167 true))) = some r := H
           have A58 := Aside0.mk A580
           clear A580
           have HC59 := Aside0.mk H
           clear H
           obtain ⟨Ao60, co60, eo60⟩ := Kd.R_slice HO_7.out
           subst eo60
           go_upto_region 25 with (first | ((with_reducible refine gate_callee (f := 40) rfl ?_); refine goesL_ (some 64) rfl rfl Try.func40 (by kernel_rfl) rfl #[.slice Ao60 t1153.length co60, .int .i64 1] rfl (by (try simp only [ma_, mb_, mc_]); first | done | rfl | (simp only [List.length_drop, List.length_take]; rfl)) ?_; (with_reducible refine (laws_markIntS.calls kj36 (fun k_ => some k_ = (.slice Ao60 t1153.length co60 : Value).ownBlock) (.slice Ao60 t1153.length co60) t1153 1 t1167 t1168 w _ (bm HB) ?side2 A53.out).mono ?_); (case side2 => exact Kd.R_tight rfl HO_7.out); rintro e w61 ⟨rfl, hy0, hb, hkp⟩; refine ⟨_, rfl, ?_⟩; refine ev6 (Kd.R_mono (ok' := fun k_ => some k_ ≠ (.slice Ao60 t1153.length co60 : Value).ownBlock) (Kd.R_keptB (HO_4.out) hkp (fun k_ hk_ hs_ => (hk_) hs_)) (fun k_ hk_ => hk_.1)) (Kd.R_reok rfl hy0 (fun k_ e_ => HO_7.out.1 k_ e_)) (Kd.R_mono (ok' := fun k_ => True) (Kd.R_keptB ((Kd.R_apart' HO_1153002.out (Kd.R_typed HO_7.out) (by decide))) hkp (fun k_ hk_ hs_ => (hk_.2) hs_)) (fun k_ hk_ => trivial)) (blk_kept (km_ BK1136) hkp (fun hs_ => (fun e_ => (Kd.R_ne HO_7.out BK1136.out (by decide)) e_) hs_)) (blk_kept (km_ BK1152) hkp (fun hs_ => (fun e_ => (Kd.R_ne HO_7.out BK1152.out (by decide)) e_) hs_)) (hb) ?_; clear HO_4 HO_7 HO_1153002 BK1136 BK1152 HB; intro HO_4 HO_7 HO_1153002 BK1136 BK1152 HB; (try clear hb); (try clear hkp); (try clear hy0)) | ((with_reducible refine gate_callee (f := 41) rfl ?_); refine goesL_ (some 67) rfl rfl Try.func41 (by kernel_rfl) rfl #[.slice Ao60 t1168.length co60, .int .i64 1] rfl (by (try simp only [ma_, mb_, mc_]); first | done | (rw [show t1168.length = t1153.length from (Kd.R_reads' HO_7.out).1.symm] <;> rfl) | rfl | (simp only [List.length_drop, List.length_take]; rfl)) ?_; (with_reducible refine (laws_heldIntS.calls kj36 _ _ t1168 1 t1169 _ (Kd.C_mv (Kd.R_reads' HO_7.out).2.2) ?side2 A54.out).mono ?_); (case side2 => rw [show t1168.length = t1153.length from (Kd.R_reads' HO_7.out).1.symm]; exact (Kd.R_reads' HO_7.out).2.1); rintro e w' ⟨rfl, ⟨nd, rfl⟩⟩; refine ⟨_, rfl, ?_⟩; have hnb62 := NB1136_1152.out; have hnc62 := NB1152_1136.out; obtain ⟨hcz63_0, hcz63_1, hcz63_2, hfz63_0, hfz63_1, hfz63_2⟩ := bt3 BK1136) | ((with_reducible refine gate_callee (f := 32) rfl ?_); refine goesL_ (some 75) rfl rfl Try.func32 (by kernel_rfl) rfl #[.agg #[.int .i64 a0_0, .int .i64 a0_1, .slice A0_2 l0_2.length c0_2]] rfl (by (try simp only [ma_, mb_, mc_]); first | done | rfl | (simp only [List.length_drop, List.length_take]; rfl)) ?_; (with_reducible refine (laws_toBoard.calls kj36 a0_0 a0_1 _ _ l0_2 t1170 t1171 t1172 _ (Kd.C_below HR0_2.out (bm HB)) HC0_2.out A57.out).mono ?_); rintro e w64 ⟨v1173, rfl, ho0, hb⟩; refine ⟨_, rfl, ?_⟩; refine ev7 (Kd.R_below (Kd.R_mv HO_4.out) hb) (Kd.R_below (Kd.R_mv HO_7.out) hb) (Kd.R_elder' (Kd.R_mv HO_1153002.out) (Kd.R_base ho0) hb) (Kd.R_lower (Kd.R_new' ho0 (Kd.R_lt (Kd.R_mv HO_1153002.out))) (below_size (bm HB))) (kb BK1136 hb) (kb BK1152 hb) (bs HB hb) ?_; clear HO_4 HO_7 HO_1153002 BK1136 BK1152 HB; intro HO_4 HO_7 HO_1153002 HO1174 BK1136 BK1152 HB; (try clear hb); (try clear hb2); (try clear hk); (try clear hi); (try clear ho0); obtain ⟨Ao65, co65, eo65⟩ := Kd.R_slice HO1174.out; subst eo65) | ((with_reducible refine gate_callee (f := 38) rfl ?_); refine goesL_ (some 76) rfl rfl Try.func38 (by kernel_rfl) rfl #[.agg #[.int .i64 t1170, .int .i64 t1171, .slice Ao65 t1172.length co65]] rfl (by (try simp only [ma_, mb_, mc_]); first | done | rfl | (simp only [List.length_drop, List.length_take]; rfl)) ?_; (with_reducible refine (impl_UnusedCells.calls kj36 t1170 t1171 _ _ t1172 t1175 t1178 _ (Kd.C_mv (Kd.R_reads' HO1174.out).2.2) ((Kd.R_reads' HO1174.out).2.1) A58.out).mono ?_); rintro e w66 ⟨v1176, rfl, ho0, hb⟩; refine ⟨_, rfl, ?_⟩; refine ev8 (Kd.R_elder' (Kd.R_mv HO_4.out) (Kd.R_base ho0) hb) (Kd.R_elder' (Kd.R_mv HO_7.out) (Kd.R_base ho0) hb) (Kd.R_below (Kd.R_mv HO_1153002.out) hb) (Kd.R_below (Kd.R_mv HO1174.out) hb) (Kd.R_lower (Kd.R_new' (Kd.R_new' ho0 (Kd.R_lt (Kd.R_mv HO_4.out))) (Kd.R_lt (Kd.R_mv HO_7.out))) (below_size (bm HB))) (kb BK1136 hb) (kb BK1152 hb) (bs HB hb) ?_; clear HO_4 HO_7 HO_1153002 HO1174 BK1136 BK1152 HB; intro HO_4 HO_7 HO_1153002 HO1174 HO1177 BK1136 BK1152 HB; (try clear hb); (try clear hb2); (try clear hk); (try clear hi); (try clear ho0)))
           (try simp only [Act.put, za_, zb_, zc_])
           go_cut [87] (fun v87 wc => ∃ (kq : Nat) (x87_58 : Bool), v87 = .bool x87_58 ∧ Aside0 (laws_FnExactUnusedCells.j2 kq t1168 t1167 x87_58 = some r) ∧ Aside0 (kq ≤ kj36) ∧ Aside0 (Kd.R (Kd.int .i64) 3 wc w.heap.size (fun _ => True) (.slice Ao60 t1153.length co60) t1168) ∧ Aside0 (Kd.R k78 78 wc w.heap.size (fun _ => True) (.slice Ao24 t1165.length co24) t1165) ∧ Aside0 (wc.heap[gb1136]? = some (.cells #[.int .i64 a0_0, .int .i64 a0_1, (.slice A0_2 l0_2.length c0_2)] 44 (0, 0))) ∧ Aside0 (wc.heap[gb1152]? = some (.cells #[.int .i64 t1147, .int .i64 t1148, (.slice Ao24 t1165.length co24)] 48 (0, 0))) ∧ Aside0 (Below w.heap.size w wc))
           case first =>
            have H := HC59.out
            clear HC59
            replace H := Option.bind_eq_some_iff.mp H
            obtain ⟨t1179, A670, H⟩ := H
            replace H : (if t1179 = true then (laws_FnExactUnusedCells.j2 kj36 t1168 t1167 (t1178 != t1146)) else (laws_FnExactUnusedCells.j2 kj36 t1168 t1167 true)) = some r := H
            have A67 := Aside0.mk A670
            clear A670
            by_cases c68 : t1179 = true
            ·subst c68
             have H1 : (laws_FnExactUnusedCells.j2 kj36 t1168 t1167 (t1178 != t1146)) = some r := by rw [if_pos rfl] at H; exact H
             clear H
             have H := H1
             clear H1
             have H' := Aside0.mk H
             clear H
             obtain ⟨Ao69, co69, eo69⟩ := Kd.R_slice HO1177.out
             subst eo69
             obtain ⟨Ao70, co70, eo70⟩ := Kd.R_slice HO_4.out
             subst eo70
             go_wp2_with (first | ((with_reducible refine gate_callee (f := 18) rfl ?_); refine goesL_ (some 81) rfl rfl Try.func18 (by kernel_rfl) rfl #[.slice Ao69 t1175.length co69, .slice Ao70 t1143.length co70] rfl (by (try simp only [ma_, mb_, mc_]); first | done | rfl | (simp only [List.length_drop, List.length_take]; rfl)) ?_; (with_reducible refine (laws_eqIntS.calls kj36 _ _ t1175 _ _ t1143 true _ (Kd.C_mv (Kd.R_reads' HO1177.out).2.2) ((Kd.R_reads' HO1177.out).2.1) (Kd.C_mv (Kd.R_reads' HO_4.out).2.2) ((Kd.R_reads' HO_4.out).2.1) A67.out).mono ?_); rintro e w' ⟨rfl, ⟨nd, rfl⟩⟩; refine ⟨_, rfl, ?_⟩))
             go_meet
             case rel => exact ⟨_, ((t1178 != t1146)), (by first | rfl | (simp; done) | (simp [*]; done)), H', ⟨by have := HJ10.out; have := HJ36.out; first | omega | exact Nat.le_refl _⟩, ⟨by (try simp only [hl1153002_36]); exact Kd.R_mv (Kd.R_mono (ok' := fun k_ => True) HO_7.out (fun _ hk => trivial))⟩, ⟨by (try simp only [hl1153002_36]); exact Kd.R_mv (Kd.R_mono (ok' := fun k_ => True) HO_1153002.out (fun _ hk => trivial))⟩, ⟨by (try simp only [hl1153002_36]); exact km_ BK1136⟩, ⟨by (try simp only [hl1153002_36]); exact km_ BK1152⟩, ⟨bm HB⟩⟩
            ·replace c68 := Bool.eq_false_iff.mpr c68
             subst c68
             have H1 : (laws_FnExactUnusedCells.j2 kj36 t1168 t1167 true) = some r := by rw [if_neg (show ¬ (false = true) by decide)] at H; exact H
             clear H
             have H := H1
             clear H1
             have H' := Aside0.mk H
             clear H
             obtain ⟨Ao71, co71, eo71⟩ := Kd.R_slice HO1177.out
             subst eo71
             obtain ⟨Ao72, co72, eo72⟩ := Kd.R_slice HO_4.out
             subst eo72
             go_wp2_with (first | ((with_reducible refine gate_callee (f := 18) rfl ?_); refine goesL_ (some 81) rfl rfl Try.func18 (by kernel_rfl) rfl #[.slice Ao71 t1175.length co71, .slice Ao72 t1143.length co72] rfl (by (try simp only [ma_, mb_, mc_]); first | done | rfl | (simp only [List.length_drop, List.length_take]; rfl)) ?_; (with_reducible refine (laws_eqIntS.calls kj36 _ _ t1175 _ _ t1143 false _ (Kd.C_mv (Kd.R_reads' HO1177.out).2.2) ((Kd.R_reads' HO1177.out).2.1) (Kd.C_mv (Kd.R_reads' HO_4.out).2.2) ((Kd.R_reads' HO_4.out).2.1) A67.out).mono ?_); rintro e w' ⟨rfl, ⟨nd, rfl⟩⟩; refine ⟨_, rfl, ?_⟩))
             go_meet
             case rel => exact ⟨_, (true), (by first | rfl | (simp; done) | (simp [*]; done)), H', ⟨by have := HJ10.out; have := HJ36.out; first | omega | exact Nat.le_refl _⟩, ⟨by (try simp only [hl1153002_36]); exact Kd.R_mv (Kd.R_mono (ok' := fun k_ => True) HO_7.out (fun _ hk => trivial))⟩, ⟨by (try simp only [hl1153002_36]); exact Kd.R_mv (Kd.R_mono (ok' := fun k_ => True) HO_1153002.out (fun _ hk => trivial))⟩, ⟨by (try simp only [hl1153002_36]); exact km_ BK1136⟩, ⟨by (try simp only [hl1153002_36]); exact km_ BK1152⟩, ⟨bm HB⟩⟩
           case rest =>
            clear HC59
            try clear c2
            try clear p2
            try clear c3
            try clear c3b0
            try clear c4
            try clear c5
            try clear c6
            try clear c9
            try clear c22
            try clear c30
            try clear c32
            try clear c34
            try clear c35
            try clear c37
            try clear c38
            try clear c39
            try clear c40
            try clear c41
            try clear c42
            try clear c52
            try clear c55
            try clear c55b0
            try clear c56
            try clear c56b0
            try clear c56b1
            try clear c62
            try clear hcz13_0
            try clear hcz13_1
            try clear hcz13_2
            try clear hcz15_0
            try clear hcz15_1
            try clear hcz15_2
            try clear hcz19_0
            try clear hcz19_1
            try clear hcz19_2
            try clear hcz23_0
            try clear hcz23_1
            try clear hcz23_2
            try clear hcz43_0
            try clear hcz43_1
            try clear hcz43_2
            try clear hcz63_0
            try clear hcz63_1
            try clear hcz63_2
            try clear hfz13_0
            try clear hfz13_1
            try clear hfz13_2
            try clear hfz15_0
            try clear hfz15_1
            try clear hfz15_2
            try clear hfz19_0
            try clear hfz19_1
            try clear hfz19_2
            try clear hfz23_0
            try clear hfz23_1
            try clear hfz23_2
            try clear hfz43_0
            try clear hfz43_1
            try clear hfz43_2
            try clear hfz63_0
            try clear hfz63_1
            try clear hfz63_2
            try clear p2
            obtain ⟨kq, x87_58, rfl, HA, HJ58, HO_7, HO_1153002, BK1136, BK1152, HB⟩ := hcut
            have hl7_58 := (Kd.R_reads' HO_7.out).1
            rw [hl7_58] at HO_7
            (try simp only [hl7_58])
            (try simp only [hl7_58] at BK1136)
            (try simp only [hl7_58] at BK1152)
            (try simp only [hl7_58] at HO_1153002)
            cases kq with
            | zero => exact absurd HA.out (by simp [laws_FnExactUnusedCells.j2])
            | succ kj58 =>
             have H := HA.out
             clear HA
             simp only [laws_FnExactUnusedCells.j2] at H
             by_cases c73 : x87_58 = true
             ·subst c73
              have H1 : (some false) = some r := by rw [if_pos rfl] at H; exact H
              clear H
              have H := H1
              clear H1
              exact absurd (H.trans (congrArg some HRT.out)) (by simp)
             ·replace c73 := Bool.eq_false_iff.mpr c73
              subst c73
              have H1 : ((laws_heldIntS.f kj58 t1168 1).bind fun t1180 => (if t1180 < 0 then (some false) else (if t1180 = t1167 then (some true) else (some false)))) = some r := by rw [if_neg (show ¬ (false = true) by decide)] at H; exact H
              clear H
              have H := H1
              clear H1
              replace H := Option.bind_eq_some_iff.mp H
              obtain ⟨t1180, A740, H⟩ := H
              replace H : (if t1180 < 0 then (some false) else (if t1180 = t1167 then (some true) else (some false))) = some r := H
              have A74 := Aside0.mk A740
              clear A740
              by_cases c75 : t1180 < 0
              ·rw [if_pos c75] at H
               have c75b0 : decide (t1180 < 0) = true := decide_eq_true c75
               clear c75
               exact absurd (H.trans (congrArg some HRT.out)) (by simp)
              ·rw [if_neg c75] at H
               have c75b0 : decide (t1180 < 0) = false := decide_eq_false c75
               clear c75
               by_cases c76 : t1180 = t1167
               ·rw [if_pos c76] at H
                have c76b0 : (t1180 == t1167) = true := beq_iff_eq.mpr c76
                have c76b1 : (t1180 != t1167) = false := bne_eq_false_iff_eq.mpr c76
                clear c76
                obtain rfl := Option.some.inj H
                go_wp2_with (first | ((with_reducible refine gate_callee (f := 41) rfl ?_); refine goesL_ (some 90) rfl rfl Try.func41 (by kernel_rfl) rfl #[.slice Ao60 t1168.length co60, .int .i64 1] rfl (by (try simp only [ma_, mb_, mc_]); first | done | rfl | (simp only [List.length_drop, List.length_take]; rfl)) ?_; (with_reducible refine (laws_heldIntS.calls kj58 _ _ t1168 1 t1180 _ (Kd.C_mv (Kd.R_reads' HO_7.out).2.2) ((Kd.R_reads' HO_7.out).2.1) A74.out).mono ?_); rintro e w' ⟨rfl, ⟨nd, rfl⟩⟩; refine ⟨_, rfl, ?_⟩))
                go_ret
                exact ⟨by first | rfl | (simp [e0_, e1_] <;> rfl) | (simp [*, e0_, e1_] <;> rfl), bm HB⟩
               ·rw [if_neg c76] at H
                have c76b0 : (t1180 == t1167) = false := beq_eq_false_iff_ne.mpr c76
                have c76b1 : (t1180 != t1167) = true := bne_iff_ne.mpr c76
                exact absurd (H.trans (congrArg some HRT.out)) (by simp)
          ·rw [if_neg c56] at H
           have c56b0 : (t1169 == t1167) = false := beq_eq_false_iff_ne.mpr c56
           have c56b1 : (t1169 != t1167) = true := bne_iff_ne.mpr c56
           exact absurd (H.trans (congrArg some HRT.out)) (by simp)
     ·replace c35 := Bool.eq_false_iff.mpr c35
      subst c35
      have H1 : (some false) = some r := by rw [if_neg (show ¬ (false = true) by decide)] at H; exact H
      clear H
      have H := H1
      clear H1
      exact absurd (H.trans (congrArg some HRT.out)) (by simp)
end Go.Proofs.Ytjogiiobaakjkaa.F
