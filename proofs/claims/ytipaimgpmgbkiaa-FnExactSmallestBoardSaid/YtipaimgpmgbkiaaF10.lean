-- Printed by a program; checked here.
import Derived.Test.YtipaimgpmgbkiaaF0
import Derived.Test.YtipaimgpmgbkiaaF1
import Derived.Test.YtipaimgpmgbkiaaF2
import Derived.Test.YtipaimgpmgbkiaaF8
namespace Go.Proofs.Ytipaimgpmgbkiaa.F
open Go.RowKit Go.Proofs.YtipaimgpmgbkiaaV.PrintWords Go.Proofs.YtipaimgpmgbkiaaV.PrintLast Go.Proofs.YtipaimgpmgbkiaaV.PrintMore Go.Proofs.YtipaimgpmgbkiaaV.Sl Go.Proofs.YtipaimgpmgbkiaaV.Rf
attribute [local go_sem] max2_int min2_int max_two min_two max_three min_three max_four min_four ia_opt it_opt
attribute [local go_sem] Try.underlying23 Try.underlying25 Try.underlying29 Try.underlying31 Try.underlying42 Try.underlying50 Try.underlying85 Try.underlying88 Try.underlying89 Try.underlying106 Try.underlying122 Try.underlying127
set_option maxHeartbeats 8000000
set_option maxRecDepth 100000
set_option linter.unusedVariables false
set_option linter.unusedSimpArgs false

attribute [local go_sem high] eqA88
/-! ### spec_SmallestBoard: function 51 -/
def spec_SmallestBoard.f (k : Nat) (a0_0 : Int) (a0_1 : Int) (l0_2 : List (S88)) (l0_3 : List Int) (l0_4 : List Int) : Option (Int × Int × (List (S88)) × Bool) := (spec_syGood.f k a0_0 a0_1 l0_2 l0_3 l0_4).bind fun t295 => (if t295 = true then ((spec_syCount.f k a0_0 a0_1 l0_2 l0_3 l0_4).bind fun bt296 => (if bt296.2.2 < 0 then (some (0, 0, ([] : List (S88)), false)) else ((spec_syBoard.f k a0_0 a0_1 l0_2 l0_3 l0_4 bt296.2.2).bind fun bt301 => (some (bt301.1, bt301.2.1, bt301.2.2, true))))) else (some (0, 0, ([] : List (S88)), false)))
theorem spec_SmallestBoard.calls (k : Nat) (a0_0 : Int) (a0_1 : Int) (A0_2 : Option Addr) (c0_2 : Nat) (l0_2 : List (S88)) (A0_3 : Option Addr) (c0_3 : Nat) (l0_3 : List Int) (A0_4 : Option Addr) (c0_4 : Nat) (l0_4 : List Int) (r1 : Int) (r2 : Int) (r3 : List (S88)) (r4 : Bool) (w : World) (hr0_2 : Kd.C k88 w A0_2 l0_2.length l0_2) (hc0_2 : l0_2.length ≤ c0_2) (hr0_3 : Kd.C (Kd.int .i64) w A0_3 l0_3.length l0_3) (hc0_3 : l0_3.length ≤ c0_3) (hr0_4 : Kd.C (Kd.int .i64) w A0_4 l0_4.length l0_4) (hc0_4 : l0_4.length ≤ c0_4) (h : spec_SmallestBoard.f k a0_0 a0_1 l0_2 l0_3 l0_4 = some (r1, r2, r3, r4)) :
    Calls Try.prog 51 #[.agg #[.int .i64 a0_0, .int .i64 a0_1, .slice A0_2 l0_2.length c0_2, .slice A0_3 l0_3.length c0_3, .slice A0_4 l0_4.length c0_4]] w fun e w' => ∃ v2_ : Value, e = .returned (.tuple #[.agg #[.int .i64 r1, .int .i64 r2, v2_], .bool r4]) ∧ Kd.R k88 88 w' w.heap.size (fun _ => True) v2_ r3 ∧ Below w.heap.size w w' := by
 have S := St.init (w := w) (dc k88_heap at88 hr0_2 hc0_2 (dc (Kd.heap_int .i64) (atI .i64) hr0_3 hc0_3 (dc (Kd.heap_int .i64) (atI .i64) hr0_4 hc0_4 dn)))
 clear hr0_2 hc0_2 hr0_3 hc0_3 hr0_4 hc0_4
 have F := S.fc
 have H := h; clear h; unfold spec_SmallestBoard.f at H
 replace H := Option.bind_eq_some_iff.mp H; obtain ⟨t295, A2, H⟩ := H; (try dsimp only at H)
 replace H := sp_ H; rcases H with ⟨c3, H⟩ | ⟨c3, H⟩
 · skip
   subst c3
   replace H := Option.bind_eq_some_iff.mp H; obtain ⟨⟨t296, t299, t300⟩, A4, H⟩ := H; (try dsimp only at H)
   replace H := sp_ H; rcases H with ⟨c5, H⟩ | ⟨c5, H⟩
   · skip
     simp only [Option.some.injEq, Prod.mk.injEq] at H
     obtain ⟨rfl, rfl, rfl, rfl⟩ := H
     go_enter Try.func51, Try.ntmps51
     go_wp2_with (first | ((with_reducible refine gd 1 rfl (L ?_)); refine bo 1 (.agg #[_, _, _, _, _]) S ?_; clear S F; intro gb293 W S; have F := S.fc) | ((with_reducible refine gd 2 rfl (L ?_)); refine al 2 S zi50 ?_; clear S F; intro gb294 W S; have F := S.fc) | ((with_reducible refine gate_callee (f := 67) rfl (L ?_)); refine cl (some 8) Try.func67 (spec_syGood.calls _ _ _ _ _ _ _ _ _ _ _ _ _ _ S.c S.n S.c S.n S.c S.n A2) (hargs := by (simp only [ma_, mb_, mc_, F] <;> rfl)) (h := ?_); rintro e W ⟨rfl, hb⟩; refine ⟨_, rfl, ?_⟩; replace S := S.go hb; clear F hb; have F := S.fc) | ((with_reducible refine gate_callee (f := 71) rfl (L ?_)); refine cl (some 13) Try.func71 (spec_syCount.calls _ _ _ _ _ _ _ _ _ _ _ _ _ _ _ _ S.c S.n S.c S.n S.c S.n A4) (hargs := by (simp only [ma_, mb_, mc_, F] <;> rfl)) (h := ?_); rintro e W ⟨v297, rfl, ho0, hb⟩; refine ⟨_, rfl, ?_⟩; replace S := S.got (atI .i64) hb ho0; obtain ⟨At296, ct296, rfl, S⟩ := S; clear F hb ho0; have F := S.fc) | ((with_reducible refine gs (t := 50) rfl (L ?_)); (first | refine sb (.agg #[_, _, _]) S sz50 ?_ | refine ro (.agg #[_, _, _]) S sz50 ?_ (ho := rfl) (hx := rfl) (hy := rfl)); (clear S F; intro W S; have F := S.fc)))
     refine bodyPost_ret (results_ct rfl _ _ gb294 50 #[.int .i64 0, .int .i64 0, .slice none 0 0] (0, 0) _ rfl S.hb Try.underlying50 rfl (by kernel_rfl)) rfl ?_
     exact ⟨_, (by first | rfl | (simp [e0_, e1_] <;> rfl) | (simp [*, e0_, e1_] <;> rfl)), (by first | exact S.r | exact Kd.R_nil _ _ _ _ _), S.below⟩
   · skip
     replace H := Option.bind_eq_some_iff.mp H; obtain ⟨⟨t301, t302, t303⟩, A14, H⟩ := H; (try dsimp only at H)
     simp only [Option.some.injEq, Prod.mk.injEq] at H
     obtain ⟨rfl, rfl, rfl, rfl⟩ := H
     go_enter Try.func51, Try.ntmps51
     go_wp2_with (first | ((with_reducible refine gd 1 rfl (L ?_)); refine bo 1 (.agg #[_, _, _, _, _]) S ?_; clear S F; intro gb293 W S; have F := S.fc) | ((with_reducible refine gd 2 rfl (L ?_)); refine al 2 S zi50 ?_; clear S F; intro gb294 W S; have F := S.fc) | ((with_reducible refine gate_callee (f := 67) rfl (L ?_)); refine cl (some 8) Try.func67 (spec_syGood.calls _ _ _ _ _ _ _ _ _ _ _ _ _ _ S.c S.n S.c S.n S.c S.n A2) (hargs := by (simp only [ma_, mb_, mc_, F] <;> rfl)) (h := ?_); rintro e W ⟨rfl, hb⟩; refine ⟨_, rfl, ?_⟩; replace S := S.go hb; clear F hb; have F := S.fc) | ((with_reducible refine gate_callee (f := 71) rfl (L ?_)); refine cl (some 13) Try.func71 (spec_syCount.calls _ _ _ _ _ _ _ _ _ _ _ _ _ _ _ _ S.c S.n S.c S.n S.c S.n A4) (hargs := by (simp only [ma_, mb_, mc_, F] <;> rfl)) (h := ?_); rintro e W ⟨v297, rfl, ho0, hb⟩; refine ⟨_, rfl, ?_⟩; replace S := S.got (atI .i64) hb ho0; obtain ⟨At296, ct296, rfl, S⟩ := S; clear F hb ho0; have F := S.fc) | ((with_reducible refine gate_callee (f := 84) rfl (L ?_)); refine cl (some 22) Try.func84 (spec_syBoard.calls _ _ _ _ _ _ _ _ _ _ _ _ _ _ _ _ _ S.c S.n S.c S.n S.c S.n A14) (hargs := by (simp only [ma_, mb_, mc_, F] <;> rfl)) (h := ?_); rintro e W ⟨v304, rfl, ho0, hb⟩; refine ⟨_, rfl, ?_⟩; replace S := S.got at88 hb ho0; obtain ⟨At303, ct303, rfl, S⟩ := S; clear F hb ho0; have F := S.fc) | ((with_reducible refine gs (t := 50) rfl (L ?_)); (first | refine sb (.agg #[_, _, _]) S sz50 ?_ | refine ro (.agg #[_, _, _]) S sz50 ?_ (ho := rfl) (hx := rfl) (hy := rfl)); (clear S F; intro W S; have F := S.fc)))
     refine bodyPost_ret (results_ct rfl _ _ gb294 50 #[.int .i64 t301, .int .i64 t302, .slice At303 t303.length ct303] (0, 0) _ rfl S.hb Try.underlying50 rfl (by kernel_rfl)) rfl ?_
     exact ⟨_, (by first | rfl | (simp [e0_, e1_] <;> rfl) | (simp [*, e0_, e1_] <;> rfl)), (by first | exact S.r | exact Kd.R_nil _ _ _ _ _), S.below⟩
 · skip
   replace c3 := cbf c3; subst c3
   simp only [Option.some.injEq, Prod.mk.injEq] at H
   obtain ⟨rfl, rfl, rfl, rfl⟩ := H
   go_enter Try.func51, Try.ntmps51
   go_wp2_with (first | ((with_reducible refine gd 1 rfl (L ?_)); refine bo 1 (.agg #[_, _, _, _, _]) S ?_; clear S F; intro gb293 W S; have F := S.fc) | ((with_reducible refine gd 2 rfl (L ?_)); refine al 2 S zi50 ?_; clear S F; intro gb294 W S; have F := S.fc) | ((with_reducible refine gate_callee (f := 67) rfl (L ?_)); refine cl (some 8) Try.func67 (spec_syGood.calls _ _ _ _ _ _ _ _ _ _ _ _ _ _ S.c S.n S.c S.n S.c S.n A2) (hargs := by (simp only [ma_, mb_, mc_, F] <;> rfl)) (h := ?_); rintro e W ⟨rfl, hb⟩; refine ⟨_, rfl, ?_⟩; replace S := S.go hb; clear F hb; have F := S.fc) | ((with_reducible refine gs (t := 50) rfl (L ?_)); (first | refine sb (.agg #[_, _, _]) S sz50 ?_ | refine ro (.agg #[_, _, _]) S sz50 ?_ (ho := rfl) (hx := rfl) (hy := rfl)); (clear S F; intro W S; have F := S.fc)))
   refine bodyPost_ret (results_ct rfl _ _ gb294 50 #[.int .i64 0, .int .i64 0, .slice none 0 0] (0, 0) _ rfl S.hb Try.underlying50 rfl (by kernel_rfl)) rfl ?_
   exact ⟨_, (by first | rfl | (simp [e0_, e1_] <;> rfl) | (simp [*, e0_, e1_] <;> rfl)), (by first | exact S.r | exact Kd.R_nil _ _ _ _ _), S.below⟩
end Go.Proofs.Ytipaimgpmgbkiaa.F
