-- Printed by a program; checked here.
import Derived.Test.YtipaimgpmgbkiaaF0
import Derived.Test.YtipaimgpmgbkiaaF6
namespace Go.Proofs.Ytipaimgpmgbkiaa.F
open Go.RowKit Go.Proofs.YtipaimgpmgbkiaaV.PrintWords Go.Proofs.YtipaimgpmgbkiaaV.PrintLast Go.Proofs.YtipaimgpmgbkiaaV.PrintMore Go.Proofs.YtipaimgpmgbkiaaV.Sl Go.Proofs.YtipaimgpmgbkiaaV.Rf
attribute [local go_sem] max2_int min2_int max_two min_two max_three min_three max_four min_four ia_opt it_opt
attribute [local go_sem] Try.underlying23 Try.underlying25 Try.underlying29 Try.underlying31 Try.underlying42 Try.underlying50 Try.underlying85 Try.underlying88 Try.underlying89 Try.underlying106 Try.underlying122 Try.underlying127
set_option maxHeartbeats 8000000
set_option maxRecDepth 100000
set_option linter.unusedVariables false
set_option linter.unusedSimpArgs false

/-! ### laws_eqCellS: function 66 -/
def laws_eqCellS.l0 : Nat → List (S88) → List (S88) → Int → Option (Bool)
  | 0, _, _, _ => none
  | k + 1, x0, x1, x5 => if x5 < (x0.length : Int) then (if 0 ≤ x5 then (if x5 < (x1.length : Int) then ((laws_eqCell.f ((rd_T88 x0 x5).f0) ((rd_T88 x0 x5).f1) ((rd_T88 x1 x5).f0) ((rd_T88 x1 x5).f1)).bind fun t502 => (if t502 = true then (laws_eqCellS.l0 k x0 x1 (wrap64 (x5 + 1))) else (some false))) else (none)) else (none)) else (some true)
def laws_eqCellS.f (k : Nat) (l0 : List (S88)) (l1 : List (S88)) : Option (Bool) := if (l0.length : Int) = (l1.length : Int) then (laws_eqCellS.l0 k l0 l1 0) else (some false)
theorem laws_eqCellS.calls (k : Nat) (A0 : Option Addr) (c0 : Nat) (l0 : List (S88)) (A1 : Option Addr) (c1 : Nat) (l1 : List (S88)) (r : Bool) (w : World) (hr0 : Kd.C k88 w A0 l0.length l0) (hc0 : l0.length ≤ c0) (hr1 : Kd.C k88 w A1 l1.length l1) (hc1 : l1.length ≤ c1) (h : laws_eqCellS.f k l0 l1 = some r) :
    Calls Try.prog 66 #[.slice A0 l0.length c0, .slice A1 l1.length c1] w fun e w' => e = .returned (.bool r) ∧ Below w.heap.size w w' := by
 have S := St.init (w := w) (dc k88_heap at88 hr0 hc0 (dc k88_heap at88 hr1 hc1 dn))
 clear hr0 hc0 hr1 hc1
 have F := S.fc
 have H := h; clear h; unfold laws_eqCellS.f at H
 replace H := sp_ H; rcases H with ⟨c3, H⟩ | ⟨c3, H⟩
 · skip
   replace c3 := ceq c3
   go_enter Try.func66, Try.ntmps66
   go_wp2
   go_loopg [5] k (fun kq v5 w' => ∃ (x5_1 : Int), v5 = .int .i64 x5_1 ∧ laws_eqCellS.l0 kq l0 l1 x5_1 = some r ∧ kq ≤ k ∧ St w w (fun _ => False) [bor at88 A0 c0 l0, bor at88 A1 c1 l1] w'  [])
   case atStart => exact ⟨0, (by first | rfl | (simp; done) | (simp [*]; done) | (rw [w6_ (by omega) (by omega)])), H, Nat.le_refl _, S⟩
   case round =>
    clear H S F
    obtain ⟨x5_1, rfl, HA, HK1, S⟩ := hrel
    have F := S.fc
    cases gk with
    | zero => exact absurd HA (by simp [laws_eqCellS.l0])
    | succ k1 =>
     have H := HA; clear HA; simp only [laws_eqCellS.l0, F] at H
     replace H := sp_ H; rcases H with ⟨c4, H⟩ | ⟨c4, H⟩
     · skip
       replace H := np_ H; obtain ⟨c5, H⟩ := H
       replace H := np_ H; obtain ⟨c6, H⟩ := H
       replace H := Option.bind_eq_some_iff.mp H; obtain ⟨t502, A7, H⟩ := H; (try dsimp only at H)
       replace H := sp_ H; rcases H with ⟨c8, H⟩ | ⟨c8, H⟩
       · skip
         subst c8
         try go_wp2
         refine rq S [(0, 0), (0, 1), (0, 2), (0, 4), (0, 5), (0, 6), (1, 3), (1, 7), (2, 8), (0, 9)] [] (h := ?_); clear S F; intro W S; have S0 := S; have F := S.fc
         repeat (first | (refine q0 (h := ?_)) | (refine q1 S0 (h := ?_)) | (refine q0n (h := ?_)) | (refine q1n S0 (h := ?_)))
         refine lk2 (by rfl) (by exact (Eq.refl true)) ?_; refine cl (some 25) Try.func100 (laws_eqCell.calls _ _ _ _ _ _ A7) (hargs := by (simp only [ma_, mb_, mc_, F] <;> rfl)) (h := ?_); rintro e W ⟨rfl, hb⟩; refine ⟨_, rfl, ?_⟩; replace S := S.go hb; clear F hb; have F := S.fc
         clear S0; have S0 := S; refine ⟨S0, ?_⟩
         repeat (first | (refine q0 (h := ?_)) | (refine q1 S0 (h := ?_)) | (refine q0n (h := ?_)) | (refine q1n S0 (h := ?_)))
         refine oz ?_
         try clear S0
         try go_wp2
         go_roundg k1
         case measure => omega
         case rel => exact ⟨(wrap64 (x5_1 + 1)), (by first | rfl | (simp; done) | (simp [*]; done) | (rw [w6_ (by omega) (by omega)])), H, (by first | omega | exact Nat.le_refl _), S⟩
       · skip
         replace c8 := cbf c8; subst c8
         obtain rfl := Option.some.inj H
         try go_wp2
         refine rq S [(0, 0), (0, 1), (0, 2), (0, 4), (0, 5), (0, 6), (1, 3), (1, 7), (2, 8), (0, 9)] [] (h := ?_); clear S F; intro W S; have S0 := S; have F := S.fc
         repeat (first | (refine q0 (h := ?_)) | (refine q1 S0 (h := ?_)) | (refine q0n (h := ?_)) | (refine q1n S0 (h := ?_)))
         refine lk2 (by rfl) (by exact (Eq.refl true)) ?_; refine cl (some 25) Try.func100 (laws_eqCell.calls _ _ _ _ _ _ A7) (hargs := by (simp only [ma_, mb_, mc_, F] <;> rfl)) (h := ?_); rintro e W ⟨rfl, hb⟩; refine ⟨_, rfl, ?_⟩; replace S := S.go hb; clear F hb; have F := S.fc
         clear S0; have S0 := S; refine ⟨S0, ?_⟩
         repeat (first | (refine q0 (h := ?_)) | (refine q1 S0 (h := ?_)) | (refine q0n (h := ?_)) | (refine q1n S0 (h := ?_)))
         refine oz ?_
         try clear S0
         try go_wp2
         go_ret
         exact ⟨(by first | rfl | (simp [e0_, e1_] <;> rfl) | (simp [*, e0_, e1_] <;> rfl)), S.below⟩
     · skip
       obtain rfl := Option.some.inj H
       go_wp2
       go_ret
       exact ⟨(by first | rfl | (simp [e0_, e1_] <;> rfl) | (simp [*, e0_, e1_] <;> rfl)), S.below⟩
 · skip
   replace c3 := cne c3
   obtain rfl := Option.some.inj H
   go_enter Try.func66, Try.ntmps66
   go_wp2
   go_ret
   exact ⟨(by first | rfl | (simp [e0_, e1_] <;> rfl) | (simp [*, e0_, e1_] <;> rfl)), S.below⟩

/-! ### laws_eqChallenge: function 18 -/
def laws_eqChallenge.f (k : Nat) (a0_0 : Int) (a0_1 : Int) (l0_2 : List (S88)) (l0_3 : List Int) (l0_4 : List Int) (a1_0 : Int) (a1_1 : Int) (l1_2 : List (S88)) (l1_3 : List Int) (l1_4 : List Int) : Option (Bool) := if a0_0 = a1_0 then (if a0_1 = a1_1 then ((laws_eqCellS.f k l0_2 l1_2).bind fun t505 => (if t505 = true then ((laws_eqIntS.f k l0_3 l1_3).bind fun t506 => (if t506 = true then ((laws_eqIntS.f k l0_4 l1_4).bind fun t507 => (if t507 = true then (some true) else (some false))) else (some false))) else (some false))) else (some false)) else (some false)
theorem laws_eqChallenge.calls (k : Nat) (a0_0 : Int) (a0_1 : Int) (A0_2 : Option Addr) (c0_2 : Nat) (l0_2 : List (S88)) (A0_3 : Option Addr) (c0_3 : Nat) (l0_3 : List Int) (A0_4 : Option Addr) (c0_4 : Nat) (l0_4 : List Int) (a1_0 : Int) (a1_1 : Int) (A1_2 : Option Addr) (c1_2 : Nat) (l1_2 : List (S88)) (A1_3 : Option Addr) (c1_3 : Nat) (l1_3 : List Int) (A1_4 : Option Addr) (c1_4 : Nat) (l1_4 : List Int) (r : Bool) (w : World) (hr0_2 : Kd.C k88 w A0_2 l0_2.length l0_2) (hc0_2 : l0_2.length ≤ c0_2) (hr0_3 : Kd.C (Kd.int .i64) w A0_3 l0_3.length l0_3) (hc0_3 : l0_3.length ≤ c0_3) (hr0_4 : Kd.C (Kd.int .i64) w A0_4 l0_4.length l0_4) (hc0_4 : l0_4.length ≤ c0_4) (hr1_2 : Kd.C k88 w A1_2 l1_2.length l1_2) (hc1_2 : l1_2.length ≤ c1_2) (hr1_3 : Kd.C (Kd.int .i64) w A1_3 l1_3.length l1_3) (hc1_3 : l1_3.length ≤ c1_3) (hr1_4 : Kd.C (Kd.int .i64) w A1_4 l1_4.length l1_4) (hc1_4 : l1_4.length ≤ c1_4) (h : laws_eqChallenge.f k a0_0 a0_1 l0_2 l0_3 l0_4 a1_0 a1_1 l1_2 l1_3 l1_4 = some r) :
    Calls Try.prog 18 #[.agg #[.int .i64 a0_0, .int .i64 a0_1, .slice A0_2 l0_2.length c0_2, .slice A0_3 l0_3.length c0_3, .slice A0_4 l0_4.length c0_4], .agg #[.int .i64 a1_0, .int .i64 a1_1, .slice A1_2 l1_2.length c1_2, .slice A1_3 l1_3.length c1_3, .slice A1_4 l1_4.length c1_4]] w fun e w' => e = .returned (.bool r) ∧ Below w.heap.size w w' := by
 have S := St.init (w := w) (dc k88_heap at88 hr0_2 hc0_2 (dc (Kd.heap_int .i64) (atI .i64) hr0_3 hc0_3 (dc (Kd.heap_int .i64) (atI .i64) hr0_4 hc0_4 (dc k88_heap at88 hr1_2 hc1_2 (dc (Kd.heap_int .i64) (atI .i64) hr1_3 hc1_3 (dc (Kd.heap_int .i64) (atI .i64) hr1_4 hc1_4 dn))))))
 clear hr0_2 hc0_2 hr0_3 hc0_3 hr0_4 hc0_4 hr1_2 hc1_2 hr1_3 hc1_3 hr1_4 hc1_4
 have F := S.fc
 have H := h; clear h; unfold laws_eqChallenge.f at H
 replace H := sp_ H; rcases H with ⟨c3, H⟩ | ⟨c3, H⟩
 · skip
   replace c3 := ceq c3
   replace H := sp_ H; rcases H with ⟨c4, H⟩ | ⟨c4, H⟩
   · skip
     replace c4 := ceq c4
     replace H := Option.bind_eq_some_iff.mp H; obtain ⟨t505, A5, H⟩ := H; (try dsimp only at H)
     replace H := sp_ H; rcases H with ⟨c6, H⟩ | ⟨c6, H⟩
     · skip
       subst c6
       replace H := Option.bind_eq_some_iff.mp H; obtain ⟨t506, A7, H⟩ := H; (try dsimp only at H)
       replace H := sp_ H; rcases H with ⟨c8, H⟩ | ⟨c8, H⟩
       · skip
         subst c8
         replace H := Option.bind_eq_some_iff.mp H; obtain ⟨t507, A9, H⟩ := H; (try dsimp only at H)
         replace H := sp_ H; rcases H with ⟨c10, H⟩ | ⟨c10, H⟩
         · skip
           subst c10
           obtain rfl := Option.some.inj H
           go_enter Try.func18, Try.ntmps18
           go_wp2_with (first | ((with_reducible refine gd 2 rfl (L ?_)); refine bo 2 (.agg #[_, _, _, _, _]) S ?_; clear S F; intro gb503 W S; have F := S.fc) | ((with_reducible refine gd 3 rfl (L ?_)); refine bo 3 (.agg #[_, _, _, _, _]) S ?_; clear S F; intro gb504 W S; have F := S.fc) | ((with_reducible refine gate_callee (f := 66) rfl (L ?_)); refine cl (some 19) Try.func66 (laws_eqCellS.calls _ _ _ _ _ _ _ _ _ S.c S.n S.c S.n A5) (hargs := by (simp only [ma_, mb_, mc_, F] <;> rfl)) (h := ?_); rintro e W ⟨rfl, hb⟩; refine ⟨_, rfl, ?_⟩; replace S := S.go hb; clear F hb; have F := S.fc) | ((with_reducible refine gate_callee (f := 21) rfl (L ?_)); refine cl (some 25) Try.func21 (laws_eqIntS.calls _ _ _ _ _ _ _ _ _ S.c S.n S.c S.n A7) (hargs := by (simp only [ma_, mb_, mc_, F] <;> rfl)) (h := ?_); rintro e W ⟨rfl, hb⟩; refine ⟨_, rfl, ?_⟩; replace S := S.gw hb; clear F hb; have F := S.fc) | ((with_reducible refine gate_callee (f := 21) rfl (L ?_)); refine cl (some 31) Try.func21 (laws_eqIntS.calls _ _ _ _ _ _ _ _ _ S.c S.n S.c S.n A9) (hargs := by (simp only [ma_, mb_, mc_, F] <;> rfl)) (h := ?_); rintro e W ⟨rfl, hb⟩; refine ⟨_, rfl, ?_⟩; replace S := S.gw hb; clear F hb; have F := S.fc))
           go_ret
           exact ⟨(by first | rfl | (simp [e0_, e1_] <;> rfl) | (simp [*, e0_, e1_] <;> rfl)), S.below⟩
         · skip
           replace c10 := cbf c10; subst c10
           obtain rfl := Option.some.inj H
           go_enter Try.func18, Try.ntmps18
           go_wp2_with (first | ((with_reducible refine gd 2 rfl (L ?_)); refine bo 2 (.agg #[_, _, _, _, _]) S ?_; clear S F; intro gb503 W S; have F := S.fc) | ((with_reducible refine gd 3 rfl (L ?_)); refine bo 3 (.agg #[_, _, _, _, _]) S ?_; clear S F; intro gb504 W S; have F := S.fc) | ((with_reducible refine gate_callee (f := 66) rfl (L ?_)); refine cl (some 19) Try.func66 (laws_eqCellS.calls _ _ _ _ _ _ _ _ _ S.c S.n S.c S.n A5) (hargs := by (simp only [ma_, mb_, mc_, F] <;> rfl)) (h := ?_); rintro e W ⟨rfl, hb⟩; refine ⟨_, rfl, ?_⟩; replace S := S.go hb; clear F hb; have F := S.fc) | ((with_reducible refine gate_callee (f := 21) rfl (L ?_)); refine cl (some 25) Try.func21 (laws_eqIntS.calls _ _ _ _ _ _ _ _ _ S.c S.n S.c S.n A7) (hargs := by (simp only [ma_, mb_, mc_, F] <;> rfl)) (h := ?_); rintro e W ⟨rfl, hb⟩; refine ⟨_, rfl, ?_⟩; replace S := S.gw hb; clear F hb; have F := S.fc) | ((with_reducible refine gate_callee (f := 21) rfl (L ?_)); refine cl (some 31) Try.func21 (laws_eqIntS.calls _ _ _ _ _ _ _ _ _ S.c S.n S.c S.n A9) (hargs := by (simp only [ma_, mb_, mc_, F] <;> rfl)) (h := ?_); rintro e W ⟨rfl, hb⟩; refine ⟨_, rfl, ?_⟩; replace S := S.gw hb; clear F hb; have F := S.fc))
           go_ret
           exact ⟨(by first | rfl | (simp [e0_, e1_] <;> rfl) | (simp [*, e0_, e1_] <;> rfl)), S.below⟩
       · skip
         replace c8 := cbf c8; subst c8
         obtain rfl := Option.some.inj H
         go_enter Try.func18, Try.ntmps18
         go_wp2_with (first | ((with_reducible refine gd 2 rfl (L ?_)); refine bo 2 (.agg #[_, _, _, _, _]) S ?_; clear S F; intro gb503 W S; have F := S.fc) | ((with_reducible refine gd 3 rfl (L ?_)); refine bo 3 (.agg #[_, _, _, _, _]) S ?_; clear S F; intro gb504 W S; have F := S.fc) | ((with_reducible refine gate_callee (f := 66) rfl (L ?_)); refine cl (some 19) Try.func66 (laws_eqCellS.calls _ _ _ _ _ _ _ _ _ S.c S.n S.c S.n A5) (hargs := by (simp only [ma_, mb_, mc_, F] <;> rfl)) (h := ?_); rintro e W ⟨rfl, hb⟩; refine ⟨_, rfl, ?_⟩; replace S := S.go hb; clear F hb; have F := S.fc) | ((with_reducible refine gate_callee (f := 21) rfl (L ?_)); refine cl (some 25) Try.func21 (laws_eqIntS.calls _ _ _ _ _ _ _ _ _ S.c S.n S.c S.n A7) (hargs := by (simp only [ma_, mb_, mc_, F] <;> rfl)) (h := ?_); rintro e W ⟨rfl, hb⟩; refine ⟨_, rfl, ?_⟩; replace S := S.gw hb; clear F hb; have F := S.fc))
         go_ret
         exact ⟨(by first | rfl | (simp [e0_, e1_] <;> rfl) | (simp [*, e0_, e1_] <;> rfl)), S.below⟩
     · skip
       replace c6 := cbf c6; subst c6
       obtain rfl := Option.some.inj H
       go_enter Try.func18, Try.ntmps18
       go_wp2_with (first | ((with_reducible refine gd 2 rfl (L ?_)); refine bo 2 (.agg #[_, _, _, _, _]) S ?_; clear S F; intro gb503 W S; have F := S.fc) | ((with_reducible refine gd 3 rfl (L ?_)); refine bo 3 (.agg #[_, _, _, _, _]) S ?_; clear S F; intro gb504 W S; have F := S.fc) | ((with_reducible refine gate_callee (f := 66) rfl (L ?_)); refine cl (some 19) Try.func66 (laws_eqCellS.calls _ _ _ _ _ _ _ _ _ S.c S.n S.c S.n A5) (hargs := by (simp only [ma_, mb_, mc_, F] <;> rfl)) (h := ?_); rintro e W ⟨rfl, hb⟩; refine ⟨_, rfl, ?_⟩; replace S := S.go hb; clear F hb; have F := S.fc))
       go_ret
       exact ⟨(by first | rfl | (simp [e0_, e1_] <;> rfl) | (simp [*, e0_, e1_] <;> rfl)), S.below⟩
   · skip
     replace c4 := cne c4
     obtain rfl := Option.some.inj H
     go_enter Try.func18, Try.ntmps18
     go_wp2_with (first | ((with_reducible refine gd 2 rfl (L ?_)); refine bo 2 (.agg #[_, _, _, _, _]) S ?_; clear S F; intro gb503 W S; have F := S.fc) | ((with_reducible refine gd 3 rfl (L ?_)); refine bo 3 (.agg #[_, _, _, _, _]) S ?_; clear S F; intro gb504 W S; have F := S.fc))
     go_ret
     exact ⟨(by first | rfl | (simp [e0_, e1_] <;> rfl) | (simp [*, e0_, e1_] <;> rfl)), S.below⟩
 · skip
   replace c3 := cne c3
   obtain rfl := Option.some.inj H
   go_enter Try.func18, Try.ntmps18
   go_wp2_with (first | ((with_reducible refine gd 2 rfl (L ?_)); refine bo 2 (.agg #[_, _, _, _, _]) S ?_; clear S F; intro gb503 W S; have F := S.fc) | ((with_reducible refine gd 3 rfl (L ?_)); refine bo 3 (.agg #[_, _, _, _, _]) S ?_; clear S F; intro gb504 W S; have F := S.fc))
   go_ret
   exact ⟨(by first | rfl | (simp [e0_, e1_] <;> rfl) | (simp [*, e0_, e1_] <;> rfl)), S.below⟩
end Go.Proofs.Ytipaimgpmgbkiaa.F
