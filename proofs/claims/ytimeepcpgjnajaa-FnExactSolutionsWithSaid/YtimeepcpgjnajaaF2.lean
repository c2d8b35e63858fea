-- Printed by a program; checked here.
import Derived.Test.YtimeepcpgjnajaaF0
import Derived.Test.YtimeepcpgjnajaaF1
namespace Go.Proofs.Ytimeepcpgjnajaa.F
open Go.RowKit Go.Proofs.YtimeepcpgjnajaaV.PrintWords Go.Proofs.YtimeepcpgjnajaaV.PrintLast Go.Proofs.YtimeepcpgjnajaaV.PrintMore Go.Proofs.YtimeepcpgjnajaaV.Sl Go.Proofs.YtimeepcpgjnajaaV.Rf
attribute [local go_sem] max2_int min2_int max_two min_two max_three min_three max_four min_four ia_opt it_opt
attribute [local go_sem] Try.underlying23 Try.underlying25 Try.underlying27 Try.underlying35 Try.underlying62 Try.underlying66 Try.underlying80 Try.underlying114 Try.underlying121 Try.underlying137
set_option maxHeartbeats 8000000
set_option maxRecDepth 100000
set_option linter.unusedVariables false
set_option linter.unusedSimpArgs false

attribute [local go_sem high] eqA27
/-! ### laws_szCellS: function 99 -/
def laws_szCellS.f (l0 : List (S80)) (a1 : Int) : Option (Int) := if (wrap64 (a1 - (l0.length : Int))) < 0 then (some (-1)) else (some (wrap64 (a1 - (l0.length : Int))))
theorem laws_szCellS.calls (A0 : Option Addr) (c0 : Nat) (l0 : List (S80)) (a1 : Int) (r : Int) (w : World) (hr0 : Kd.C k80 w A0 l0.length l0) (hc0 : l0.length ≤ c0) (h : laws_szCellS.f l0 a1 = some r) :
  Calls Try.prog 99 #[.slice A0 l0.length c0, .int .i64 a1] w fun e w' => e = .returned (.int .i64 r) ∧ Drawn0 w w' := by
 have HR0 := Aside0.mk hr0;have HC0 := Aside0.mk hc0;clear hr0 hc0;have H : (if (wrap64 (a1 - (l0.length : Int))) < 0 then (some (-1)) else (some (wrap64 (a1 - (l0.length : Int))))) = some r := h;clear h;by_cases c3 : (wrap64 (a1 - (l0.length : Int))) < 0
 ·rw [if_pos c3] at H;have c3b0 : decide ((wrap64 (a1 - (l0.length : Int))) < 0) = true := decide_eq_true c3;clear c3;obtain rfl := Option.some.inj H;go_enter Try.func99, Try.ntmps99;go_wp2;go_ret;exact ⟨by first | rfl | (simp; done) | (simp [*]; done), by repeat (first | exact Drawn0.refl _ | apply Drawn0.step)⟩
 ·rw [if_neg c3] at H;have c3b0 : decide ((wrap64 (a1 - (l0.length : Int))) < 0) = false := decide_eq_false c3;clear c3;obtain rfl := Option.some.inj H;go_enter Try.func99, Try.ntmps99;go_wp2;go_ret;exact ⟨by first | rfl | (simp; done) | (simp [*]; done), by repeat (first | exact Drawn0.refl _ | apply Drawn0.step)⟩

/-! ### laws_szIntS: function 114 -/
def laws_szIntS.f (l0 : List Int) (a1 : Int) : Option (Int) := if (wrap64 (a1 - (l0.length : Int))) < 0 then (some (-1)) else (some (wrap64 (a1 - (l0.length : Int))))
theorem laws_szIntS.calls (A0 : Option Addr) (c0 : Nat) (l0 : List Int) (a1 : Int) (r : Int) (w : World) (hr0 : Kd.C (Kd.int .i64) w A0 l0.length l0) (hc0 : l0.length ≤ c0) (h : laws_szIntS.f l0 a1 = some r) :
  Calls Try.prog 114 #[.slice A0 l0.length c0, .int .i64 a1] w fun e w' => e = .returned (.int .i64 r) ∧ Drawn0 w w' := by
 have HR0 := Aside0.mk hr0;have HC0 := Aside0.mk hc0;clear hr0 hc0;have H : (if (wrap64 (a1 - (l0.length : Int))) < 0 then (some (-1)) else (some (wrap64 (a1 - (l0.length : Int))))) = some r := h;clear h;by_cases c3 : (wrap64 (a1 - (l0.length : Int))) < 0
 ·rw [if_pos c3] at H;have c3b0 : decide ((wrap64 (a1 - (l0.length : Int))) < 0) = true := decide_eq_true c3;clear c3;obtain rfl := Option.some.inj H;go_enter Try.func114, Try.ntmps114;go_wp2;go_ret;exact ⟨by first | rfl | (simp; done) | (simp [*]; done), by repeat (first | exact Drawn0.refl _ | apply Drawn0.step)⟩
 ·rw [if_neg c3] at H;have c3b0 : decide ((wrap64 (a1 - (l0.length : Int))) < 0) = false := decide_eq_false c3;clear c3;obtain rfl := Option.some.inj H;go_enter Try.func114, Try.ntmps114;go_wp2;go_ret;exact ⟨by first | rfl | (simp; done) | (simp [*]; done), by repeat (first | exact Drawn0.refl _ | apply Drawn0.step)⟩

/-! ### laws_szChallenge: function 50 -/
def laws_szChallenge.f (a0_0 : Int) (a0_1 : Int) (l0_2 : List (S80)) (l0_3 : List Int) (l0_4 : List Int) (a1 : Int) : Option (Int) := (laws_szCellS.f l0_2 a1).bind fun t102 => (if t102 < 0 then (some (-1)) else ((laws_szIntS.f l0_3 t102).bind fun t103 => (if t103 < 0 then (some (-1)) else ((laws_szIntS.f l0_4 t103).bind fun t104 => (if t104 < 0 then (some (-1)) else (some t104))))))
theorem laws_szChallenge.calls (a0_0 : Int) (a0_1 : Int) (A0_2 : Option Addr) (c0_2 : Nat) (l0_2 : List (S80)) (A0_3 : Option Addr) (c0_3 : Nat) (l0_3 : List Int) (A0_4 : Option Addr) (c0_4 : Nat) (l0_4 : List Int) (a1 : Int) (r : Int) (w : World) (hr0_2 : Kd.C k80 w A0_2 l0_2.length l0_2) (hc0_2 : l0_2.length ≤ c0_2) (hr0_3 : Kd.C (Kd.int .i64) w A0_3 l0_3.length l0_3) (hc0_3 : l0_3.length ≤ c0_3) (hr0_4 : Kd.C (Kd.int .i64) w A0_4 l0_4.length l0_4) (hc0_4 : l0_4.length ≤ c0_4) (h : laws_szChallenge.f a0_0 a0_1 l0_2 l0_3 l0_4 a1 = some r) :
    Calls Try.prog 50 #[.agg #[.int .i64 a0_0, .int .i64 a0_1, .slice A0_2 l0_2.length c0_2, .slice A0_3 l0_3.length c0_3, .slice A0_4 l0_4.length c0_4], .int .i64 a1] w fun e w' => e = .returned (.int .i64 r) ∧ Below w.heap.size w w' := by
 have S := St.init (w := w) (dc k80_heap at80 hr0_2 hc0_2 (dc (Kd.heap_int .i64) (atI .i64) hr0_3 hc0_3 (dc (Kd.heap_int .i64) (atI .i64) hr0_4 hc0_4 dn)))
 clear hr0_2 hc0_2 hr0_3 hc0_3 hr0_4 hc0_4
 have F := S.fc
 have H := h; clear h; unfold laws_szChallenge.f at H
 replace H := Option.bind_eq_some_iff.mp H; obtain ⟨t102, A3, H⟩ := H; (try dsimp only at H)
 replace H := sp_ H; rcases H with ⟨c4, H⟩ | ⟨c4, H⟩
 · skip
   obtain rfl := Option.some.inj H
   go_enter Try.func50, Try.ntmps50
   go_wp2_with (first | ((with_reducible refine gd 2 rfl (L ?_)); refine bo 2 (.agg #[_, _, _, _, _]) S ?_; clear S F; intro gb101 W S; have F := S.fc) | ((with_reducible refine gate_callee (f := 99) rfl (L ?_)); refine cl (some 8) Try.func99 (laws_szCellS.calls _ _ _ _ _ _ S.c S.n A3) (hargs := by (simp only [ma_, mb_, mc_, F] <;> rfl)) (h := ?_); rintro e W ⟨rfl, hb⟩; refine ⟨_, rfl, ?_⟩; replace S := S.gw hb; clear F hb; have F := S.fc))
   go_ret
   exact ⟨(by first | rfl | (simp [e0_, e1_] <;> rfl) | (simp [*, e0_, e1_] <;> rfl)), S.below⟩
 · skip
   replace H := Option.bind_eq_some_iff.mp H; obtain ⟨t103, A7, H⟩ := H; (try dsimp only at H)
   replace H := sp_ H; rcases H with ⟨c8, H⟩ | ⟨c8, H⟩
   · skip
     obtain rfl := Option.some.inj H
     go_enter Try.func50, Try.ntmps50
     go_wp2_with (first | ((with_reducible refine gd 2 rfl (L ?_)); refine bo 2 (.agg #[_, _, _, _, _]) S ?_; clear S F; intro gb101 W S; have F := S.fc) | ((with_reducible refine gate_callee (f := 99) rfl (L ?_)); refine cl (some 8) Try.func99 (laws_szCellS.calls _ _ _ _ _ _ S.c S.n A3) (hargs := by (simp only [ma_, mb_, mc_, F] <;> rfl)) (h := ?_); rintro e W ⟨rfl, hb⟩; refine ⟨_, rfl, ?_⟩; replace S := S.gw hb; clear F hb; have F := S.fc) | ((with_reducible refine gate_callee (f := 114) rfl (L ?_)); refine cl (some 14) Try.func114 (laws_szIntS.calls _ _ _ _ _ _ S.c S.n A7) (hargs := by (simp only [ma_, mb_, mc_, F] <;> rfl)) (h := ?_); rintro e W ⟨rfl, hb⟩; refine ⟨_, rfl, ?_⟩; replace S := S.gw hb; clear F hb; have F := S.fc))
     go_ret
     exact ⟨(by first | rfl | (simp [e0_, e1_] <;> rfl) | (simp [*, e0_, e1_] <;> rfl)), S.below⟩
   · skip
     replace H := Option.bind_eq_some_iff.mp H; obtain ⟨t104, A11, H⟩ := H; (try dsimp only at H)
     replace H := sp_ H; rcases H with ⟨c12, H⟩ | ⟨c12, H⟩
     · skip
       obtain rfl := Option.some.inj H
       go_enter Try.func50, Try.ntmps50
       go_wp2_with (first | ((with_reducible refine gd 2 rfl (L ?_)); refine bo 2 (.agg #[_, _, _, _, _]) S ?_; clear S F; intro gb101 W S; have F := S.fc) | ((with_reducible refine gate_callee (f := 99) rfl (L ?_)); refine cl (some 8) Try.func99 (laws_szCellS.calls _ _ _ _ _ _ S.c S.n A3) (hargs := by (simp only [ma_, mb_, mc_, F] <;> rfl)) (h := ?_); rintro e W ⟨rfl, hb⟩; refine ⟨_, rfl, ?_⟩; replace S := S.gw hb; clear F hb; have F := S.fc) | ((with_reducible refine gate_callee (f := 114) rfl (L ?_)); refine cl (some 14) Try.func114 (laws_szIntS.calls _ _ _ _ _ _ S.c S.n A7) (hargs := by (simp only [ma_, mb_, mc_, F] <;> rfl)) (h := ?_); rintro e W ⟨rfl, hb⟩; refine ⟨_, rfl, ?_⟩; replace S := S.gw hb; clear F hb; have F := S.fc) | ((with_reducible refine gate_callee (f := 114) rfl (L ?_)); refine cl (some 20) Try.func114 (laws_szIntS.calls _ _ _ _ _ _ S.c S.n A11) (hargs := by (simp only [ma_, mb_, mc_, F] <;> rfl)) (h := ?_); rintro e W ⟨rfl, hb⟩; refine ⟨_, rfl, ?_⟩; replace S := S.gw hb; clear F hb; have F := S.fc))
       go_ret
       exact ⟨(by first | rfl | (simp [e0_, e1_] <;> rfl) | (simp [*, e0_, e1_] <;> rfl)), S.below⟩
     · skip
       obtain rfl := Option.some.inj H
       go_enter Try.func50, Try.ntmps50
       go_wp2_with (first | ((with_reducible refine gd 2 rfl (L ?_)); refine bo 2 (.agg #[_, _, _, _, _]) S ?_; clear S F; intro gb101 W S; have F := S.fc) | ((with_reducible refine gate_callee (f := 99) rfl (L ?_)); refine cl (some 8) Try.func99 (laws_szCellS.calls _ _ _ _ _ _ S.c S.n A3) (hargs := by (simp only [ma_, mb_, mc_, F] <;> rfl)) (h := ?_); rintro e W ⟨rfl, hb⟩; refine ⟨_, rfl, ?_⟩; replace S := S.gw hb; clear F hb; have F := S.fc) | ((with_reducible refine gate_callee (f := 114) rfl (L ?_)); refine cl (some 14) Try.func114 (laws_szIntS.calls _ _ _ _ _ _ S.c S.n A7) (hargs := by (simp only [ma_, mb_, mc_, F] <;> rfl)) (h := ?_); rintro e W ⟨rfl, hb⟩; refine ⟨_, rfl, ?_⟩; replace S := S.gw hb; clear F hb; have F := S.fc) | ((with_reducible refine gate_callee (f := 114) rfl (L ?_)); refine cl (some 20) Try.func114 (laws_szIntS.calls _ _ _ _ _ _ S.c S.n A11) (hargs := by (simp only [ma_, mb_, mc_, F] <;> rfl)) (h := ?_); rintro e W ⟨rfl, hb⟩; refine ⟨_, rfl, ?_⟩; replace S := S.gw hb; clear F hb; have F := S.fc))
       go_ret
       exact ⟨(by first | rfl | (simp [e0_, e1_] <;> rfl) | (simp [*, e0_, e1_] <;> rfl)), S.below⟩

/-! ### laws_toCell: function 66 -/
def laws_toCell.f (a0_0 : Int) (a0_1 : Int) : Option (Int × Int) := some (a0_0, a0_1)
theorem laws_toCell.calls (a0_0 : Int) (a0_1 : Int) (r1 : Int) (r2 : Int) (w : World) (h : laws_toCell.f a0_0 a0_1 = some (r1, r2)) :
    Calls Try.prog 66 #[.agg #[.int .i64 a0_0, .int .i64 a0_1]] w fun e w' => e = .returned (.agg #[.int .i64 r1, .int .i64 r2]) ∧ Below w.heap.size w w' := by
 have S := St.init (w := w) dn
 have F := S.fc
 have H := h; clear h; unfold laws_toCell.f at H
 simp only [Option.some.injEq, Prod.mk.injEq] at H
 obtain ⟨rfl, rfl⟩ := H
 go_enter Try.func66, Try.ntmps66
 go_wp2_with (first | ((with_reducible refine gd 1 rfl (L ?_)); refine bo 1 (.agg #[_, _]) S ?_; clear S F; intro gb105 W S; have F := S.fc) | ((with_reducible refine gd 2 rfl (L ?_)); refine al 2 S zi27 ?_; clear S F; intro gb106 W S; have F := S.fc) | ((with_reducible refine gd 3 rfl (L ?_)); refine al 3 S zi27 ?_; clear S F; intro gb107 W S; have F := S.fc) | ((with_reducible refine gs (t := 3) rfl (L ?_)); (first | refine sb (.int _ _) S sz3 ?_ | refine ro (.int _ _) S sz3 ?_ (ho := rfl) (hx := rfl) (hy := rfl)); (clear S F; intro W S; have F := S.fc)) | ((with_reducible refine gs (t := 27) rfl (L ?_)); (first | refine sb (.agg #[_, _]) S sz27 ?_ | refine ro (.agg #[_, _]) S sz27 ?_ (ho := rfl) (hx := rfl) (hy := rfl)); (clear S F; intro W S; have F := S.fc)))
 refine bodyPost_ret (results_cell_row rfl _ _ gb106 27 #[.int .i64 a0_0, .int .i64 a0_1] (0, 0) _ rfl S.hb Try.underlying27 rfl (by kernel_rfl)) rfl ?_
 exact ⟨(by first | rfl | (simp [e0_, e1_] <;> rfl) | (simp [*, e0_, e1_] <;> rfl)), S.below⟩

/-! ### laws_toCellS: function 103 -/
def laws_toCellS.l0 : Nat → List (S80) → List (S27) → Int → Option ((List (S27)))
  | 0, _, _, _ => none
  | k + 1, x0, x3, x4 => if x4 < (x0.length : Int) then (if 0 ≤ x4 then ((laws_toCell.f ((rd_T80 x0 x4).f0) ((rd_T80 x0 x4).f1)).bind fun bt112 => (if x4 < (x3.length : Int) then (laws_toCellS.l0 k x0 (x3.set (x4 : Int).toNat (⟨bt112.1, bt112.2⟩ : S27)) (wrap64 (x4 + 1))) else (none))) else (none)) else (some x3)
def laws_toCellS.f (k : Nat) (l0 : List (S80)) : Option ((List (S27))) := if 0 ≤ (l0.length : Int) then (if ((l0.length : Int) : Int).toNat ≤ 17592186044416 then (laws_toCellS.l0 k l0 (List.replicate ((l0.length : Int) : Int).toNat z27) 0) else (none)) else (none)
theorem laws_toCellS.calls (k : Nat) (A0 : Option Addr) (c0 : Nat) (l0 : List (S80)) (r : List (S27)) (w : World) (hr0 : Kd.C k80 w A0 l0.length l0) (hc0 : l0.length ≤ c0) (h : laws_toCellS.f k l0 = some r) :
    Calls Try.prog 103 #[.slice A0 l0.length c0] w fun e w' => ∃ v0_ : Value, e = .returned (v0_) ∧ Kd.R k27 27 w' w.heap.size (fun _ => True) v0_ r ∧ Below w.heap.size w w' := by
 have S := St.init (w := w) (dc k80_heap at80 hr0 hc0 dn)
 clear hr0 hc0
 have F := S.fc
 have H := h; clear h; unfold laws_toCellS.f at H
 replace H := np_ H; obtain ⟨c2, H⟩ := H
 replace H := np_ H; obtain ⟨c3, H⟩ := H
 (first | (with_reducible replace H := ob_ H; obtain ⟨y108, hy108, H⟩ := H; (try dsimp only at H)) | (obtain ⟨y108, hy108⟩ : ∃ y_ : List (S27), y_ = (List.replicate ((l0.length : Int) : Int).toNat z27) := ⟨_, rfl⟩; (try rw [← hy108] at H); (try simp only [Option.bind_some] at H))); have Ny108 := Aside0.mk hy108; clear hy108
 go_enter Try.func103, Try.ntmps103
 go_wp2_with (first | ((with_reducible refine gd 7 rfl (L ?_)); refine mka 7 at27 S Try.underlying23 info27 ?_; clear S F; intro Ay108 cy108 W S; (try simp only [Int.reduceToNat] at S); (try rw [← Ny108.out] at S ⊢); have F := S.fc) | ((with_reducible refine gs (t := 27) rfl (L ?_)); (first | refine sb (.agg #[_, _]) S sz27 ?_ | refine ro (.agg #[_, _]) S sz27 ?_ (ho := rfl) (hx := rfl) (hy := rfl)); clear S F; intro W S; (try simp only [gd27, gd80] at S); (try rw [← Ny108.out] at S); have F := S.fc))
 go_loopg [4] k (fun kq v4 w' => ∃ (x3_1 : List (S27)) (x4_1 : Int), v4 = .int .i64 x4_1 ∧ laws_toCellS.l0 kq l0 x3_1 x4_1 = some r ∧ kq ≤ k ∧ St w w (fun _ => False) [bor at80 A0 c0 l0] w'  [row at27 27 Ay108 y108.length cy108 x3_1])
 case atStart => exact ⟨y108, 0, (by first | rfl | (simp; done) | (simp [*]; done) | (rw [w6_ (by omega) (by omega)])), H, Nat.le_refl _, S⟩
 case round =>
  clear H S F
  obtain ⟨x3_1, x4_1, rfl, HA, HK1, S⟩ := hrel
  have F := S.fc
  cases gk with
  | zero => exact absurd HA (by simp [laws_toCellS.l0])
  | succ k1 =>
   have H := HA; clear HA; simp only [laws_toCellS.l0, F] at H
   replace H := sp_ H; rcases H with ⟨c6, H⟩ | ⟨c6, H⟩
   · skip
     replace H := np_ H; obtain ⟨c7, H⟩ := H
     replace H := Option.bind_eq_some_iff.mp H; obtain ⟨⟨t112, t113⟩, A8, H⟩ := H; (try dsimp only at H)
     replace H := np_ H; obtain ⟨c9, H⟩ := H
     (first | (with_reducible replace H := ob_ H; obtain ⟨y114, hy114, H⟩ := H; (try dsimp only at H)) | (obtain ⟨y114, hy114⟩ : ∃ y_ : List (S27), y_ = (x3_1.set (x4_1 : Int).toNat (⟨t112, t113⟩ : S27)) := ⟨_, rfl⟩; (try rw [← hy114] at H); (try simp only [Option.bind_some] at H))); have Ny114 := Aside0.mk hy114; clear hy114
     go_wp2_with (first | ((with_reducible refine gate_callee (f := 66) rfl (L ?_)); refine cl (some 20) Try.func66 (laws_toCell.calls _ _ _ _ _ A8) (hargs := by (simp only [ma_, mb_, mc_, F] <;> rfl)) (h := ?_); rintro e W ⟨rfl, hb⟩; refine ⟨_, rfl, ?_⟩; replace S := S.go hb; clear F hb; have F := S.fc) | ((with_reducible refine gs (t := 27) rfl (L ?_)); (first | refine sb (.agg #[_, _]) S sz27 ?_ | refine ro (.agg #[_, _]) S sz27 ?_ (ho := rfl) (hx := rfl) (hy := rfl)); clear S F; intro W S; (try simp only [gd27, gd80] at S); (try rw [← Ny108.out] at S); (try rw [← Ny114.out] at S); have F := S.fc))
     go_roundg k1
     case measure => omega
     case rel => exact ⟨y114, (wrap64 (x4_1 + 1)), (by first | rfl | (simp; done) | (simp [*]; done) | (rw [w6_ (by omega) (by omega)])), H, (by first | omega | exact Nat.le_refl _), S⟩
   · skip
     obtain rfl := Option.some.inj H
     go_wp2_with (first | ((with_reducible refine gs (t := 27) rfl (L ?_)); (first | refine sb (.agg #[_, _]) S sz27 ?_ | refine ro (.agg #[_, _]) S sz27 ?_ (ho := rfl) (hx := rfl) (hy := rfl)); clear S F; intro W S; (try simp only [gd27, gd80] at S); (try rw [← Ny108.out] at S); have F := S.fc))
     go_ret
     exact ⟨_, (by first | rfl | (simp [e0_, e1_] <;> rfl) | (simp [*, e0_, e1_] <;> rfl)), (by first | exact S.r | exact Kd.R_nil _ _ _ _ _), S.below⟩

/-! ### laws_toIntS: function 117 -/
def laws_toIntS.l0 : Nat → List Int → List Int → Int → Option (List Int)
  | 0, _, _, _ => none
  | k + 1, x0, x3, x4 => if x4 < (x0.length : Int) then (if 0 ≤ x4 then (if x4 < (x3.length : Int) then (laws_toIntS.l0 k x0 (x3.set (x4 : Int).toNat (rd x0 x4)) (wrap64 (x4 + 1))) else (none)) else (none)) else (some x3)
def laws_toIntS.f (k : Nat) (l0 : List Int) : Option (List Int) := if 0 ≤ (l0.length : Int) then (if ((l0.length : Int) : Int).toNat ≤ 35184372088832 then (laws_toIntS.l0 k l0 (List.replicate ((l0.length : Int) : Int).toNat 0) 0) else (none)) else (none)
theorem laws_toIntS.calls (k : Nat) (A0 : Option Addr) (c0 : Nat) (l0 : List Int) (r : List Int) (w : World) (hr0 : Kd.C (Kd.int .i64) w A0 l0.length l0) (hc0 : l0.length ≤ c0) (h : laws_toIntS.f k l0 = some r) :
    Calls Try.prog 117 #[.slice A0 l0.length c0] w fun e w' => ∃ v0_ : Value, e = .returned (v0_) ∧ Kd.R (Kd.int .i64) 3 w' w.heap.size (fun _ => True) v0_ r ∧ Below w.heap.size w w' := by
 have S := St.init (w := w) (dc (Kd.heap_int .i64) (atI .i64) hr0 hc0 dn)
 clear hr0 hc0
 have F := S.fc
 have H := h; clear h; unfold laws_toIntS.f at H
 replace H := np_ H; obtain ⟨c2, H⟩ := H
 replace H := np_ H; obtain ⟨c3, H⟩ := H
 (first | (with_reducible replace H := ob_ H; obtain ⟨y115, hy115, H⟩ := H; (try dsimp only at H)) | (obtain ⟨y115, hy115⟩ : ∃ y_ : List Int, y_ = (List.replicate ((l0.length : Int) : Int).toNat 0) := ⟨_, rfl⟩; (try rw [← hy115] at H); (try simp only [Option.bind_some] at H))); have Ny115 := Aside0.mk hy115; clear hy115
 go_enter Try.func117, Try.ntmps117
 go_wp2_with (first | ((with_reducible refine gd 7 rfl (L ?_)); refine mka 7 (atI .i64) S Try.underlying35 info3 ?_; clear S F; intro Ay115 cy115 W S; (try simp only [Int.reduceToNat] at S); (try rw [← Ny115.out] at S ⊢); have F := S.fc) | ((with_reducible refine gs (t := 3) rfl (L ?_)); (first | refine sb (.int _ _) S sz3 ?_ | refine ro (.int _ _) S sz3 ?_ (ho := rfl) (hx := rfl) (hy := rfl)); clear S F; intro W S; (try rw [← Ny115.out] at S); have F := S.fc))
 go_loopg [4] k (fun kq v4 w' => ∃ (x3_1 : List Int) (x4_1 : Int), v4 = .int .i64 x4_1 ∧ laws_toIntS.l0 kq l0 x3_1 x4_1 = some r ∧ kq ≤ k ∧ St w w (fun _ => False) [bor (atI .i64) A0 c0 l0] w'  [row (atI .i64) 3 Ay115 y115.length cy115 x3_1])
 case atStart => exact ⟨y115, 0, (by first | rfl | (simp; done) | (simp [*]; done) | (rw [w6_ (by omega) (by omega)])), H, Nat.le_refl _, S⟩
 case round =>
  clear H S F
  obtain ⟨x3_1, x4_1, rfl, HA, HK1, S⟩ := hrel
  have F := S.fc
  cases gk with
  | zero => exact absurd HA (by simp [laws_toIntS.l0])
  | succ k1 =>
   have H := HA; clear HA; simp only [laws_toIntS.l0, F] at H
   replace H := sp_ H; rcases H with ⟨c6, H⟩ | ⟨c6, H⟩
   · skip
     replace H := np_ H; obtain ⟨c7, H⟩ := H
     replace H := np_ H; obtain ⟨c8, H⟩ := H
     (first | (with_reducible replace H := ob_ H; obtain ⟨y119, hy119, H⟩ := H; (try dsimp only at H)) | (obtain ⟨y119, hy119⟩ : ∃ y_ : List Int, y_ = (x3_1.set (x4_1 : Int).toNat (rd l0 x4_1)) := ⟨_, rfl⟩; (try rw [← hy119] at H); (try simp only [Option.bind_some] at H))); have Ny119 := Aside0.mk hy119; clear hy119
     go_wp2_with (first | ((with_reducible refine gs (t := 3) rfl (L ?_)); (first | refine sb (.int _ _) S sz3 ?_ | refine ro (.int _ _) S sz3 ?_ (ho := rfl) (hx := rfl) (hy := rfl)); clear S F; intro W S; (try rw [← Ny115.out] at S); (try rw [← Ny119.out] at S); have F := S.fc))
     go_roundg k1
     case measure => omega
     case rel => exact ⟨y119, (wrap64 (x4_1 + 1)), (by first | rfl | (simp; done) | (simp [*]; done) | (rw [w6_ (by omega) (by omega)])), H, (by first | omega | exact Nat.le_refl _), S⟩
   · skip
     obtain rfl := Option.some.inj H
     go_wp2_with (first | ((with_reducible refine gs (t := 3) rfl (L ?_)); (first | refine sb (.int _ _) S sz3 ?_ | refine ro (.int _ _) S sz3 ?_ (ho := rfl) (hx := rfl) (hy := rfl)); clear S F; intro W S; (try rw [← Ny115.out] at S); have F := S.fc))
     go_ret
     exact ⟨_, (by first | rfl | (simp [e0_, e1_] <;> rfl) | (simp [*, e0_, e1_] <;> rfl)), (by first | exact S.r | exact Kd.R_nil _ _ _ _ _), S.below⟩

/-! ### laws_toChallenge: function 52 -/
def laws_toChallenge.f (k : Nat) (a0_0 : Int) (a0_1 : Int) (l0_2 : List (S80)) (l0_3 : List Int) (l0_4 : List Int) : Option (Int × Int × (List (S27)) × List Int × List Int) := (laws_toCellS.f k l0_2).bind fun t123 => ((laws_toIntS.f k l0_3).bind fun t126 => ((laws_toIntS.f k l0_4).bind fun t129 => (some (a0_0, a0_1, t123, t126, t129))))
theorem laws_toChallenge.calls (k : Nat) (a0_0 : Int) (a0_1 : Int) (A0_2 : Option Addr) (c0_2 : Nat) (l0_2 : List (S80)) (A0_3 : Option Addr) (c0_3 : Nat) (l0_3 : List Int) (A0_4 : Option Addr) (c0_4 : Nat) (l0_4 : List Int) (r1 : Int) (r2 : Int) (r3 : List (S27)) (r4 : List Int) (r5 : List Int) (w : World) (hr0_2 : Kd.C k80 w A0_2 l0_2.length l0_2) (hc0_2 : l0_2.length ≤ c0_2) (hr0_3 : Kd.C (Kd.int .i64) w A0_3 l0_3.length l0_3) (hc0_3 : l0_3.length ≤ c0_3) (hr0_4 : Kd.C (Kd.int .i64) w A0_4 l0_4.length l0_4) (hc0_4 : l0_4.length ≤ c0_4) (h : laws_toChallenge.f k a0_0 a0_1 l0_2 l0_3 l0_4 = some (r1, r2, r3, r4, r5)) :
    Calls Try.prog 52 #[.agg #[.int .i64 a0_0, .int .i64 a0_1, .slice A0_2 l0_2.length c0_2, .slice A0_3 l0_3.length c0_3, .slice A0_4 l0_4.length c0_4]] w fun e w' => ∃ v2_ v3_ v4_ : Value, e = .returned (.agg #[.int .i64 r1, .int .i64 r2, v2_, v3_, v4_]) ∧ Kd.R k27 27 w' w.heap.size (fun _ => True) v2_ r3 ∧ Kd.R (Kd.int .i64) 3 w' w.heap.size (fun k_ => some k_ ≠ (v4_ : Value).ownBlock) v3_ r4 ∧ Kd.R (Kd.int .i64) 3 w' w.heap.size (fun k_ => some k_ ≠ (v3_ : Value).ownBlock) v4_ r5 ∧ Below w.heap.size w w' := by
 have S := St.init (w := w) (dc k80_heap at80 hr0_2 hc0_2 (dc (Kd.heap_int .i64) (atI .i64) hr0_3 hc0_3 (dc (Kd.heap_int .i64) (atI .i64) hr0_4 hc0_4 dn)))
 clear hr0_2 hc0_2 hr0_3 hc0_3 hr0_4 hc0_4
 have F := S.fc
 have H := h; clear h; unfold laws_toChallenge.f at H
 replace H := Option.bind_eq_some_iff.mp H; obtain ⟨t123, A2, H⟩ := H; (try dsimp only at H)
 replace H := Option.bind_eq_some_iff.mp H; obtain ⟨t126, A3, H⟩ := H; (try dsimp only at H)
 replace H := Option.bind_eq_some_iff.mp H; obtain ⟨t129, A4, H⟩ := H; (try dsimp only at H)
 simp only [Option.some.injEq, Prod.mk.injEq] at H
 obtain ⟨rfl, rfl, rfl, rfl, rfl⟩ := H
 go_enter Try.func52, Try.ntmps52
 go_wp2_with (first | ((with_reducible refine gd 1 rfl (L ?_)); refine bo 1 (.agg #[_, _, _, _, _]) S ?_; clear S F; intro gb120 W S; have F := S.fc) | ((with_reducible refine gd 2 rfl (L ?_)); refine al 2 S zi66 ?_; clear S F; intro gb121 W S; have F := S.fc) | ((with_reducible refine gd 3 rfl (L ?_)); refine al 3 S zi66 ?_; clear S F; intro gb122 W S; have F := S.fc) | ((with_reducible refine gate_callee (f := 103) rfl (L ?_)); refine cl (some 12) Try.func103 (laws_toCellS.calls _ _ _ _ _ _ S.c S.n A2) (hargs := by (simp only [ma_, mb_, mc_, F] <;> rfl)) (h := ?_); rintro e W ⟨v124, rfl, ho0, hb⟩; refine ⟨_, rfl, ?_⟩; replace S := S.got at27 hb ho0; obtain ⟨At123, ct123, rfl, S⟩ := S; clear F hb ho0; have F := S.fc) | ((with_reducible refine gate_callee (f := 117) rfl (L ?_)); refine cl (some 16) Try.func117 (laws_toIntS.calls _ _ _ _ _ _ S.c S.n A3) (hargs := by (simp only [ma_, mb_, mc_, F] <;> rfl)) (h := ?_); rintro e W ⟨v127, rfl, ho0, hb⟩; refine ⟨_, rfl, ?_⟩; replace S := S.got (atI .i64) hb ho0; obtain ⟨At126, ct126, rfl, S⟩ := S; clear F hb ho0; have F := S.fc) | ((with_reducible refine gate_callee (f := 117) rfl (L ?_)); refine cl (some 20) Try.func117 (laws_toIntS.calls _ _ _ _ _ _ S.c S.n A4) (hargs := by (simp only [ma_, mb_, mc_, F] <;> rfl)) (h := ?_); rintro e W ⟨v130, rfl, ho0, hb⟩; refine ⟨_, rfl, ?_⟩; replace S := S.got (atI .i64) hb ho0; obtain ⟨At129, ct129, rfl, S⟩ := S; clear F hb ho0; have F := S.fc) | ((with_reducible refine gs (t := 3) rfl (L ?_)); (first | refine sb (.int _ _) S sz3 ?_ | refine ro (.int _ _) S sz3 ?_ (ho := rfl) (hx := rfl) (hy := rfl)); (clear S F; intro W S; have F := S.fc)) | ((with_reducible refine gs (t := 23) rfl (L ?_)); (first | refine sb (.slice _ _ _) S sz23 ?_ | refine ro (.slice _ _ _) S sz23 ?_ (ho := rfl) (hx := rfl) (hy := rfl)); (clear S F; intro W S; have F := S.fc)) | ((with_reducible refine gs (t := 35) rfl (L ?_)); (first | refine sb (.slice _ _ _) S sz35 ?_ | refine ro (.slice _ _ _) S sz35 ?_ (ho := rfl) (hx := rfl) (hy := rfl)); (clear S F; intro W S; have F := S.fc)) | ((with_reducible refine gs (t := 66) rfl (L ?_)); (first | refine sb (.agg #[_, _, _, _, _]) S sz66 ?_ | refine ro (.agg #[_, _, _, _, _]) S sz66 ?_ (ho := rfl) (hx := rfl) (hy := rfl)); (clear S F; intro W S; have F := S.fc)))
 refine bodyPost_ret (results_cell_row rfl _ _ gb121 66 #[.int .i64 a0_0, .int .i64 a0_1, .slice At123 t123.length ct123, .slice At126 t126.length ct126, .slice At129 t129.length ct129] (0, 0) _ rfl S.hb Try.underlying66 rfl (by kernel_rfl)) rfl ?_
 exact ⟨_, _, _, (by first | rfl | (simp [e0_, e1_] <;> rfl) | (simp [*, e0_, e1_] <;> rfl)), (by first | exact S.r | exact Kd.R_nil _ _ _ _ _), (by first | exact S.rn | exact Kd.R_nil _ _ _ _ _), (by first | exact S.rn | exact Kd.R_nil _ _ _ _ _), S.below⟩

/-! ### laws_eqIntS: function 46 -/
def laws_eqIntS.l0 : Nat → List Int → List Int → Int → Option (Bool)
 | 0, _, _, _ => none
 | k + 1, x0, x1, x5 => if x5 < (x0.length : Int) then (if 0 ≤ x5 then (if x5 < (x1.length : Int) then (if (rd x0 x5) = (rd x1 x5) then (laws_eqIntS.l0 k x0 x1 (wrap64 (x5 + 1))) else (some false)) else (none)) else (none)) else (some true)
def laws_eqIntS.f (k : Nat) (l0 : List Int) (l1 : List Int) : Option (Bool) := if (l0.length : Int) = (l1.length : Int) then (laws_eqIntS.l0 k l0 l1 0) else (some false)
theorem laws_eqIntS.calls (k : Nat) (A0 : Option Addr) (c0 : Nat) (l0 : List Int) (A1 : Option Addr) (c1 : Nat) (l1 : List Int) (r : Bool) (w : World) (hr0 : Kd.C (Kd.int .i64) w A0 l0.length l0) (hc0 : l0.length ≤ c0) (hr1 : Kd.C (Kd.int .i64) w A1 l1.length l1) (hc1 : l1.length ≤ c1) (h : laws_eqIntS.f k l0 l1 = some r) :
  Calls Try.prog 46 #[.slice A0 l0.length c0, .slice A1 l1.length c1] w fun e w' => e = .returned (.bool r) ∧ Drawn0 w w' := by
 have HR0 := Aside0.mk hr0;have HC0 := Aside0.mk hc0;clear hr0 hc0;have HR1 := Aside0.mk hr1;have HC1 := Aside0.mk hc1;clear hr1 hc1;have H : (if (l0.length : Int) = (l1.length : Int) then (laws_eqIntS.l0 k l0 l1 0) else (some false)) = some r := h;clear h;by_cases c3 : (l0.length : Int) = (l1.length : Int)
 ·rw [if_pos c3] at H;have c3b0 : ((l0.length : Int) == (l1.length : Int)) = true := beq_iff_eq.mpr c3;have c3b1 : ((l0.length : Int) != (l1.length : Int)) = false := bne_eq_false_iff_eq.mpr c3;have c3b2 : (l0.length == l1.length) = true := by first | simpa using c3 | (simp at c3 ⊢; omega)
  clear c3;have H' := Aside0.mk H;clear H;go_enter Try.func46, Try.ntmps46;go_wp2;repeat (go_quiet (fail); try go_wp2)
  go_loopg [5] k (fun kq v5 w' => ∃ (x5_1 : Int), v5 = .int .i64 x5_1 ∧ Aside0 (laws_eqIntS.l0 kq l0 l1 x5_1 = some r) ∧ Aside0 (kq ≤ k) ∧ Drawn0 w w')
  case atStart => exact ⟨(0), (by first | rfl | (simp; done) | (simp [*]; done)), H', ⟨Nat.le_refl _⟩, by repeat (first | exact Drawn0.refl _ | apply Drawn0.step)⟩
  case round =>
   clear H';(try clear c1);(try clear p2);(try clear c3);(try clear c3b0);(try clear c3b1);(try clear c3b2);obtain ⟨x5_1, rfl, HA, HK1, ⟨m1, rfl⟩⟩ := hrel;cases gk with
   | zero => exact absurd HA.out (by simp [laws_eqIntS.l0])
   | succ k1 =>
    have H := HA.out;clear HA;simp only [laws_eqIntS.l0] at H;by_cases c4 : x5_1 < (l0.length : Int)
    ·rw [if_pos c4] at H;have c4b0 : decide (x5_1 < (l0.length : Int)) = true := decide_eq_true c4;clear c4;replace H := np_ H;obtain ⟨c5, H⟩ := H;have c5b0 : decide (0 ≤ x5_1) = true := decide_eq_true c5;clear c5;replace H := np_ H;obtain ⟨c6, H⟩ := H;have c6b0 : decide (x5_1 < (l1.length : Int)) = true := decide_eq_true c6;clear c6;by_cases c7 : (rd l0 x5_1) = (rd l1 x5_1)
     ·rw [if_pos c7] at H;have c7b0 : ((rd l0 x5_1) == (rd l1 x5_1)) = true := beq_iff_eq.mpr c7;have c7b1 : ((rd l0 x5_1) != (rd l1 x5_1)) = false := bne_eq_false_iff_eq.mpr c7;clear c7;have H' := Aside0.mk H;clear H;have p132 : 0 ≤ (x5_1 : Int) := of_decide_eq_true (by first | (with_reducible assumption) | assumption);have q132 : x5_1 < (l0.length : Int) := of_decide_eq_true (by first | (with_reducible assumption) | assumption);obtain ⟨ad132, e132, hx132_0⟩ := Kd.at_int HR0.out x5_1 p132 q132;cases e132;replace p132 := eq_true p132;replace q132 := eq_true q132;have p133 : 0 ≤ (x5_1 : Int) := of_decide_eq_true (by first | (with_reducible assumption) | assumption);have q133 : x5_1 < (l1.length : Int) := of_decide_eq_true (by first | (with_reducible assumption) | assumption);obtain ⟨ad133, e133, hx133_0⟩ := Kd.at_int HR1.out x5_1 p133 q133;cases e133;replace p133 := eq_true p133;replace q133 := eq_true q133;go_wp2;repeat (go_quiet (fail); try go_wp2)
      go_roundg k1
      case measure => have := HK1.out; omega
      case rel => exact ⟨(wrap64 (x5_1 + 1)), (by first | rfl | (simp; done) | (simp [*]; done)), H', ⟨by have := HK1.out; omega⟩, by repeat (first | exact Drawn0.refl _ | apply Drawn0.step)⟩
     ·rw [if_neg c7] at H;have c7b0 : ((rd l0 x5_1) == (rd l1 x5_1)) = false := beq_eq_false_iff_ne.mpr c7;have c7b1 : ((rd l0 x5_1) != (rd l1 x5_1)) = true := bne_iff_ne.mpr c7;obtain rfl := Option.some.inj H;have p132 : 0 ≤ (x5_1 : Int) := of_decide_eq_true (by first | (with_reducible assumption) | assumption);have q132 : x5_1 < (l0.length : Int) := of_decide_eq_true (by first | (with_reducible assumption) | assumption);obtain ⟨ad132, e132, hx132_0⟩ := Kd.at_int HR0.out x5_1 p132 q132;cases e132;replace p132 := eq_true p132;replace q132 := eq_true q132;have p133 : 0 ≤ (x5_1 : Int) := of_decide_eq_true (by first | (with_reducible assumption) | assumption);have q133 : x5_1 < (l1.length : Int) := of_decide_eq_true (by first | (with_reducible assumption) | assumption);obtain ⟨ad133, e133, hx133_0⟩ := Kd.at_int HR1.out x5_1 p133 q133;cases e133;replace p133 := eq_true p133;replace q133 := eq_true q133;go_wp2;repeat (go_quiet (fail); try go_wp2)
      go_ret;exact ⟨by first | rfl | (simp; done) | (simp [*]; done), by repeat (first | exact Drawn0.refl _ | apply Drawn0.step)⟩
    ·rw [if_neg c4] at H;have c4b0 : decide (x5_1 < (l0.length : Int)) = false := decide_eq_false c4;clear c4;obtain rfl := Option.some.inj H;go_wp2;repeat (go_quiet (fail); try go_wp2)
     go_ret;exact ⟨by first | rfl | (simp; done) | (simp [*]; done), by repeat (first | exact Drawn0.refl _ | apply Drawn0.step)⟩
 ·rw [if_neg c3] at H;have c3b0 : ((l0.length : Int) == (l1.length : Int)) = false := beq_eq_false_iff_ne.mpr c3;have c3b1 : ((l0.length : Int) != (l1.length : Int)) = true := bne_iff_ne.mpr c3;have c3b2 : (l0.length == l1.length) = false := by first | simpa using c3 | (simp at c3 ⊢; omega)
  obtain rfl := Option.some.inj H;go_enter Try.func46, Try.ntmps46;go_wp2;repeat (go_quiet (fail); try go_wp2)
  go_ret;exact ⟨by first | rfl | (simp; done) | (simp [*]; done), by repeat (first | exact Drawn0.refl _ | apply Drawn0.step)⟩

/-! ### laws_eqCell: function 152 -/
def laws_eqCell.f (a0_0 : Int) (a0_1 : Int) (a1_0 : Int) (a1_1 : Int) : Option (Bool) := if a0_0 = a1_0 then (if a0_1 = a1_1 then (some true) else (some false)) else (some false)
theorem laws_eqCell.calls (a0_0 : Int) (a0_1 : Int) (a1_0 : Int) (a1_1 : Int) (r : Bool) (w : World) (h : laws_eqCell.f a0_0 a0_1 a1_0 a1_1 = some r) :
    Calls Try.prog 152 #[.agg #[.int .i64 a0_0, .int .i64 a0_1], .agg #[.int .i64 a1_0, .int .i64 a1_1]] w fun e w' => e = .returned (.bool r) ∧ Below w.heap.size w w' := by
 have S := St.init (w := w) dn
 have F := S.fc
 have H := h; clear h; unfold laws_eqCell.f at H
 replace H := sp_ H; rcases H with ⟨c3, H⟩ | ⟨c3, H⟩
 · skip
   replace c3 := ceq c3
   replace H := sp_ H; rcases H with ⟨c4, H⟩ | ⟨c4, H⟩
   · skip
     replace c4 := ceq c4
     obtain rfl := Option.some.inj H
     go_enter Try.func152, Try.ntmps152
     go_wp2_with (first | ((with_reducible refine gd 2 rfl (L ?_)); refine bo 2 (.agg #[_, _]) S ?_; clear S F; intro gb134 W S; have F := S.fc) | ((with_reducible refine gd 3 rfl (L ?_)); refine bo 3 (.agg #[_, _]) S ?_; clear S F; intro gb135 W S; have F := S.fc))
     go_ret
     exact ⟨(by first | rfl | (simp [e0_, e1_] <;> rfl) | (simp [*, e0_, e1_] <;> rfl)), S.below⟩
   · skip
     replace c4 := cne c4
     obtain rfl := Option.some.inj H
     go_enter Try.func152, Try.ntmps152
     go_wp2_with (first | ((with_reducible refine gd 2 rfl (L ?_)); refine bo 2 (.agg #[_, _]) S ?_; clear S F; intro gb134 W S; have F := S.fc) | ((with_reducible refine gd 3 rfl (L ?_)); refine bo 3 (.agg #[_, _]) S ?_; clear S F; intro gb135 W S; have F := S.fc))
     go_ret
     exact ⟨(by first | rfl | (simp [e0_, e1_] <;> rfl) | (simp [*, e0_, e1_] <;> rfl)), S.below⟩
 · skip
   replace c3 := cne c3
   obtain rfl := Option.some.inj H
   go_enter Try.func152, Try.ntmps152
   go_wp2_with (first | ((with_reducible refine gd 2 rfl (L ?_)); refine bo 2 (.agg #[_, _]) S ?_; clear S F; intro gb134 W S; have F := S.fc) | ((with_reducible refine gd 3 rfl (L ?_)); refine bo 3 (.agg #[_, _]) S ?_; clear S F; intro gb135 W S; have F := S.fc))
   go_ret
   exact ⟨(by first | rfl | (simp [e0_, e1_] <;> rfl) | (simp [*, e0_, e1_] <;> rfl)), S.below⟩

/-! ### laws_eqCellS: function 107 -/
def laws_eqCellS.l0 : Nat → List (S27) → List (S27) → Int → Option (Bool)
  | 0, _, _, _ => none
  | k + 1, x0, x1, x5 => if x5 < (x0.length : Int) then (if 0 ≤ x5 then (if x5 < (x1.length : Int) then ((laws_eqCell.f ((rd_T27 x0 x5).f0) ((rd_T27 x0 x5).f1) ((rd_T27 x1 x5).f0) ((rd_T27 x1 x5).f1)).bind fun t138 => (if t138 = true then (laws_eqCellS.l0 k x0 x1 (wrap64 (x5 + 1))) else (some false))) else (none)) else (none)) else (some true)
def laws_eqCellS.f (k : Nat) (l0 : List (S27)) (l1 : List (S27)) : Option (Bool) := if (l0.length : Int) = (l1.length : Int) then (laws_eqCellS.l0 k l0 l1 0) else (some false)
theorem laws_eqCellS.calls (k : Nat) (A0 : Option Addr) (c0 : Nat) (l0 : List (S27)) (A1 : Option Addr) (c1 : Nat) (l1 : List (S27)) (r : Bool) (w : World) (hr0 : Kd.C k27 w A0 l0.length l0) (hc0 : l0.length ≤ c0) (hr1 : Kd.C k27 w A1 l1.length l1) (hc1 : l1.length ≤ c1) (h : laws_eqCellS.f k l0 l1 = some r) :
    Calls Try.prog 107 #[.slice A0 l0.length c0, .slice A1 l1.length c1] w fun e w' => e = .returned (.bool r) ∧ Below w.heap.size w w' := by
 have S := St.init (w := w) (dc k27_heap at27 hr0 hc0 (dc k27_heap at27 hr1 hc1 dn))
 clear hr0 hc0 hr1 hc1
 have F := S.fc
 have H := h; clear h; unfold laws_eqCellS.f at H
 replace H := sp_ H; rcases H with ⟨c3, H⟩ | ⟨c3, H⟩
 · skip
   replace c3 := ceq c3
   go_enter Try.func107, Try.ntmps107
   go_wp2
   go_loopg [5] k (fun kq v5 w' => ∃ (x5_1 : Int), v5 = .int .i64 x5_1 ∧ laws_eqCellS.l0 kq l0 l1 x5_1 = some r ∧ kq ≤ k ∧ St w w (fun _ => False) [bor at27 A0 c0 l0, bor at27 A1 c1 l1] w'  [])
   case atStart => exact ⟨0, (by first | rfl | (simp; done) | (simp [*]; done) | (rw [w6_ (by omega) (by omega)])), H, Nat.le_refl _, S⟩
   case round =>
    clear H S F
    obtain ⟨x5_1, rfl, HA, HK1, S⟩ := hrel
    have F := S.fc
    cases gk with
    | zero => exact absurd HA (by simp [laws_eqCellS.l0])
    | succ k1 =>
     have H := HA; clear HA; simp only [laws_eqCellS.l0, F] at H
     replace H := sp_ H; rcases H with ⟨c4, H⟩ | ⟨c4, H⟩
     · skip
       replace H := np_ H; obtain ⟨c5, H⟩ := H
       replace H := np_ H; obtain ⟨c6, H⟩ := H
       replace H := Option.bind_eq_some_iff.mp H; obtain ⟨t138, A7, H⟩ := H; (try dsimp only at H)
       replace H := sp_ H; rcases H with ⟨c8, H⟩ | ⟨c8, H⟩
       · skip
         subst c8
         try go_wp2
         refine rgS S [(0, 0), (0, 1), (0, 2), (0, 4), (0, 5), (0, 6), (1, 3), (1, 7), (2, 8), (0, 9)] [] (by kernel_rfl) (by kernel_rfl) (fun _ d _ _ _ h => by cases d <;> exact h) ?_; clear S F; intro W S; have S0 := S; have F := S.fc
         repeat (first | (refine o0 (v := ?_) (a' := ?_) rfl (Eq.refl true) ?_ ?_ ?_; rotate_left 2; (focus (intro W; (go_simp; first | with_reducible rfl | exact ie2_ | exact ie3_ | (refine if_pos ?_; omega)))); (focus (simp only [Act.put, za_, zb_, zc_, i64_w, i32_w]; rfl))) | (refine o1 (v := ?_) (a' := ?_) S0 rfl (Eq.refl true) ?_ ?_ ?_; rotate_left 2; (focus (intro W S; have F := S.fc; (go_simp; first | with_reducible rfl | exact ie2_ | exact ie3_ | (refine if_pos ?_; omega)))); (focus (simp only [Act.put, za_, zb_, zc_, i64_w, i32_w]; rfl))) | ((first | refine o0n (a' := ?_) rfl (Eq.refl false) ?_ ?_ | refine o1n (a' := ?_) S0 rfl (Eq.refl false) ?_ ?_); rotate_left; (focus (simp only [Act.put, za_, zb_, zc_, i64_w, i32_w]; rfl))))
         refine lk2 (by rfl) (by exact (Eq.refl true)) ?_; refine cl (some 25) Try.func152 (laws_eqCell.calls _ _ _ _ _ _ A7) (hargs := by (simp only [ma_, mb_, mc_, F] <;> rfl)) (h := ?_); rintro e W ⟨rfl, hb⟩; refine ⟨_, rfl, ?_⟩; replace S := S.go hb; clear F hb; have F := S.fc
         clear S0; have S0 := S; refine ⟨S0, ?_⟩
         repeat (first | (refine o0 (v := ?_) (a' := ?_) rfl (Eq.refl true) ?_ ?_ ?_; rotate_left 2; (focus (intro W; (go_simp; first | with_reducible rfl | exact ie2_ | exact ie3_ | (refine if_pos ?_; omega)))); (focus (simp only [Act.put, za_, zb_, zc_, i64_w, i32_w]; rfl))) | (refine o1 (v := ?_) (a' := ?_) S0 rfl (Eq.refl true) ?_ ?_ ?_; rotate_left 2; (focus (intro W S; have F := S.fc; (go_simp; first | with_reducible rfl | exact ie2_ | exact ie3_ | (refine if_pos ?_; omega)))); (focus (simp only [Act.put, za_, zb_, zc_, i64_w, i32_w]; rfl))) | ((first | refine o0n (a' := ?_) rfl (Eq.refl false) ?_ ?_ | refine o1n (a' := ?_) S0 rfl (Eq.refl false) ?_ ?_); rotate_left; (focus (simp only [Act.put, za_, zb_, zc_, i64_w, i32_w]; rfl))))
         refine oz ?_
         try clear S0
         try go_wp2
         go_roundg k1
         case measure => omega
         case rel => exact ⟨(wrap64 (x5_1 + 1)), (by first | rfl | (simp; done) | (simp [*]; done) | (rw [w6_ (by omega) (by omega)])), H, (by first | omega | exact Nat.le_refl _), S⟩
       · skip
         replace c8 := cbf c8; subst c8
         obtain rfl := Option.some.inj H
         try go_wp2
         refine rgS S [(0, 0), (0, 1), (0, 2), (0, 4), (0, 5), (0, 6), (1, 3), (1, 7), (2, 8), (0, 9)] [] (by kernel_rfl) (by kernel_rfl) (fun _ d _ _ _ h => by cases d <;> exact h) ?_; clear S F; intro W S; have S0 := S; have F := S.fc
         repeat (first | (refine o0 (v := ?_) (a' := ?_) rfl (Eq.refl true) ?_ ?_ ?_; rotate_left 2; (focus (intro W; (go_simp; first | with_reducible rfl | exact ie2_ | exact ie3_ | (refine if_pos ?_; omega)))); (focus (simp only [Act.put, za_, zb_, zc_, i64_w, i32_w]; rfl))) | (refine o1 (v := ?_) (a' := ?_) S0 rfl (Eq.refl true) ?_ ?_ ?_; rotate_left 2; (focus (intro W S; have F := S.fc; (go_simp; first | with_reducible rfl | exact ie2_ | exact ie3_ | (refine if_pos ?_; omega)))); (focus (simp only [Act.put, za_, zb_, zc_, i64_w, i32_w]; rfl))) | ((first | refine o0n (a' := ?_) rfl (Eq.refl false) ?_ ?_ | refine o1n (a' := ?_) S0 rfl (Eq.refl false) ?_ ?_); rotate_left; (focus (simp only [Act.put, za_, zb_, zc_, i64_w, i32_w]; rfl))))
         refine lk2 (by rfl) (by exact (Eq.refl true)) ?_; refine cl (some 25) Try.func152 (laws_eqCell.calls _ _ _ _ _ _ A7) (hargs := by (simp only [ma_, mb_, mc_, F] <;> rfl)) (h := ?_); rintro e W ⟨rfl, hb⟩; refine ⟨_, rfl, ?_⟩; replace S := S.go hb; clear F hb; have F := S.fc
         clear S0; have S0 := S; refine ⟨S0, ?_⟩
         repeat (first | (refine o0 (v := ?_) (a' := ?_) rfl (Eq.refl true) ?_ ?_ ?_; rotate_left 2; (focus (intro W; (go_simp; first | with_reducible rfl | exact ie2_ | exact ie3_ | (refine if_pos ?_; omega)))); (focus (simp only [Act.put, za_, zb_, zc_, i64_w, i32_w]; rfl))) | (refine o1 (v := ?_) (a' := ?_) S0 rfl (Eq.refl true) ?_ ?_ ?_; rotate_left 2; (focus (intro W S; have F := S.fc; (go_simp; first | with_reducible rfl | exact ie2_ | exact ie3_ | (refine if_pos ?_; omega)))); (focus (simp only [Act.put, za_, zb_, zc_, i64_w, i32_w]; rfl))) | ((first | refine o0n (a' := ?_) rfl (Eq.refl false) ?_ ?_ | refine o1n (a' := ?_) S0 rfl (Eq.refl false) ?_ ?_); rotate_left; (focus (simp only [Act.put, za_, zb_, zc_, i64_w, i32_w]; rfl))))
         refine oz ?_
         try clear S0
         try go_wp2
         go_ret
         exact ⟨(by first | rfl | (simp [e0_, e1_] <;> rfl) | (simp [*, e0_, e1_] <;> rfl)), S.below⟩
     · skip
       obtain rfl := Option.some.inj H
       go_wp2
       go_ret
       exact ⟨(by first | rfl | (simp [e0_, e1_] <;> rfl) | (simp [*, e0_, e1_] <;> rfl)), S.below⟩
 · skip
   replace c3 := cne c3
   obtain rfl := Option.some.inj H
   go_enter Try.func107, Try.ntmps107
   go_wp2
   go_ret
   exact ⟨(by first | rfl | (simp [e0_, e1_] <;> rfl) | (simp [*, e0_, e1_] <;> rfl)), S.below⟩

/-! ### laws_eqChallenge: function 54 -/
def laws_eqChallenge.f (k : Nat) (a0_0 : Int) (a0_1 : Int) (l0_2 : List (S27)) (l0_3 : List Int) (l0_4 : List Int) (a1_0 : Int) (a1_1 : Int) (l1_2 : List (S27)) (l1_3 : List Int) (l1_4 : List Int) : Option (Bool) := if a0_0 = a1_0 then (if a0_1 = a1_1 then ((laws_eqCellS.f k l0_2 l1_2).bind fun t141 => (if t141 = true then ((laws_eqIntS.f k l0_3 l1_3).bind fun t142 => (if t142 = true then ((laws_eqIntS.f k l0_4 l1_4).bind fun t143 => (if t143 = true then (some true) else (some false))) else (some false))) else (some false))) else (some false)) else (some false)
theorem laws_eqChallenge.calls (k : Nat) (a0_0 : Int) (a0_1 : Int) (A0_2 : Option Addr) (c0_2 : Nat) (l0_2 : List (S27)) (A0_3 : Option Addr) (c0_3 : Nat) (l0_3 : List Int) (A0_4 : Option Addr) (c0_4 : Nat) (l0_4 : List Int) (a1_0 : Int) (a1_1 : Int) (A1_2 : Option Addr) (c1_2 : Nat) (l1_2 : List (S27)) (A1_3 : Option Addr) (c1_3 : Nat) (l1_3 : List Int) (A1_4 : Option Addr) (c1_4 : Nat) (l1_4 : List Int) (r : Bool) (w : World) (hr0_2 : Kd.C k27 w A0_2 l0_2.length l0_2) (hc0_2 : l0_2.length ≤ c0_2) (hr0_3 : Kd.C (Kd.int .i64) w A0_3 l0_3.length l0_3) (hc0_3 : l0_3.length ≤ c0_3) (hr0_4 : Kd.C (Kd.int .i64) w A0_4 l0_4.length l0_4) (hc0_4 : l0_4.length ≤ c0_4) (hr1_2 : Kd.C k27 w A1_2 l1_2.length l1_2) (hc1_2 : l1_2.length ≤ c1_2) (hr1_3 : Kd.C (Kd.int .i64) w A1_3 l1_3.length l1_3) (hc1_3 : l1_3.length ≤ c1_3) (hr1_4 : Kd.C (Kd.int .i64) w A1_4 l1_4.length l1_4) (hc1_4 : l1_4.length ≤ c1_4) (h : laws_eqChallenge.f k a0_0 a0_1 l0_2 l0_3 l0_4 a1_0 a1_1 l1_2 l1_3 l1_4 = some r) :
    Calls Try.prog 54 #[.agg #[.int .i64 a0_0, .int .i64 a0_1, .slice A0_2 l0_2.length c0_2, .slice A0_3 l0_3.length c0_3, .slice A0_4 l0_4.length c0_4], .agg #[.int .i64 a1_0, .int .i64 a1_1, .slice A1_2 l1_2.length c1_2, .slice A1_3 l1_3.length c1_3, .slice A1_4 l1_4.length c1_4]] w fun e w' => e = .returned (.bool r) ∧ Below w.heap.size w w' := by
 have S := St.init (w := w) (dc k27_heap at27 hr0_2 hc0_2 (dc (Kd.heap_int .i64) (atI .i64) hr0_3 hc0_3 (dc (Kd.heap_int .i64) (atI .i64) hr0_4 hc0_4 (dc k27_heap at27 hr1_2 hc1_2 (dc (Kd.heap_int .i64) (atI .i64) hr1_3 hc1_3 (dc (Kd.heap_int .i64) (atI .i64) hr1_4 hc1_4 dn))))))
 clear hr0_2 hc0_2 hr0_3 hc0_3 hr0_4 hc0_4 hr1_2 hc1_2 hr1_3 hc1_3 hr1_4 hc1_4
 have F := S.fc
 have H := h; clear h; unfold laws_eqChallenge.f at H
 replace H := sp_ H; rcases H with ⟨c3, H⟩ | ⟨c3, H⟩
 · skip
   replace c3 := ceq c3
   replace H := sp_ H; rcases H with ⟨c4, H⟩ | ⟨c4, H⟩
   · skip
     replace c4 := ceq c4
     replace H := Option.bind_eq_some_iff.mp H; obtain ⟨t141, A5, H⟩ := H; (try dsimp only at H)
     replace H := sp_ H; rcases H with ⟨c6, H⟩ | ⟨c6, H⟩
     · skip
       subst c6
       replace H := Option.bind_eq_some_iff.mp H; obtain ⟨t142, A7, H⟩ := H; (try dsimp only at H)
       replace H := sp_ H; rcases H with ⟨c8, H⟩ | ⟨c8, H⟩
       · skip
         subst c8
         replace H := Option.bind_eq_some_iff.mp H; obtain ⟨t143, A9, H⟩ := H; (try dsimp only at H)
         replace H := sp_ H; rcases H with ⟨c10, H⟩ | ⟨c10, H⟩
         · skip
           subst c10
           obtain rfl := Option.some.inj H
           go_enter Try.func54, Try.ntmps54
           go_wp2_with (first | ((with_reducible refine gd 2 rfl (L ?_)); refine bo 2 (.agg #[_, _, _, _, _]) S ?_; clear S F; intro gb139 W S; have F := S.fc) | ((with_reducible refine gd 3 rfl (L ?_)); refine bo 3 (.agg #[_, _, _, _, _]) S ?_; clear S F; intro gb140 W S; have F := S.fc) | ((with_reducible refine gate_callee (f := 107) rfl (L ?_)); refine cl (some 19) Try.func107 (laws_eqCellS.calls _ _ _ _ _ _ _ _ _ S.c S.n S.c S.n A5) (hargs := by (simp only [ma_, mb_, mc_, F] <;> rfl)) (h := ?_); rintro e W ⟨rfl, hb⟩; refine ⟨_, rfl, ?_⟩; replace S := S.go hb; clear F hb; have F := S.fc) | ((with_reducible refine gate_callee (f := 46) rfl (L ?_)); refine cl (some 25) Try.func46 (laws_eqIntS.calls _ _ _ _ _ _ _ _ _ S.c S.n S.c S.n A7) (hargs := by (simp only [ma_, mb_, mc_, F] <;> rfl)) (h := ?_); rintro e W ⟨rfl, hb⟩; refine ⟨_, rfl, ?_⟩; replace S := S.gw hb; clear F hb; have F := S.fc) | ((with_reducible refine gate_callee (f := 46) rfl (L ?_)); refine cl (some 31) Try.func46 (laws_eqIntS.calls _ _ _ _ _ _ _ _ _ S.c S.n S.c S.n A9) (hargs := by (simp only [ma_, mb_, mc_, F] <;> rfl)) (h := ?_); rintro e W ⟨rfl, hb⟩; refine ⟨_, rfl, ?_⟩; replace S := S.gw hb; clear F hb; have F := S.fc))
           go_ret
           exact ⟨(by first | rfl | (simp [e0_, e1_] <;> rfl) | (simp [*, e0_, e1_] <;> rfl)), S.below⟩
         · skip
           replace c10 := cbf c10; subst c10
           obtain rfl := Option.some.inj H
           go_enter Try.func54, Try.ntmps54
           go_wp2_with (first | ((with_reducible refine gd 2 rfl (L ?_)); refine bo 2 (.agg #[_, _, _, _, _]) S ?_; clear S F; intro gb139 W S; have F := S.fc) | ((with_reducible refine gd 3 rfl (L ?_)); refine bo 3 (.agg #[_, _, _, _, _]) S ?_; clear S F; intro gb140 W S; have F := S.fc) | ((with_reducible refine gate_callee (f := 107) rfl (L ?_)); refine cl (some 19) Try.func107 (laws_eqCellS.calls _ _ _ _ _ _ _ _ _ S.c S.n S.c S.n A5) (hargs := by (simp only [ma_, mb_, mc_, F] <;> rfl)) (h := ?_); rintro e W ⟨rfl, hb⟩; refine ⟨_, rfl, ?_⟩; replace S := S.go hb; clear F hb; have F := S.fc) | ((with_reducible refine gate_callee (f := 46) rfl (L ?_)); refine cl (some 25) Try.func46 (laws_eqIntS.calls _ _ _ _ _ _ _ _ _ S.c S.n S.c S.n A7) (hargs := by (simp only [ma_, mb_, mc_, F] <;> rfl)) (h := ?_); rintro e W ⟨rfl, hb⟩; refine ⟨_, rfl, ?_⟩; replace S := S.gw hb; clear F hb; have F := S.fc) | ((with_reducible refine gate_callee (f := 46) rfl (L ?_)); refine cl (some 31) Try.func46 (laws_eqIntS.calls _ _ _ _ _ _ _ _ _ S.c S.n S.c S.n A9) (hargs := by (simp only [ma_, mb_, mc_, F] <;> rfl)) (h := ?_); rintro e W ⟨rfl, hb⟩; refine ⟨_, rfl, ?_⟩; replace S := S.gw hb; clear F hb; have F := S.fc))
           go_ret
           exact ⟨(by first | rfl | (simp [e0_, e1_] <;> rfl) | (simp [*, e0_, e1_] <;> rfl)), S.below⟩
       · skip
         replace c8 := cbf c8; subst c8
         obtain rfl := Option.some.inj H
         go_enter Try.func54, Try.ntmps54
         go_wp2_with (first | ((with_reducible refine gd 2 rfl (L ?_)); refine bo 2 (.agg #[_, _, _, _, _]) S ?_; clear S F; intro gb139 W S; have F := S.fc) | ((with_reducible refine gd 3 rfl (L ?_)); refine bo 3 (.agg #[_, _, _, _, _]) S ?_; clear S F; intro gb140 W S; have F := S.fc) | ((with_reducible refine gate_callee (f := 107) rfl (L ?_)); refine cl (some 19) Try.func107 (laws_eqCellS.calls _ _ _ _ _ _ _ _ _ S.c S.n S.c S.n A5) (hargs := by (simp only [ma_, mb_, mc_, F] <;> rfl)) (h := ?_); rintro e W ⟨rfl, hb⟩; refine ⟨_, rfl, ?_⟩; replace S := S.go hb; clear F hb; have F := S.fc) | ((with_reducible refine gate_callee (f := 46) rfl (L ?_)); refine cl (some 25) Try.func46 (laws_eqIntS.calls _ _ _ _ _ _ _ _ _ S.c S.n S.c S.n A7) (hargs := by (simp only [ma_, mb_, mc_, F] <;> rfl)) (h := ?_); rintro e W ⟨rfl, hb⟩; refine ⟨_, rfl, ?_⟩; replace S := S.gw hb; clear F hb; have F := S.fc))
         go_ret
         exact ⟨(by first | rfl | (simp [e0_, e1_] <;> rfl) | (simp [*, e0_, e1_] <;> rfl)), S.below⟩
     · skip
       replace c6 := cbf c6; subst c6
       obtain rfl := Option.some.inj H
       go_enter Try.func54, Try.ntmps54
       go_wp2_with (first | ((with_reducible refine gd 2 rfl (L ?_)); refine bo 2 (.agg #[_, _, _, _, _]) S ?_; clear S F; intro gb139 W S; have F := S.fc) | ((with_reducible refine gd 3 rfl (L ?_)); refine bo 3 (.agg #[_, _, _, _, _]) S ?_; clear S F; intro gb140 W S; have F := S.fc) | ((with_reducible refine gate_callee (f := 107) rfl (L ?_)); refine cl (some 19) Try.func107 (laws_eqCellS.calls _ _ _ _ _ _ _ _ _ S.c S.n S.c S.n A5) (hargs := by (simp only [ma_, mb_, mc_, F] <;> rfl)) (h := ?_); rintro e W ⟨rfl, hb⟩; refine ⟨_, rfl, ?_⟩; replace S := S.go hb; clear F hb; have F := S.fc))
       go_ret
       exact ⟨(by first | rfl | (simp [e0_, e1_] <;> rfl) | (simp [*, e0_, e1_] <;> rfl)), S.below⟩
   · skip
     replace c4 := cne c4
     obtain rfl := Option.some.inj H
     go_enter Try.func54, Try.ntmps54
     go_wp2_with (first | ((with_reducible refine gd 2 rfl (L ?_)); refine bo 2 (.agg #[_, _, _, _, _]) S ?_; clear S F; intro gb139 W S; have F := S.fc) | ((with_reducible refine gd 3 rfl (L ?_)); refine bo 3 (.agg #[_, _, _, _, _]) S ?_; clear S F; intro gb140 W S; have F := S.fc))
     go_ret
     exact ⟨(by first | rfl | (simp [e0_, e1_] <;> rfl) | (simp [*, e0_, e1_] <;> rfl)), S.below⟩
 · skip
   replace c3 := cne c3
   obtain rfl := Option.some.inj H
   go_enter Try.func54, Try.ntmps54
   go_wp2_with (first | ((with_reducible refine gd 2 rfl (L ?_)); refine bo 2 (.agg #[_, _, _, _, _]) S ?_; clear S F; intro gb139 W S; have F := S.fc) | ((with_reducible refine gd 3 rfl (L ?_)); refine bo 3 (.agg #[_, _, _, _, _]) S ?_; clear S F; intro gb140 W S; have F := S.fc))
   go_ret
   exact ⟨(by first | rfl | (simp [e0_, e1_] <;> rfl) | (simp [*, e0_, e1_] <;> rfl)), S.below⟩

/-! ### spec_l1In: function 96 -/
def spec_l1In.f (a0 : Int) (a1 : Int) (a2 : Int) : Option (Bool) := if a0 ≥ a1 then (some (decide (a0 ≤ a2))) else (some false)
theorem spec_l1In.calls (a0 : Int) (a1 : Int) (a2 : Int) (r : Bool) (w : World) (h : spec_l1In.f a0 a1 a2 = some r) :
  Calls Try.prog 96 #[.int .i64 a0, .int .i64 a1, .int .i64 a2] w fun e w' => e = .returned (.bool r) ∧ Drawn0 w w' := by
 have H : (if a0 ≥ a1 then (some (decide (a0 ≤ a2))) else (some false)) = some r := h;clear h;by_cases c4 : a0 ≥ a1
 ·rw [if_pos c4] at H;have c4b0 : decide (a1 ≤ a0) = true := decide_eq_true c4;clear c4;obtain rfl := Option.some.inj H;go_enter Try.func96, Try.ntmps96;go_wp2;go_ret;exact ⟨by first | rfl | (simp; done) | (simp [*]; done), by repeat (first | exact Drawn0.refl _ | apply Drawn0.step)⟩
 ·rw [if_neg c4] at H;have c4b0 : decide (a1 ≤ a0) = false := decide_eq_false c4;clear c4;obtain rfl := Option.some.inj H;go_enter Try.func96, Try.ntmps96;go_wp2;go_ret;exact ⟨by first | rfl | (simp; done) | (simp [*]; done), by repeat (first | exact Drawn0.refl _ | apply Drawn0.step)⟩

/-! ### spec_paTurning: function 139 -/
def spec_paTurning.f (a0_0 : Int) (a0_1 : Int) : Option (Bool) := if a0_0 = 3 then (some true) else (some (a0_0 == 6))
theorem spec_paTurning.calls (a0_0 : Int) (a0_1 : Int) (r : Bool) (w : World) (h : spec_paTurning.f a0_0 a0_1 = some r) :
    Calls Try.prog 139 #[.agg #[.int .i64 a0_0, .int .i64 a0_1]] w fun e w' => e = .returned (.bool r) ∧ Below w.heap.size w w' := by
 have S := St.init (w := w) dn
 have F := S.fc
 have H := h; clear h; unfold spec_paTurning.f at H
 replace H := sp_ H; rcases H with ⟨c2, H⟩ | ⟨c2, H⟩
 · skip
   replace c2 := ceq c2
   obtain rfl := Option.some.inj H
   go_enter Try.func139, Try.ntmps139
   go_wp2_with (first | ((with_reducible refine gd 1 rfl (L ?_)); refine bo 1 (.agg #[_, _]) S ?_; clear S F; intro gb144 W S; have F := S.fc))
   go_ret
   exact ⟨(by first | rfl | (simp [e0_, e1_] <;> rfl) | (simp [*, e0_, e1_] <;> rfl)), S.below⟩
 · skip
   replace c2 := cne c2
   obtain rfl := Option.some.inj H
   go_enter Try.func139, Try.ntmps139
   go_wp2_with (first | ((with_reducible refine gd 1 rfl (L ?_)); refine bo 1 (.agg #[_, _]) S ?_; clear S F; intro gb144 W S; have F := S.fc))
   go_ret
   exact ⟨(by first | rfl | (simp [e0_, e1_] <;> rfl) | (simp [*, e0_, e1_] <;> rfl)), S.below⟩

/-! ### spec_paGood: function 82 -/
def spec_paGood.f (a0_0 : Int) (a0_1 : Int) : Option (Bool) := (spec_l1In.f a0_0 0 7).bind fun t146 => (if t146 = true then (if a0_1 = 0 then (some true) else (if a0_1 = 1 then ((spec_paTurning.f a0_0 a0_1).bind fun t147 => (some t147)) else (some false))) else (some false))
theorem spec_paGood.calls (a0_0 : Int) (a0_1 : Int) (r : Bool) (w : World) (h : spec_paGood.f a0_0 a0_1 = some r) :
    Calls Try.prog 82 #[.agg #[.int .i64 a0_0, .int .i64 a0_1]] w fun e w' => e = .returned (.bool r) ∧ Below w.heap.size w w' := by
 have S := St.init (w := w) dn
 have F := S.fc
 have H := h; clear h; unfold spec_paGood.f at H
 replace H := Option.bind_eq_some_iff.mp H; obtain ⟨t146, A2, H⟩ := H; (try dsimp only at H)
 replace H := sp_ H; rcases H with ⟨c3, H⟩ | ⟨c3, H⟩
 · skip
   subst c3
   replace H := sp_ H; rcases H with ⟨c4, H⟩ | ⟨c4, H⟩
   · skip
     replace c4 := ceq c4
     obtain rfl := Option.some.inj H
     go_enter Try.func82, Try.ntmps82
     go_wp2_with (first | ((with_reducible refine gd 1 rfl (L ?_)); refine bo 1 (.agg #[_, _]) S ?_; clear S F; intro gb145 W S; have F := S.fc) | ((with_reducible refine gate_callee (f := 96) rfl (L ?_)); refine cl (some 5) Try.func96 (spec_l1In.calls _ _ _ _ _ A2) (hargs := by (simp only [ma_, mb_, mc_, F] <;> rfl)) (h := ?_); rintro e W ⟨rfl, hb⟩; refine ⟨_, rfl, ?_⟩; replace S := S.gw hb; clear F hb; have F := S.fc))
     go_ret
     exact ⟨(by first | rfl | (simp [e0_, e1_] <;> rfl) | (simp [*, e0_, e1_] <;> rfl)), S.below⟩
   · skip
     replace c4 := cne c4
     replace H := sp_ H; rcases H with ⟨c7, H⟩ | ⟨c7, H⟩
     · skip
       replace c7 := ceq c7
       replace H := Option.bind_eq_some_iff.mp H; obtain ⟨t147, A8, H⟩ := H; (try dsimp only at H)
       obtain rfl := Option.some.inj H
       go_enter Try.func82, Try.ntmps82
       go_wp2_with (first | ((with_reducible refine gd 1 rfl (L ?_)); refine bo 1 (.agg #[_, _]) S ?_; clear S F; intro gb145 W S; have F := S.fc) | ((with_reducible refine gate_callee (f := 96) rfl (L ?_)); refine cl (some 5) Try.func96 (spec_l1In.calls _ _ _ _ _ A2) (hargs := by (simp only [ma_, mb_, mc_, F] <;> rfl)) (h := ?_); rintro e W ⟨rfl, hb⟩; refine ⟨_, rfl, ?_⟩; replace S := S.gw hb; clear F hb; have F := S.fc) | (go_at_call 139; (try simp only [F]); refine (spec_paTurning.calls _ _ _ _ A8).mono ?_; rintro e W ⟨rfl, hb⟩; replace S := S.go hb; clear F hb; have F := S.fc))
       go_ret
       exact ⟨(by first | rfl | (simp [e0_, e1_] <;> rfl) | (simp [*, e0_, e1_] <;> rfl)), S.below⟩
     · skip
       replace c7 := cne c7
       obtain rfl := Option.some.inj H
       go_enter Try.func82, Try.ntmps82
       go_wp2_with (first | ((with_reducible refine gd 1 rfl (L ?_)); refine bo 1 (.agg #[_, _]) S ?_; clear S F; intro gb145 W S; have F := S.fc) | ((with_reducible refine gate_callee (f := 96) rfl (L ?_)); refine cl (some 5) Try.func96 (spec_l1In.calls _ _ _ _ _ A2) (hargs := by (simp only [ma_, mb_, mc_, F] <;> rfl)) (h := ?_); rintro e W ⟨rfl, hb⟩; refine ⟨_, rfl, ?_⟩; replace S := S.gw hb; clear F hb; have F := S.fc))
       go_ret
       exact ⟨(by first | rfl | (simp [e0_, e1_] <;> rfl) | (simp [*, e0_, e1_] <;> rfl)), S.below⟩
 · skip
   replace c3 := cbf c3; subst c3
   obtain rfl := Option.some.inj H
   go_enter Try.func82, Try.ntmps82
   go_wp2_with (first | ((with_reducible refine gd 1 rfl (L ?_)); refine bo 1 (.agg #[_, _]) S ?_; clear S F; intro gb145 W S; have F := S.fc) | ((with_reducible refine gate_callee (f := 96) rfl (L ?_)); refine cl (some 5) Try.func96 (spec_l1In.calls _ _ _ _ _ A2) (hargs := by (simp only [ma_, mb_, mc_, F] <;> rfl)) (h := ?_); rintro e W ⟨rfl, hb⟩; refine ⟨_, rfl, ?_⟩; replace S := S.gw hb; clear F hb; have F := S.fc))
   go_ret
   exact ⟨(by first | rfl | (simp [e0_, e1_] <;> rfl) | (simp [*, e0_, e1_] <;> rfl)), S.below⟩

/-! ### spec_syPower: function 177 -/
def spec_syPower.l0 : Nat → Int → Int → Int → Option (Int)
 | 0, _, _, _ => none
 | k + 1, x0, x1, x5 => if x1 > 0 then (if x5 ≤ 7000 then (spec_syPower.l0 k x0 (wrap64 (x1 - 1)) (wrap64 (x5 * x0))) else (some x5)) else (some x5)
def spec_syPower.f (k : Nat) (a0 : Int) (a1 : Int) : Option (Int) := spec_syPower.l0 k a0 a1 1
theorem spec_syPower.calls (k : Nat) (a0 : Int) (a1 : Int) (r : Int) (w : World) (h : spec_syPower.f k a0 a1 = some r) :
  Calls Try.prog 177 #[.int .i64 a0, .int .i64 a1] w fun e w' => e = .returned (.int .i64 r) ∧ Drawn0 w w' := by
 have H : (spec_syPower.l0 k a0 a1 1) = some r := h;clear h;have H' := Aside0.mk H;clear H;go_enter Try.func177, Try.ntmps177;go_wp2;go_loopg [1, 5] k (fun kq v1 v5 w' => ∃ (x1_1 : Int) (x5_1 : Int), v1 = .int .i64 x1_1 ∧ v5 = .int .i64 x5_1 ∧ Aside0 (spec_syPower.l0 kq a0 x1_1 x5_1 = some r) ∧ Aside0 (kq ≤ k) ∧ Drawn0 w w')
 case atStart => exact ⟨(a1), (1), (by first | rfl | (simp; done) | (simp [*]; done)), (by first | rfl | (simp; done) | (simp [*]; done)), H', ⟨Nat.le_refl _⟩, by repeat (first | exact Drawn0.refl _ | apply Drawn0.step)⟩
 case round =>
  clear H';(try clear c1);(try clear p2);obtain ⟨x1_1, x5_1, rfl, rfl, HA, HK1, ⟨m1, rfl⟩⟩ := hrel;cases gk with
  | zero => exact absurd HA.out (by simp [spec_syPower.l0])
  | succ k1 =>
   have H := HA.out;clear HA;simp only [spec_syPower.l0] at H;by_cases c3 : x1_1 > 0
   ·rw [if_pos c3] at H;have c3b0 : decide (0 < x1_1) = true := decide_eq_true c3;clear c3;by_cases c4 : x5_1 ≤ 7000
    ·rw [if_pos c4] at H;have c4b0 : decide (x5_1 ≤ 7000) = true := decide_eq_true c4;clear c4;have H' := Aside0.mk H;clear H;go_wp2;go_roundg k1
     case measure => have := HK1.out; omega
     case rel => exact ⟨(wrap64 (x1_1 - 1)), (wrap64 (x5_1 * a0)), (by first | rfl | (simp; done) | (simp [*]; done)), (by first | rfl | (simp; done) | (simp [*]; done)), H', ⟨by have := HK1.out; omega⟩, by repeat (first | exact Drawn0.refl _ | apply Drawn0.step)⟩
    ·rw [if_neg c4] at H;have c4b0 : decide (x5_1 ≤ 7000) = false := decide_eq_false c4;clear c4;obtain rfl := Option.some.inj H;go_wp2;go_ret;exact ⟨by first | rfl | (simp; done) | (simp [*]; done), by repeat (first | exact Drawn0.refl _ | apply Drawn0.step)⟩
   ·rw [if_neg c3] at H;have c3b0 : decide (0 < x1_1) = false := decide_eq_false c3;clear c3;obtain rfl := Option.some.inj H;go_wp2;go_ret;exact ⟨by first | rfl | (simp; done) | (simp [*]; done), by repeat (first | exact Drawn0.refl _ | apply Drawn0.step)⟩

/-! ### spec_syTried: function 154 -/
def spec_syTried.f (k : Nat) (a0_0 : Int) (a0_1 : Int) (l0_2 : List (S27)) (l0_3 : List Int) (l0_4 : List Int) : Option (Int) := (spec_syPower.f k (wrap64 ((l0_2.length : Int) + 1)) (wrap64 (a0_0 * a0_1))).bind fun t149 => (some t149)
theorem spec_syTried.calls (k : Nat) (a0_0 : Int) (a0_1 : Int) (A0_2 : Option Addr) (c0_2 : Nat) (l0_2 : List (S27)) (A0_3 : Option Addr) (c0_3 : Nat) (l0_3 : List Int) (A0_4 : Option Addr) (c0_4 : Nat) (l0_4 : List Int) (r : Int) (w : World) (hr0_2 : Kd.C k27 w A0_2 l0_2.length l0_2) (hc0_2 : l0_2.length ≤ c0_2) (hr0_3 : Kd.C (Kd.int .i64) w A0_3 l0_3.length l0_3) (hc0_3 : l0_3.length ≤ c0_3) (hr0_4 : Kd.C (Kd.int .i64) w A0_4 l0_4.length l0_4) (hc0_4 : l0_4.length ≤ c0_4) (h : spec_syTried.f k a0_0 a0_1 l0_2 l0_3 l0_4 = some r) :
    Calls Try.prog 154 #[.agg #[.int .i64 a0_0, .int .i64 a0_1, .slice A0_2 l0_2.length c0_2, .slice A0_3 l0_3.length c0_3, .slice A0_4 l0_4.length c0_4]] w fun e w' => e = .returned (.int .i64 r) ∧ Below w.heap.size w w' := by
 have S := St.init (w := w) (dc k27_heap at27 hr0_2 hc0_2 (dc (Kd.heap_int .i64) (atI .i64) hr0_3 hc0_3 (dc (Kd.heap_int .i64) (atI .i64) hr0_4 hc0_4 dn)))
 clear hr0_2 hc0_2 hr0_3 hc0_3 hr0_4 hc0_4
 have F := S.fc
 have H := h; clear h; unfold spec_syTried.f at H
 replace H := Option.bind_eq_some_iff.mp H; obtain ⟨t149, A2, H⟩ := H; (try dsimp only at H)
 obtain rfl := Option.some.inj H
 go_enter Try.func154, Try.ntmps154
 go_wp2_with (first | ((with_reducible refine gd 1 rfl (L ?_)); refine bo 1 (.agg #[_, _, _, _, _]) S ?_; clear S F; intro gb148 W S; have F := S.fc) | ((with_reducible refine gate_callee (f := 177) rfl (L ?_)); refine cl (some 12) Try.func177 (spec_syPower.calls _ _ _ _ _ A2) (hargs := by (simp only [ma_, mb_, mc_, F] <;> rfl)) (h := ?_); rintro e W ⟨rfl, hb⟩; refine ⟨_, rfl, ?_⟩; replace S := S.gw hb; clear F hb; have F := S.fc))
 go_ret
 exact ⟨(by first | rfl | (simp [e0_, e1_] <;> rfl) | (simp [*, e0_, e1_] <;> rfl)), S.below⟩

/-! ### spec_l1All: function 164 -/
def spec_l1All.l0 : Nat → Int → Int → List Int → Int → Int → Option (Bool)
 | 0, _, _, _, _, _ => none
 | k + 1, x1, x2, x9, x10, x11 => if x11 < x10 then (if 0 ≤ x11 then (if x11 < (x9.length : Int) then ((spec_l1In.f (rd x9 x11) x1 x2).bind fun t151 => (if t151 = true then (spec_l1All.l0 k x1 x2 x9 x10 (wrap64 (x11 + 1))) else (some false))) else (none)) else (none)) else (some true)
def spec_l1All.f (k : Nat) (l0 : List Int) (a1 : Int) (a2 : Int) : Option (Bool) := spec_l1All.l0 k a1 a2 l0 (l0.length : Int) 0
theorem spec_l1All.calls (k : Nat) (A0 : Option Addr) (c0 : Nat) (l0 : List Int) (a1 : Int) (a2 : Int) (r : Bool) (w : World) (hr0 : Kd.C (Kd.int .i64) w A0 l0.length l0) (hc0 : l0.length ≤ c0) (h : spec_l1All.f k l0 a1 a2 = some r) :
  Calls Try.prog 164 #[.slice A0 l0.length c0, .int .i64 a1, .int .i64 a2] w fun e w' => e = .returned (.bool r) ∧ Drawn0 w w' := by
 have HR0 := Aside0.mk hr0;have HC0 := Aside0.mk hc0;clear hr0 hc0;have H : (spec_l1All.l0 k a1 a2 l0 (l0.length : Int) 0) = some r := h;clear h;have H' := Aside0.mk H;clear H;go_enter Try.func164, Try.ntmps164;go_wp2;go_loopg [11] k (fun kq v11 w' => ∃ (x11_1 : Int), v11 = .int .i64 x11_1 ∧ Aside0 (spec_l1All.l0 kq a1 a2 l0 (l0.length : Int) x11_1 = some r) ∧ Aside0 (kq ≤ k) ∧ Drawn0 w w')
 case atStart => exact ⟨(0), (by first | rfl | (simp; done) | (simp [*]; done)), H', ⟨Nat.le_refl _⟩, by repeat (first | exact Drawn0.refl _ | apply Drawn0.step)⟩
 case round =>
  clear H';(try clear c1);(try clear p2);obtain ⟨x11_1, rfl, HA, HK1, ⟨m1, rfl⟩⟩ := hrel;cases gk with
  | zero => exact absurd HA.out (by simp [spec_l1All.l0])
  | succ k1 =>
   have H := HA.out;clear HA;simp only [spec_l1All.l0] at H;by_cases c4 : x11_1 < (l0.length : Int)
   ·rw [if_pos c4] at H;have c4b0 : decide (x11_1 < (l0.length : Int)) = true := decide_eq_true c4;clear c4;replace H := np_ H;obtain ⟨c5, H⟩ := H;have c5b0 : decide (0 ≤ x11_1) = true := decide_eq_true c5;clear c5;replace H := np_ H;obtain ⟨c6, H⟩ := H;have c6b0 : decide (x11_1 < (l0.length : Int)) = true := decide_eq_true c6;clear c6;replace H := Option.bind_eq_some_iff.mp H;obtain ⟨t151, A70, H⟩ := H;(try dsimp only at H)
    have A7 := Aside0.mk A70;clear A70;by_cases c8 : t151 = true
    ·subst c8;have H1 : (spec_l1All.l0 k1 a1 a2 l0 (l0.length : Int) (wrap64 (x11_1 + 1))) = some r := by rw [if_pos rfl] at H; exact H
     clear H;have H := H1;clear H1;have H' := Aside0.mk H;clear H;have p150 : 0 ≤ (x11_1 : Int) := of_decide_eq_true (by first | (with_reducible assumption) | assumption);have q150 : x11_1 < (l0.length : Int) := of_decide_eq_true (by first | (with_reducible assumption) | assumption);obtain ⟨ad150, e150, hx150_0⟩ := Kd.at_int HR0.out x11_1 p150 q150;cases e150;replace p150 := eq_true p150;replace q150 := eq_true q150;go_wp2_with (first | ((with_reducible refine gate_callee (f := 96) rfl ?_); refine goesL_ (some 18) rfl rfl Try.func96 (by kernel_rfl) rfl #[.int .i64 (rd l0 x11_1), .int .i64 a1, .int .i64 a2] rfl (by (try simp only [ma_, mb_, mc_]); first | done | rfl | (simp only [List.length_drop, List.length_take]; rfl)) ?_; (with_reducible refine (spec_l1In.calls (rd l0 x11_1) a1 a2 true _ A7.out).mono ?_); rintro e w' ⟨rfl, ⟨nd, rfl⟩⟩; refine ⟨_, rfl, ?_⟩))
     go_roundg k1
     case measure => have := HK1.out; omega
     case rel => exact ⟨(wrap64 (x11_1 + 1)), (by first | rfl | (simp; done) | (simp [*]; done)), H', ⟨by have := HK1.out; omega⟩, by repeat (first | exact Drawn0.refl _ | apply Drawn0.step)⟩
    ·replace c8 := Bool.eq_false_iff.mpr c8;subst c8;have H1 : (some false) = some r := by rw [if_neg (show ¬ (false = true) by decide)] at H; exact H
     clear H;have H := H1;clear H1;obtain rfl := Option.some.inj H;have p150 : 0 ≤ (x11_1 : Int) := of_decide_eq_true (by first | (with_reducible assumption) | assumption);have q150 : x11_1 < (l0.length : Int) := of_decide_eq_true (by first | (with_reducible assumption) | assumption);obtain ⟨ad150, e150, hx150_0⟩ := Kd.at_int HR0.out x11_1 p150 q150;cases e150;replace p150 := eq_true p150;replace q150 := eq_true q150;go_wp2_with (first | ((with_reducible refine gate_callee (f := 96) rfl ?_); refine goesL_ (some 18) rfl rfl Try.func96 (by kernel_rfl) rfl #[.int .i64 (rd l0 x11_1), .int .i64 a1, .int .i64 a2] rfl (by (try simp only [ma_, mb_, mc_]); first | done | rfl | (simp only [List.length_drop, List.length_take]; rfl)) ?_; (with_reducible refine (spec_l1In.calls (rd l0 x11_1) a1 a2 false _ A7.out).mono ?_); rintro e w' ⟨rfl, ⟨nd, rfl⟩⟩; refine ⟨_, rfl, ?_⟩))
     go_ret;exact ⟨by first | rfl | (simp; done) | (simp [*]; done), by repeat (first | exact Drawn0.refl _ | apply Drawn0.step)⟩
   ·rw [if_neg c4] at H;have c4b0 : decide (x11_1 < (l0.length : Int)) = false := decide_eq_false c4;clear c4;obtain rfl := Option.some.inj H;go_wp2;go_ret;exact ⟨by first | rfl | (simp; done) | (simp [*]; done), by repeat (first | exact Drawn0.refl _ | apply Drawn0.step)⟩

/-! ### spec_syGood: function 127 -/
mutual
def spec_syGood.l0 : Nat → List (S27) → Int → Int → Int → Int → List (S27) → List Int → List Int → Option (Bool)
 | 0, _, _, _, _, _, _, _, _ => none
 | k + 1, x8, x9, x10, x153000, x153001, x153002, x153003, x153004 => if x10 < x9 then (if 0 ≤ x10 then (if x10 < (x8.length : Int) then ((spec_paGood.f ((rd_T27 x8 x10).f0) ((rd_T27 x8 x10).f1)).bind fun t155 => (if t155 = true then (spec_syGood.j1 k x10 x8 x9 x10 (((rd_T27 x8 x10).f0) == 0) x153000 x153001 x153002 x153003 x153004 ((rd_T27 x8 x10).f0) ((rd_T27 x8 x10).f1)) else (spec_syGood.j1 k x10 x8 x9 x10 true x153000 x153001 x153002 x153003 x153004 ((rd_T27 x8 x10).f0) ((rd_T27 x8 x10).f1)))) else (none)) else (none)) else ((spec_l1In.f x153000 1 4).bind fun t162 => (if t162 = true then ((spec_l1In.f x153001 1 4).bind fun t163 => (if t163 = true then ((spec_l1In.f (x153002.length : Int) 1 6).bind fun t164 => (if t164 = true then ((spec_l1In.f (x153003.length : Int) 1 8).bind fun t165 => (if t165 = true then (spec_syGood.j3 k ((x153004.length : Int) != (x153003.length : Int)) x153000 x153001 x153002 x153003 x153004) else (spec_syGood.j3 k true x153000 x153001 x153002 x153003 x153004))) else (spec_syGood.j3 k true x153000 x153001 x153002 x153003 x153004))) else (spec_syGood.j3 k true x153000 x153001 x153002 x153003 x153004))) else (spec_syGood.j3 k true x153000 x153001 x153002 x153003 x153004)))
def spec_syGood.j1 : Nat → Int → List (S27) → Int → Int → Bool → Int → Int → List (S27) → List Int → List Int → Int → Int → Option (Bool)
 | 0, _, _, _, _, _, _, _, _, _, _, _, _ => none
 | k + 1, x3, x8, x9, x10, x22, x153000, x153001, x153002, x153003, x153004, x155000, x155001 => if x22 = true then (some false) else (if 0 ≤ x3 then (if x3 ≤ (x153002.length : Int) then ((some (x153002.take (x3 : Int).toNat : List (S27))).bind fun y156 => (spec_syGood.l1 k x8 x9 x10 y156 (y156.length : Int) 0 x153000 x153001 x153002 x153003 x153004 x155000 x155001)) else (none)) else (none))
def spec_syGood.l1 : Nat → List (S27) → Int → Int → List (S27) → Int → Int → Int → Int → List (S27) → List Int → List Int → Int → Int → Option (Bool)
 | 0, _, _, _, _, _, _, _, _, _, _, _, _, _ => none
 | k + 1, x8, x9, x10, x26, x27, x28, x153000, x153001, x153002, x153003, x153004, x155000, x155001 => if x28 < x27 then (if 0 ≤ x28 then (if x28 < (x26.length : Int) then (if (x155000 == ((rd_T27 x26 x28).f0) && (x155001 == ((rd_T27 x26 x28).f1))) = true then (some false) else (spec_syGood.l1 k x8 x9 x10 x26 x27 (wrap64 (x28 + 1)) x153000 x153001 x153002 x153003 x153004 x155000 x155001)) else (none)) else (none)) else (spec_syGood.l0 k x8 x9 (wrap64 (x10 + 1)) x153000 x153001 x153002 x153003 x153004)
def spec_syGood.j3 : Nat → Bool → Int → Int → List (S27) → List Int → List Int → Option (Bool)
 | 0, _, _, _, _, _, _ => none
 | k + 1, x69, x153000, x153001, x153002, x153003, x153004 => if x69 = true then (some false) else ((spec_l1All.f k x153003 0 (wrap64 (x153001 - 1))).bind fun t166 => (if t166 = true then ((spec_l1All.f k x153004 0 (wrap64 (x153001 + 1))).bind fun t167 => (if t167 = true then ((spec_syTried.f k x153000 x153001 x153002 x153003 x153004).bind fun t168 => (some (decide (t168 ≤ 7000)))) else (some false))) else (some false)))
end
def spec_syGood.f (k : Nat) (a0_0 : Int) (a0_1 : Int) (l0_2 : List (S27)) (l0_3 : List Int) (l0_4 : List Int) : Option (Bool) := spec_syGood.l0 k l0_2 (l0_2.length : Int) 0 a0_0 a0_1 l0_2 l0_3 l0_4
theorem spec_syGood.calls (k : Nat) (a0_0 : Int) (a0_1 : Int) (A0_2 : Option Addr) (c0_2 : Nat) (l0_2 : List (S27)) (A0_3 : Option Addr) (c0_3 : Nat) (l0_3 : List Int) (A0_4 : Option Addr) (c0_4 : Nat) (l0_4 : List Int) (r : Bool) (w : World) (hr0_2 : Kd.C k27 w A0_2 l0_2.length l0_2) (hc0_2 : l0_2.length ≤ c0_2) (hr0_3 : Kd.C (Kd.int .i64) w A0_3 l0_3.length l0_3) (hc0_3 : l0_3.length ≤ c0_3) (hr0_4 : Kd.C (Kd.int .i64) w A0_4 l0_4.length l0_4) (hc0_4 : l0_4.length ≤ c0_4) (h : spec_syGood.f k a0_0 a0_1 l0_2 l0_3 l0_4 = some r) :
  Calls Try.prog 127 #[.agg #[.int .i64 a0_0, .int .i64 a0_1, .slice A0_2 l0_2.length c0_2, .slice A0_3 l0_3.length c0_3, .slice A0_4 l0_4.length c0_4]] w fun e w' => e = .returned (.bool r) ∧ Below w.heap.size w w' := by
 have HR0_2 := Aside0.mk hr0_2;have HC0_2 := Aside0.mk hc0_2;clear hr0_2 hc0_2;have HR0_3 := Aside0.mk hr0_3;have HC0_3 := Aside0.mk hc0_3;clear hr0_3 hc0_3;have HR0_4 := Aside0.mk hr0_4;have HC0_4 := Aside0.mk hc0_4;clear hr0_4 hc0_4;have HB := Aside0.mk (Below.refl w.heap.size w);have H : (spec_syGood.l0 k l0_2 (l0_2.length : Int) 0 a0_0 a0_1 l0_2 l0_3 l0_4) = some r := h;clear h;have H' := Aside0.mk H;clear H;go_enter Try.func127, Try.ntmps127;go_wp2_with (first | ((with_reducible refine gate_dst (N := 1) rfl ?_); refine box_event ?hg (N := 1) ?hd (cs := #[.int .i64 a0_0, .int .i64 a0_1, .slice A0_2 l0_2.length c0_2, .slice A0_3 l0_3.length c0_3, .slice A0_4 l0_4.length c0_4]) (t := 66) ?hr ?_; (case hd => rfl); (case hg => rfl); (case hr => first | (go_simp; done) | (go_simp; rfl)); intro gb152 hg w2 hbox hb; refine ev4 (bs HB hb) (hbox) (gle hg HB) (gle hg HB) ?_; clear HB; intro HB BK152 GW152 GE152; clear hb hbox hg; obtain ⟨hcz3_0, hcz3_1, hcz3_2, hcz3_3, hcz3_4, hfz3_0, hfz3_1, hfz3_2, hfz3_3, hfz3_4⟩ := bt5 BK152))
 go_loopg [10] k (fun kq v10 w' => ∃ (x10_1 : Int), v10 = .int .i64 x10_1 ∧ Aside0 (spec_syGood.l0 kq l0_2 (l0_2.length : Int) x10_1 a0_0 a0_1 l0_2 l0_3 l0_4 = some r) ∧ Aside0 (kq ≤ k) ∧ Aside0 (w'.heap[gb152]? = some (.cells #[.int .i64 a0_0, .int .i64 a0_1, (.slice A0_2 l0_2.length c0_2), (.slice A0_3 l0_3.length c0_3), (.slice A0_4 l0_4.length c0_4)] 66 (0, 0))) ∧ Aside0 (Below w.heap.size w w'))
 case atStart => exact ⟨(0), (by first | rfl | (simp; done) | (simp [*]; done)), H', ⟨Nat.le_refl _⟩, ⟨km_ BK152⟩, ⟨bm HB⟩⟩
 case round =>
  clear H';(try clear c1);(try clear p2);(try clear hcz3_0);(try clear hcz3_1);(try clear hcz3_2);(try clear hcz3_3);(try clear hcz3_4);(try clear hfz3_0);(try clear hfz3_1);(try clear hfz3_2);(try clear hfz3_3);(try clear hfz3_4);obtain ⟨x10_1, rfl, HA, HK1, BK152, HB⟩ := hrel;cases gk with
  | zero => exact absurd HA.out (by simp [spec_syGood.l0])
  | succ k1 =>
   have H := HA.out;clear HA;simp only [spec_syGood.l0] at H;by_cases c4 : x10_1 < (l0_2.length : Int)
   ·rw [if_pos c4] at H;have c4b0 : decide (x10_1 < (l0_2.length : Int)) = true := decide_eq_true c4;clear c4;replace H := np_ H;obtain ⟨c5, H⟩ := H;have c5b0 : decide (0 ≤ x10_1) = true := decide_eq_true c5;clear c5;replace H := np_ H;obtain ⟨c6, H⟩ := H;have c6b0 : decide (x10_1 < (l0_2.length : Int)) = true := decide_eq_true c6;clear c6;have HC7 := Aside0.mk H;clear H;have p153 : 0 ≤ (x10_1 : Int) := of_decide_eq_true (by first | (with_reducible assumption) | assumption);have q153 : x10_1 < (l0_2.length : Int) := of_decide_eq_true (by first | (with_reducible assumption) | assumption);obtain ⟨ad153, e153, hx153_0, hx153_1⟩ := at_T27 HR0_2.out x10_1 p153 q153;cases e153;replace hx153_0 := (HB.out.cell (World.block_lt_of_cell? w _ hx153_0)).trans hx153_0;replace hx153_1 := (HB.out.cell (World.block_lt_of_cell? w _ hx153_1)).trans hx153_1;replace p153 := eq_true p153;replace q153 := eq_true q153;go_upto_region 4 with (first | ((with_reducible refine gate_dst (N := 4) rfl ?_); refine box_event ?hg (N := 4) ?hd (cs := #[.int .i64 0, .int .i64 0]) (t := 27) ?hr ?_; (case hd => rfl); (case hg => rfl); (case hr => first | (go_simp; done) | (go_simp; rfl)); intro gb154 hg w8 hbox hb; refine ev7 (kb BK152 hb) (bs HB hb) (hbox) (gle hg HB) (gle hg HB) (gnf hg BK152) (gne hg BK152) ?_; clear BK152 HB; intro BK152 HB BK154 GW154 GE154 NB152_154 NB154_152; clear hb hbox hg; have hnb9 := NB154_152.out; have hnc9 := NB152_154.out; obtain ⟨hcz10_0, hcz10_1, hfz10_0, hfz10_1⟩ := bt2 BK154))
    (try simp only [Act.put, za_, zb_, zc_])
    go_cut [22] (fun v22 wc => ∃ (kq : Nat) (x22_6 : Bool), v22 = .bool x22_6 ∧ Aside0 (spec_syGood.j1 kq x10_1 l0_2 (l0_2.length : Int) x10_1 x22_6 a0_0 a0_1 l0_2 l0_3 l0_4 ((rd_T27 l0_2 x10_1).f0) ((rd_T27 l0_2 x10_1).f1) = some r) ∧ Aside0 (kq ≤ k1) ∧ Aside0 (wc.heap[gb152]? = some (.cells #[.int .i64 a0_0, .int .i64 a0_1, (.slice (some ad153) l0_2.length c0_2), (.slice A0_3 l0_3.length c0_3), (.slice A0_4 l0_4.length c0_4)] 66 (0, 0))) ∧ Aside0 (wc.heap[gb154]? = some (.cells #[.int .i64 ((rd_T27 l0_2 x10_1).f0), .int .i64 ((rd_T27 l0_2 x10_1).f1)] 27 (0, 0))) ∧ Aside0 (Below w.heap.size w wc))
    case first =>
     have H := HC7.out;clear HC7;replace H := Option.bind_eq_some_iff.mp H;obtain ⟨t155, A110, H⟩ := H;(try dsimp only at H)
     have A11 := Aside0.mk A110;clear A110;by_cases c12 : t155 = true
     ·subst c12;have H1 : (spec_syGood.j1 k1 x10_1 l0_2 (l0_2.length : Int) x10_1 (((rd_T27 l0_2 x10_1).f0) == 0) a0_0 a0_1 l0_2 l0_3 l0_4 ((rd_T27 l0_2 x10_1).f0) ((rd_T27 l0_2 x10_1).f1)) = some r := by rw [if_pos rfl] at H; exact H
      clear H;have H := H1;clear H1;have H' := Aside0.mk H;clear H;have hnb13 := NB154_152.out;have hnc13 := NB152_154.out;obtain ⟨hcz14_0, hcz14_1, hfz14_0, hfz14_1⟩ := bt2 BK154;go_wp2_with (first | ((with_reducible refine gate_callee (f := 82) rfl ?_); refine goesL_ (some 16) rfl rfl Try.func82 (by kernel_rfl) rfl #[.agg #[.int .i64 ((rd_T27 l0_2 x10_1).f0), .int .i64 ((rd_T27 l0_2 x10_1).f1)]] rfl (by (try simp only [ma_, mb_, mc_]); first | done | rfl | (simp only [List.length_drop, List.length_take]; rfl)) ?_; (with_reducible refine (spec_paGood.calls ((rd_T27 l0_2 x10_1).f0) ((rd_T27 l0_2 x10_1).f1) true _ A11.out).mono ?_); rintro e w15 ⟨rfl, hb⟩; refine ⟨_, rfl, ?_⟩; refine ev3 (blk_below (g := gb152) (o := .cells #[.int .i64 a0_0, .int .i64 a0_1, .slice (some ad153) l0_2.length c0_2, .slice A0_3 l0_3.length c0_3, .slice A0_4 l0_4.length c0_4] 66 (0, 0)) (fp BK152 rfl) hb) (blk_below (g := gb154) (o := .cells #[.int .i64 ((rd_T27 l0_2 x10_1).f0), .int .i64 ((rd_T27 l0_2 x10_1).f1)] 27 (0, 0)) (fp BK154 rfl) hb) (bs HB hb) ?_; clear BK152 BK154 HB; intro BK152 BK154 HB; (try clear hb); (try clear hb2); (try clear hk); (try clear hi); obtain ⟨hcz16_0, hcz16_1, hfz16_0, hfz16_1⟩ := bt2 BK154))
      go_meet
      case rel => exact ⟨_, ((((rd_T27 l0_2 x10_1).f0) == 0)), (by first | rfl | (simp; done) | (simp [*]; done)), H', ⟨by have := HK1.out; first | omega | exact Nat.le_refl _⟩, ⟨km_ BK152⟩, ⟨km_ BK154⟩, ⟨bm HB⟩⟩
     ·replace c12 := Bool.eq_false_iff.mpr c12;subst c12;have H1 : (spec_syGood.j1 k1 x10_1 l0_2 (l0_2.length : Int) x10_1 true a0_0 a0_1 l0_2 l0_3 l0_4 ((rd_T27 l0_2 x10_1).f0) ((rd_T27 l0_2 x10_1).f1)) = some r := by rw [if_neg (show ¬ (false = true) by decide)] at H; exact H
      clear H;have H := H1;clear H1;have H' := Aside0.mk H;clear H;have hnb17 := NB154_152.out;have hnc17 := NB152_154.out;obtain ⟨hcz18_0, hcz18_1, hfz18_0, hfz18_1⟩ := bt2 BK154;go_wp2_with (first | ((with_reducible refine gate_callee (f := 82) rfl ?_); refine goesL_ (some 16) rfl rfl Try.func82 (by kernel_rfl) rfl #[.agg #[.int .i64 ((rd_T27 l0_2 x10_1).f0), .int .i64 ((rd_T27 l0_2 x10_1).f1)]] rfl (by (try simp only [ma_, mb_, mc_]); first | done | rfl | (simp only [List.length_drop, List.length_take]; rfl)) ?_; (with_reducible refine (spec_paGood.calls ((rd_T27 l0_2 x10_1).f0) ((rd_T27 l0_2 x10_1).f1) false _ A11.out).mono ?_); rintro e w19 ⟨rfl, hb⟩; refine ⟨_, rfl, ?_⟩; refine ev3 (blk_below (g := gb152) (o := .cells #[.int .i64 a0_0, .int .i64 a0_1, .slice (some ad153) l0_2.length c0_2, .slice A0_3 l0_3.length c0_3, .slice A0_4 l0_4.length c0_4] 66 (0, 0)) (fp BK152 rfl) hb) (blk_below (g := gb154) (o := .cells #[.int .i64 ((rd_T27 l0_2 x10_1).f0), .int .i64 ((rd_T27 l0_2 x10_1).f1)] 27 (0, 0)) (fp BK154 rfl) hb) (bs HB hb) ?_; clear BK152 BK154 HB; intro BK152 BK154 HB; (try clear hb); (try clear hb2); (try clear hk); (try clear hi)))
      go_meet
      case rel => exact ⟨_, (true), (by first | rfl | (simp; done) | (simp [*]; done)), H', ⟨by have := HK1.out; first | omega | exact Nat.le_refl _⟩, ⟨km_ BK152⟩, ⟨km_ BK154⟩, ⟨bm HB⟩⟩
    case rest =>
     clear HC7;(try clear c1);(try clear p1);(try clear q1);(try clear hx1);(try clear p2);(try clear c4);(try clear c4b0);(try clear c5);(try clear c5b0);(try clear c6);(try clear c6b0);(try clear c9);(try clear c12);(try clear p15);(try clear q15);(try clear hx15);(try clear hcz10_0);(try clear hcz10_1);(try clear hcz3_0);(try clear hcz3_1);(try clear hcz3_2);(try clear hcz3_3);(try clear hcz3_4);(try clear hfz10_0);(try clear hfz10_1);(try clear hfz3_0);(try clear hfz3_1);(try clear hfz3_2);(try clear hfz3_3);(try clear hfz3_4);(try clear hx153_0);(try clear hx153_1);(try clear p153);(try clear p2);(try clear q153);obtain ⟨kq, x22_6, rfl, HA, HJ6, BK152, BK154, HB⟩ := hcut;cases kq with
     | zero => exact absurd HA.out (by simp [spec_syGood.j1])
     | succ kj6 =>
      have H := HA.out;clear HA;simp only [spec_syGood.j1] at H;by_cases c20 : x22_6 = true
      ·subst c20;have H1 : (some false) = some r := by rw [if_pos rfl] at H; exact H
       clear H;have H := H1;clear H1;obtain rfl := Option.some.inj H;go_wp2;go_ret;exact ⟨by first | rfl | (simp [e0_, e1_] <;> rfl) | (simp [*, e0_, e1_] <;> rfl), bm HB⟩
      ·replace c20 := Bool.eq_false_iff.mpr c20;subst c20;have H1 : (if 0 ≤ x10_1 then (if x10_1 ≤ (l0_2.length : Int) then ((some (l0_2.take (x10_1 : Int).toNat : List (S27))).bind fun y156 => (spec_syGood.l1 kj6 l0_2 (l0_2.length : Int) x10_1 y156 (y156.length : Int) 0 a0_0 a0_1 l0_2 l0_3 l0_4 ((rd_T27 l0_2 x10_1).f0) ((rd_T27 l0_2 x10_1).f1))) else (none)) else (none)) = some r := by rw [if_neg (show ¬ (false = true) by decide)] at H; exact H
       clear H;have H := H1;clear H1;replace H := np_ H;obtain ⟨c21, H⟩ := H;have c21b0 := eq_true c21;have c21b1 : decide (0 ≤ x10_1) = true := decide_eq_true c21;clear c21;replace H := np_ H;obtain ⟨c22, H⟩ := H;have c22b0 := eq_true c22;have c22b1 : decide (x10_1 ≤ (l0_2.length : Int)) = true := decide_eq_true c22;clear c22;obtain ⟨y156, hy156⟩ : ∃ y_ : List (S27), y_ = (l0_2.take (x10_1 : Int).toNat) := ⟨_, rfl⟩
       replace H : (spec_syGood.l1 kj6 l0_2 (l0_2.length : Int) x10_1 y156 (y156.length : Int) 0 a0_0 a0_1 l0_2 l0_3 l0_4 ((rd_T27 l0_2 x10_1).f0) ((rd_T27 l0_2 x10_1).f1)) = some r := by first | (rw [hy156]; with_reducible exact H) | (have H2_ := (Option.bind_some _ _).symm.trans H; rw [hy156]; with_reducible exact H2_) | (have H2_ := (Option.bind_some _ _).symm.trans H; with_reducible exact H2_) | with_reducible exact H | (rw [hy156]; exact H) | exact H
       have Ny156 := Aside0.mk hy156;clear hy156;have H' := Aside0.mk H;clear H;have hnb23 := NB152_154.out;have hnc23 := NB154_152.out;obtain ⟨hcz24_0, hcz24_1, hcz24_2, hcz24_3, hcz24_4, hfz24_0, hfz24_1, hfz24_2, hfz24_3, hfz24_4⟩ := bt5 BK152;have q25 : (x10_1 : Int) ≤ ((l0_2.length : Int) : Int) := of_decide_eq_true (by first | (with_reducible assumption) | assumption);obtain ⟨i025, hi025, _, hsz25, _⟩ := info_parts info27;have hroom25 : l0_2.length ≤ c0_2 := HC0_2.out;have hC25 : Kd.C k27 _ (some ad153) l0_2.length l0_2 := HR0_2.out;have hcut25 := cut_to (P := Try.prog) 23 27 .i64 Try.underlying23 hi025 (some ad153) l0_2.length c0_2 x10_1 (of_decide_eq_true (by first | (with_reducible assumption) | assumption)) q25 hroom25;have hr25 := Kd.C_take (m := (x10_1 : Int).toNat) hC25 (by omega);have hy25 : y156.length = (x10_1 : Int).toNat := (by rw [Ny156.out, List.length_take]; omega)
       rw [← Ny156.out] at hr25;rw [← hy25] at hcut25;have HR159 := Aside0.mk hr25;have HC159 := Aside0.mk (show y156.length ≤ c0_2 from by omega);clear hr25 hC25 hroom25 hi025 hsz25;have KY25 := Aside0.mk hy25;clear hy25;replace q25 := eq_true q25;go_wp2;go_loopg [28] kj6 (fun kq v28 w' => ∃ (x28_3 : Int), v28 = .int .i64 x28_3 ∧ Aside0 (spec_syGood.l1 kq l0_2 (l0_2.length : Int) x10_1 y156 (y156.length : Int) x28_3 a0_0 a0_1 l0_2 l0_3 l0_4 ((rd_T27 l0_2 x10_1).f0) ((rd_T27 l0_2 x10_1).f1) = some r) ∧ Aside0 (kq ≤ kj6) ∧ Aside0 (w'.heap[gb152]? = some (.cells #[.int .i64 a0_0, .int .i64 a0_1, (.slice (some ad153) l0_2.length c0_2), (.slice A0_3 l0_3.length c0_3), (.slice A0_4 l0_4.length c0_4)] 66 (0, 0))) ∧ Aside0 (w'.heap[gb154]? = some (.cells #[.int .i64 ((rd_T27 l0_2 x10_1).f0), .int .i64 ((rd_T27 l0_2 x10_1).f1)] 27 (0, 0))) ∧ Aside0 (Below w.heap.size w w'))
       case atStart => exact ⟨(0), (by first | rfl | (simp; done) | (simp [*]; done)), H', ⟨Nat.le_refl _⟩, ⟨km_ BK152⟩, ⟨km_ BK154⟩, ⟨bm HB⟩⟩
       case round =>
        clear H';(try clear c1);(try clear p1);(try clear q1);(try clear hx1);(try clear c2);(try clear p2);(try clear q2);(try clear c4);(try clear c4b0);(try clear c5);(try clear c5b0);(try clear c6);(try clear c6b0);(try clear c9);(try clear c12);(try clear p15);(try clear q15);(try clear hx15);(try clear c20);(try clear c21);(try clear c21b0);(try clear c21b1);(try clear c22);(try clear c22b0);(try clear c22b1);(try clear c23);(try clear q25);(try clear hcz10_0);(try clear hcz10_1);(try clear hcz24_0);(try clear hcz24_1);(try clear hcz24_2);(try clear hcz24_3);(try clear hcz24_4);(try clear hcz3_0);(try clear hcz3_1);(try clear hcz3_2);(try clear hcz3_3);(try clear hcz3_4);(try clear hfz10_0);(try clear hfz10_1);(try clear hfz24_0);(try clear hfz24_1);(try clear hfz24_2);(try clear hfz24_3);(try clear hfz24_4);(try clear hfz3_0);(try clear hfz3_1);(try clear hfz3_2);(try clear hfz3_3);(try clear hfz3_4);(try clear hx153_0);(try clear hx153_1);(try clear p1);(try clear p15);(try clear p153);(try clear p2);(try clear q1);(try clear q15);(try clear q153);(try clear q25);obtain ⟨x28_3, rfl, HA, HK3, BK152, BK154, HB⟩ := hrel;cases gk with
        | zero => exact absurd HA.out (by simp [spec_syGood.l1])
        | succ k3 =>
         have H := HA.out;clear HA;simp only [spec_syGood.l1] at H;by_cases c26 : x28_3 < (y156.length : Int)
         ·rw [if_pos c26] at H;have c26b0 : decide (x28_3 < (y156.length : Int)) = true := decide_eq_true c26;clear c26;replace H := np_ H;obtain ⟨c27, H⟩ := H;have c27b0 : decide (0 ≤ x28_3) = true := decide_eq_true c27;clear c27;replace H := np_ H;obtain ⟨c28, H⟩ := H;have c28b0 : decide (x28_3 < (y156.length : Int)) = true := decide_eq_true c28;clear c28;by_cases c29 : (((rd_T27 l0_2 x10_1).f0) == ((rd_T27 y156 x28_3).f0) && (((rd_T27 l0_2 x10_1).f1) == ((rd_T27 y156 x28_3).f1))) = true
          ·rw [if_pos c29] at H;have c29b0 : (((rd_T27 l0_2 x10_1).f0) == ((rd_T27 y156 x28_3).f0) && (((rd_T27 l0_2 x10_1).f1) == ((rd_T27 y156 x28_3).f1))) = true := c29;(try (have c29b1 : decide (((rd_T27 l0_2 x10_1).f0) = ((rd_T27 y156 x28_3).f0) && (((rd_T27 l0_2 x10_1).f1) == ((rd_T27 y156 x28_3).f1))) = true := by simpa using c29))
           (try (have c29b2 : (((rd_T27 l0_2 x10_1).f0) == ((rd_T27 y156 x28_3).f0) && (((rd_T27 l0_2 x10_1).f1) == ((rd_T27 y156 x28_3).f1))) = true := by simpa using c29))
           clear c29;obtain rfl := Option.some.inj H;have p160 : 0 ≤ (x28_3 : Int) := of_decide_eq_true (by first | (with_reducible assumption) | assumption);have q160 : x28_3 < (y156.length : Int) := of_decide_eq_true (by first | (with_reducible assumption) | assumption);obtain ⟨ad160, e160, hx160_0, hx160_1⟩ := at_T27 HR159.out x28_3 p160 q160;obtain rfl : ad153 = ad160 := (by injection e160)
           replace hx160_0 := (HB.out.cell (World.block_lt_of_cell? w _ hx160_0)).trans hx160_0;replace hx160_1 := (HB.out.cell (World.block_lt_of_cell? w _ hx160_1)).trans hx160_1;replace p160 := eq_true p160;replace q160 := eq_true q160;go_wp2_with (first | ((with_reducible refine gate_dst (N := 6) rfl ?_); refine box_event ?hg (N := 6) ?hd (cs := #[.int .i64 0, .int .i64 0]) (t := 27) ?hr ?_; (case hd => rfl); (case hg => rfl); (case hr => first | (go_simp; done) | (go_simp; rfl)); intro gb161 hg w30 hbox hb; refine ev10 (kb BK152 hb) (kb BK154 hb) (bs HB hb) (hbox) (gle hg HB) (gle hg HB) (gnf hg BK152) (gne hg BK152) (gnf hg BK154) (gne hg BK154) ?_; clear BK152 BK154 HB; intro BK152 BK154 HB BK161 GW161 GE161 NB152_161 NB161_152 NB154_161 NB161_154; clear hb hbox hg; have hnb31 := NB161_152.out; have hnc31 := NB152_161.out; have hnb32 := NB161_154.out; have hnc32 := NB154_161.out; obtain ⟨hcz33_0, hcz33_1, hfz33_0, hfz33_1⟩ := bt2 BK161; have hnb34 := NB154_152.out; have hnc34 := NB152_154.out; obtain ⟨hcz35_0, hcz35_1, hfz35_0, hfz35_1⟩ := bt2 BK154))
           go_ret;exact ⟨by first | rfl | (simp [e0_, e1_] <;> rfl) | (simp [*, e0_, e1_] <;> rfl), bm HB⟩
          ·rw [if_neg c29] at H;have c29b0 : (((rd_T27 l0_2 x10_1).f0) == ((rd_T27 y156 x28_3).f0) && (((rd_T27 l0_2 x10_1).f1) == ((rd_T27 y156 x28_3).f1))) = false := by simpa using c29
           (try (have c29b1 : decide (((rd_T27 l0_2 x10_1).f0) = ((rd_T27 y156 x28_3).f0) && (((rd_T27 l0_2 x10_1).f1) == ((rd_T27 y156 x28_3).f1))) = false := by simpa using c29))
           (try (have c29b2 : (((rd_T27 l0_2 x10_1).f0) == ((rd_T27 y156 x28_3).f0) && (((rd_T27 l0_2 x10_1).f1) == ((rd_T27 y156 x28_3).f1))) = false := by simpa using c29))
           (try (have c29b3 : ¬ (((rd_T27 l0_2 x10_1).f0) = ((rd_T27 y156 x28_3).f0) && (((rd_T27 l0_2 x10_1).f1) == ((rd_T27 y156 x28_3).f1))) := by simpa using c29))
           clear c29;have H' := Aside0.mk H;clear H;have p160 : 0 ≤ (x28_3 : Int) := of_decide_eq_true (by first | (with_reducible assumption) | assumption);have q160 : x28_3 < (y156.length : Int) := of_decide_eq_true (by first | (with_reducible assumption) | assumption);obtain ⟨ad160, e160, hx160_0, hx160_1⟩ := at_T27 HR159.out x28_3 p160 q160;obtain rfl : ad153 = ad160 := (by injection e160)
           replace hx160_0 := (HB.out.cell (World.block_lt_of_cell? w _ hx160_0)).trans hx160_0;replace hx160_1 := (HB.out.cell (World.block_lt_of_cell? w _ hx160_1)).trans hx160_1;replace p160 := eq_true p160;replace q160 := eq_true q160;go_wp2_with (first | ((with_reducible refine gate_dst (N := 6) rfl ?_); refine box_event ?hg (N := 6) ?hd (cs := #[.int .i64 0, .int .i64 0]) (t := 27) ?hr ?_; (case hd => rfl); (case hg => rfl); (case hr => first | (go_simp; done) | (go_simp; rfl)); intro gb161 hg w36 hbox hb; refine ev10 (kb BK152 hb) (kb BK154 hb) (bs HB hb) (hbox) (gle hg HB) (gle hg HB) (gnf hg BK152) (gne hg BK152) (gnf hg BK154) (gne hg BK154) ?_; clear BK152 BK154 HB; intro BK152 BK154 HB BK161 GW161 GE161 NB152_161 NB161_152 NB154_161 NB161_154; clear hb hbox hg; have hnb37 := NB161_152.out; have hnc37 := NB152_161.out; have hnb38 := NB161_154.out; have hnc38 := NB154_161.out; obtain ⟨hcz39_0, hcz39_1, hfz39_0, hfz39_1⟩ := bt2 BK161; have hnb40 := NB154_152.out; have hnc40 := NB152_154.out; obtain ⟨hcz41_0, hcz41_1, hfz41_0, hfz41_1⟩ := bt2 BK154))
           go_roundg k3
           case measure => have := HK1.out; have := HJ6.out; have := HK3.out; omega
           case rel => exact ⟨(wrap64 (x28_3 + 1)), (by first | rfl | (simp; done) | (simp [*]; done)), H', ⟨by have := HK1.out; have := HJ6.out; have := HK3.out; omega⟩, ⟨fp BK152 rfl⟩, ⟨fp BK154 rfl⟩, ⟨bm HB⟩⟩
         ·rw [if_neg c26] at H;have c26b0 : decide (x28_3 < (y156.length : Int)) = false := decide_eq_false c26;clear c26;have H' := Aside0.mk H;clear H;go_wp2;go_roundg k3
          case measure => have := HK1.out; have := HJ6.out; have := HK3.out; omega
          case rel => exact ⟨(wrap64 (x10_1 + 1)), (by first | rfl | (simp; done) | (simp [*]; done)), H', ⟨by have := HK1.out; have := HJ6.out; have := HK3.out; omega⟩, ⟨km_ BK152⟩, ⟨bm HB⟩⟩
   ·rw [if_neg c4] at H;have c4b0 : decide (x10_1 < (l0_2.length : Int)) = false := decide_eq_false c4;clear c4;have HC42 := Aside0.mk H;clear H;go_upto_region 13 with (fail)
    go_cut [69] (fun v69 wc => ∃ (kq : Nat) (x69_41 : Bool), v69 = .bool x69_41 ∧ Aside0 (spec_syGood.j3 kq x69_41 a0_0 a0_1 l0_2 l0_3 l0_4 = some r) ∧ Aside0 (kq ≤ k1) ∧ Aside0 (wc.heap[gb152]? = some (.cells #[.int .i64 a0_0, .int .i64 a0_1, (.slice A0_2 l0_2.length c0_2), (.slice A0_3 l0_3.length c0_3), (.slice A0_4 l0_4.length c0_4)] 66 (0, 0))) ∧ Aside0 (Below w.heap.size w wc))
    case first =>
     have H := HC42.out;clear HC42;replace H := Option.bind_eq_some_iff.mp H;obtain ⟨t162, A430, H⟩ := H;(try dsimp only at H)
     have A43 := Aside0.mk A430;clear A430;by_cases c44 : t162 = true
     ·subst c44;have H1 : ((spec_l1In.f a0_1 1 4).bind fun t163 => (if t163 = true then ((spec_l1In.f (l0_2.length : Int) 1 6).bind fun t164 => (if t164 = true then ((spec_l1In.f (l0_3.length : Int) 1 8).bind fun t165 => (if t165 = true then (spec_syGood.j3 k1 ((l0_4.length : Int) != (l0_3.length : Int)) a0_0 a0_1 l0_2 l0_3 l0_4) else (spec_syGood.j3 k1 true a0_0 a0_1 l0_2 l0_3 l0_4))) else (spec_syGood.j3 k1 true a0_0 a0_1 l0_2 l0_3 l0_4))) else (spec_syGood.j3 k1 true a0_0 a0_1 l0_2 l0_3 l0_4))) = some r := by rw [if_pos rfl] at H; exact H
      clear H;have H := H1;clear H1;replace H := Option.bind_eq_some_iff.mp H;obtain ⟨t163, A450, H⟩ := H;(try dsimp only at H)
      have A45 := Aside0.mk A450;clear A450;by_cases c46 : t163 = true
      ·subst c46;have H1 : ((spec_l1In.f (l0_2.length : Int) 1 6).bind fun t164 => (if t164 = true then ((spec_l1In.f (l0_3.length : Int) 1 8).bind fun t165 => (if t165 = true then (spec_syGood.j3 k1 ((l0_4.length : Int) != (l0_3.length : Int)) a0_0 a0_1 l0_2 l0_3 l0_4) else (spec_syGood.j3 k1 true a0_0 a0_1 l0_2 l0_3 l0_4))) else (spec_syGood.j3 k1 true a0_0 a0_1 l0_2 l0_3 l0_4))) = some r := by rw [if_pos rfl] at H; exact H
       clear H;have H := H1;clear H1;replace H := Option.bind_eq_some_iff.mp H;obtain ⟨t164, A470, H⟩ := H;(try dsimp only at H)
       have A47 := Aside0.mk A470;clear A470;by_cases c48 : t164 = true
       ·subst c48;have H1 : ((spec_l1In.f (l0_3.length : Int) 1 8).bind fun t165 => (if t165 = true then (spec_syGood.j3 k1 ((l0_4.length : Int) != (l0_3.length : Int)) a0_0 a0_1 l0_2 l0_3 l0_4) else (spec_syGood.j3 k1 true a0_0 a0_1 l0_2 l0_3 l0_4))) = some r := by rw [if_pos rfl] at H; exact H
        clear H;have H := H1;clear H1;replace H := Option.bind_eq_some_iff.mp H;obtain ⟨t165, A490, H⟩ := H;(try dsimp only at H)
        have A49 := Aside0.mk A490;clear A490;by_cases c50 : t165 = true
        ·subst c50;have H1 : (spec_syGood.j3 k1 ((l0_4.length : Int) != (l0_3.length : Int)) a0_0 a0_1 l0_2 l0_3 l0_4) = some r := by rw [if_pos rfl] at H; exact H
         clear H;have H := H1;clear H1;have H' := Aside0.mk H;clear H;obtain ⟨hcz51_0, hcz51_1, hcz51_2, hcz51_3, hcz51_4, hfz51_0, hfz51_1, hfz51_2, hfz51_3, hfz51_4⟩ := bt5 BK152;go_wp2_with (first | ((with_reducible refine gate_callee (f := 96) rfl ?_); refine goesL_ (some 39) rfl rfl Try.func96 (by kernel_rfl) rfl #[.int .i64 a0_0, .int .i64 1, .int .i64 4] rfl (by (try simp only [ma_, mb_, mc_]); first | done | rfl | (simp only [List.length_drop, List.length_take]; rfl)) ?_; (with_reducible refine (spec_l1In.calls a0_0 1 4 true _ A43.out).mono ?_); rintro e w' ⟨rfl, ⟨nd, rfl⟩⟩; refine ⟨_, rfl, ?_⟩) | (go_at_call 96; (with_reducible refine (spec_l1In.calls a0_1 1 4 true _ A45.out).mono ?_); rintro e w' ⟨rfl, ⟨nd, rfl⟩⟩) | (go_at_call 96; (with_reducible refine (spec_l1In.calls (l0_2.length : Int) 1 6 true _ A47.out).mono ?_); rintro e w' ⟨rfl, ⟨nd, rfl⟩⟩) | (go_at_call 96; (with_reducible refine (spec_l1In.calls (l0_3.length : Int) 1 8 true _ A49.out).mono ?_); rintro e w' ⟨rfl, ⟨nd, rfl⟩⟩))
         go_meet
         case rel => exact ⟨_, (((l0_4.length : Int) != (l0_3.length : Int))), (by first | rfl | (simp; done) | (simp [*]; done)), H', ⟨by have := HK1.out; first | omega | exact Nat.le_refl _⟩, ⟨km_ BK152⟩, ⟨bm HB⟩⟩
        ·replace c50 := Bool.eq_false_iff.mpr c50;subst c50;have H1 : (spec_syGood.j3 k1 true a0_0 a0_1 l0_2 l0_3 l0_4) = some r := by rw [if_neg (show ¬ (false = true) by decide)] at H; exact H
         clear H;have H := H1;clear H1;have H' := Aside0.mk H;clear H;obtain ⟨hcz52_0, hcz52_1, hcz52_2, hcz52_3, hcz52_4, hfz52_0, hfz52_1, hfz52_2, hfz52_3, hfz52_4⟩ := bt5 BK152;go_wp2_with (first | ((with_reducible refine gate_callee (f := 96) rfl ?_); refine goesL_ (some 39) rfl rfl Try.func96 (by kernel_rfl) rfl #[.int .i64 a0_0, .int .i64 1, .int .i64 4] rfl (by (try simp only [ma_, mb_, mc_]); first | done | rfl | (simp only [List.length_drop, List.length_take]; rfl)) ?_; (with_reducible refine (spec_l1In.calls a0_0 1 4 true _ A43.out).mono ?_); rintro e w' ⟨rfl, ⟨nd, rfl⟩⟩; refine ⟨_, rfl, ?_⟩) | (go_at_call 96; (with_reducible refine (spec_l1In.calls a0_1 1 4 true _ A45.out).mono ?_); rintro e w' ⟨rfl, ⟨nd, rfl⟩⟩) | (go_at_call 96; (with_reducible refine (spec_l1In.calls (l0_2.length : Int) 1 6 true _ A47.out).mono ?_); rintro e w' ⟨rfl, ⟨nd, rfl⟩⟩) | (go_at_call 96; (with_reducible refine (spec_l1In.calls (l0_3.length : Int) 1 8 false _ A49.out).mono ?_); rintro e w' ⟨rfl, ⟨nd, rfl⟩⟩))
         go_meet
         case rel => exact ⟨_, (true), (by first | rfl | (simp; done) | (simp [*]; done)), H', ⟨by have := HK1.out; first | omega | exact Nat.le_refl _⟩, ⟨km_ BK152⟩, ⟨bm HB⟩⟩
       ·replace c48 := Bool.eq_false_iff.mpr c48;subst c48;have H1 : (spec_syGood.j3 k1 true a0_0 a0_1 l0_2 l0_3 l0_4) = some r := by rw [if_neg (show ¬ (false = true) by decide)] at H; exact H
        clear H;have H := H1;clear H1;have H' := Aside0.mk H;clear H;obtain ⟨hcz53_0, hcz53_1, hcz53_2, hcz53_3, hcz53_4, hfz53_0, hfz53_1, hfz53_2, hfz53_3, hfz53_4⟩ := bt5 BK152;go_wp2_with (first | ((with_reducible refine gate_callee (f := 96) rfl ?_); refine goesL_ (some 39) rfl rfl Try.func96 (by kernel_rfl) rfl #[.int .i64 a0_0, .int .i64 1, .int .i64 4] rfl (by (try simp only [ma_, mb_, mc_]); first | done | rfl | (simp only [List.length_drop, List.length_take]; rfl)) ?_; (with_reducible refine (spec_l1In.calls a0_0 1 4 true _ A43.out).mono ?_); rintro e w' ⟨rfl, ⟨nd, rfl⟩⟩; refine ⟨_, rfl, ?_⟩) | (go_at_call 96; (with_reducible refine (spec_l1In.calls a0_1 1 4 true _ A45.out).mono ?_); rintro e w' ⟨rfl, ⟨nd, rfl⟩⟩) | (go_at_call 96; (with_reducible refine (spec_l1In.calls (l0_2.length : Int) 1 6 false _ A47.out).mono ?_); rintro e w' ⟨rfl, ⟨nd, rfl⟩⟩))
        go_meet
        case rel => exact ⟨_, (true), (by first | rfl | (simp; done) | (simp [*]; done)), H', ⟨by have := HK1.out; first | omega | exact Nat.le_refl _⟩, ⟨km_ BK152⟩, ⟨bm HB⟩⟩
      ·replace c46 := Bool.eq_false_iff.mpr c46;subst c46;have H1 : (spec_syGood.j3 k1 true a0_0 a0_1 l0_2 l0_3 l0_4) = some r := by rw [if_neg (show ¬ (false = true) by decide)] at H; exact H
       clear H;have H := H1;clear H1;have H' := Aside0.mk H;clear H;obtain ⟨hcz54_0, hcz54_1, hcz54_2, hcz54_3, hcz54_4, hfz54_0, hfz54_1, hfz54_2, hfz54_3, hfz54_4⟩ := bt5 BK152;go_wp2_with (first | ((with_reducible refine gate_callee (f := 96) rfl ?_); refine goesL_ (some 39) rfl rfl Try.func96 (by kernel_rfl) rfl #[.int .i64 a0_0, .int .i64 1, .int .i64 4] rfl (by (try simp only [ma_, mb_, mc_]); first | done | rfl | (simp only [List.length_drop, List.length_take]; rfl)) ?_; (with_reducible refine (spec_l1In.calls a0_0 1 4 true _ A43.out).mono ?_); rintro e w' ⟨rfl, ⟨nd, rfl⟩⟩; refine ⟨_, rfl, ?_⟩) | (go_at_call 96; (with_reducible refine (spec_l1In.calls a0_1 1 4 false _ A45.out).mono ?_); rintro e w' ⟨rfl, ⟨nd, rfl⟩⟩))
       go_meet
       case rel => exact ⟨_, (true), (by first | rfl | (simp; done) | (simp [*]; done)), H', ⟨by have := HK1.out; first | omega | exact Nat.le_refl _⟩, ⟨km_ BK152⟩, ⟨bm HB⟩⟩
     ·replace c44 := Bool.eq_false_iff.mpr c44;subst c44;have H1 : (spec_syGood.j3 k1 true a0_0 a0_1 l0_2 l0_3 l0_4) = some r := by rw [if_neg (show ¬ (false = true) by decide)] at H; exact H
      clear H;have H := H1;clear H1;have H' := Aside0.mk H;clear H;obtain ⟨hcz55_0, hcz55_1, hcz55_2, hcz55_3, hcz55_4, hfz55_0, hfz55_1, hfz55_2, hfz55_3, hfz55_4⟩ := bt5 BK152;go_wp2_with (first | ((with_reducible refine gate_callee (f := 96) rfl ?_); refine goesL_ (some 39) rfl rfl Try.func96 (by kernel_rfl) rfl #[.int .i64 a0_0, .int .i64 1, .int .i64 4] rfl (by (try simp only [ma_, mb_, mc_]); first | done | rfl | (simp only [List.length_drop, List.length_take]; rfl)) ?_; (with_reducible refine (spec_l1In.calls a0_0 1 4 false _ A43.out).mono ?_); rintro e w' ⟨rfl, ⟨nd, rfl⟩⟩; refine ⟨_, rfl, ?_⟩))
      go_meet
      case rel => exact ⟨_, (true), (by first | rfl | (simp; done) | (simp [*]; done)), H', ⟨by have := HK1.out; first | omega | exact Nat.le_refl _⟩, ⟨km_ BK152⟩, ⟨bm HB⟩⟩
    case rest =>
     clear HC42;(try clear c1);(try clear p2);(try clear c4);(try clear c4b0);(try clear c12);(try clear hcz3_0);(try clear hcz3_1);(try clear hcz3_2);(try clear hcz3_3);(try clear hcz3_4);(try clear hfz3_0);(try clear hfz3_1);(try clear hfz3_2);(try clear hfz3_3);(try clear hfz3_4);(try clear p2);obtain ⟨kq, x69_41, rfl, HA, HJ41, BK152, HB⟩ := hcut;cases kq with
     | zero => exact absurd HA.out (by simp [spec_syGood.j3])
     | succ kj41 =>
      have H := HA.out;clear HA;simp only [spec_syGood.j3] at H;by_cases c56 : x69_41 = true
      ·subst c56;have H1 : (some false) = some r := by rw [if_pos rfl] at H; exact H
       clear H;have H := H1;clear H1;obtain rfl := Option.some.inj H;go_wp2;go_ret;exact ⟨by first | rfl | (simp [e0_, e1_] <;> rfl) | (simp [*, e0_, e1_] <;> rfl), bm HB⟩
      ·replace c56 := Bool.eq_false_iff.mpr c56;subst c56;have H1 : ((spec_l1All.f kj41 l0_3 0 (wrap64 (a0_1 - 1))).bind fun t166 => (if t166 = true then ((spec_l1All.f kj41 l0_4 0 (wrap64 (a0_1 + 1))).bind fun t167 => (if t167 = true then ((spec_syTried.f kj41 a0_0 a0_1 l0_2 l0_3 l0_4).bind fun t168 => (some (decide (t168 ≤ 7000)))) else (some false))) else (some false))) = some r := by rw [if_neg (show ¬ (false = true) by decide)] at H; exact H
       clear H;have H := H1;clear H1;replace H := Option.bind_eq_some_iff.mp H;obtain ⟨t166, A570, H⟩ := H;(try dsimp only at H)
       have A57 := Aside0.mk A570;clear A570;by_cases c58 : t166 = true
       ·subst c58;have H1 : ((spec_l1All.f kj41 l0_4 0 (wrap64 (a0_1 + 1))).bind fun t167 => (if t167 = true then ((spec_syTried.f kj41 a0_0 a0_1 l0_2 l0_3 l0_4).bind fun t168 => (some (decide (t168 ≤ 7000)))) else (some false))) = some r := by rw [if_pos rfl] at H; exact H
        clear H;have H := H1;clear H1;replace H := Option.bind_eq_some_iff.mp H;obtain ⟨t167, A590, H⟩ := H;(try dsimp only at H)
        have A59 := Aside0.mk A590;clear A590;by_cases c60 : t167 = true
        ·subst c60;have H1 : ((spec_syTried.f kj41 a0_0 a0_1 l0_2 l0_3 l0_4).bind fun t168 => (some (decide (t168 ≤ 7000)))) = some r := by rw [if_pos rfl] at H; exact H
         clear H;have H := H1;clear H1;replace H := Option.bind_eq_some_iff.mp H;obtain ⟨t168, A610, H⟩ := H;(try dsimp only at H)
         have A61 := Aside0.mk A610;clear A610;obtain rfl := Option.some.inj H;obtain ⟨hcz62_0, hcz62_1, hcz62_2, hcz62_3, hcz62_4, hfz62_0, hfz62_1, hfz62_2, hfz62_3, hfz62_4⟩ := bt5 BK152;go_wp2_with (first | ((with_reducible refine gate_callee (f := 164) rfl ?_); refine goesL_ (some 75) rfl rfl Try.func164 (by kernel_rfl) rfl #[.slice A0_3 l0_3.length c0_3, .int .i64 0, .int .i64 (wrap64 (a0_1 - 1))] rfl (by (try simp only [ma_, mb_, mc_]); first | done | rfl | (simp only [List.length_drop, List.length_take]; rfl)) ?_; (with_reducible refine (spec_l1All.calls kj41 _ _ l0_3 0 (wrap64 (a0_1 - 1)) true _ (Kd.C_mv (Kd.C_below HR0_3.out HB.out)) HC0_3.out A57.out).mono ?_); rintro e w' ⟨rfl, ⟨nd, rfl⟩⟩; refine ⟨_, rfl, ?_⟩) | (go_at_call 164; (with_reducible refine (spec_l1All.calls kj41 _ _ l0_4 0 (wrap64 (a0_1 + 1)) true _ (Kd.C_below HR0_4.out (bm HB)) HC0_4.out A59.out).mono ?_); rintro e w' ⟨rfl, ⟨nd, rfl⟩⟩) | (go_at_call 154; (with_reducible refine (spec_syTried.calls kj41 a0_0 a0_1 _ _ l0_2 _ _ l0_3 _ _ l0_4 t168 _ (Kd.C_below HR0_2.out (bm HB)) HC0_2.out (Kd.C_below HR0_3.out (bm HB)) HC0_3.out (Kd.C_below HR0_4.out (bm HB)) HC0_4.out A61.out).mono ?_); rintro e w63 ⟨rfl, hb⟩; refine ev2 (kb BK152 hb) (bs HB hb) ?_; clear BK152 HB; intro BK152 HB; (try clear hb); (try clear hb2); (try clear hk); (try clear hi)))
         go_ret;exact ⟨by first | rfl | (simp [e0_, e1_] <;> rfl) | (simp [*, e0_, e1_] <;> rfl), bm HB⟩
        ·replace c60 := Bool.eq_false_iff.mpr c60;subst c60;have H1 : (some false) = some r := by rw [if_neg (show ¬ (false = true) by decide)] at H; exact H
         clear H;have H := H1;clear H1;obtain rfl := Option.some.inj H;obtain ⟨hcz64_0, hcz64_1, hcz64_2, hcz64_3, hcz64_4, hfz64_0, hfz64_1, hfz64_2, hfz64_3, hfz64_4⟩ := bt5 BK152;go_wp2_with (first | ((with_reducible refine gate_callee (f := 164) rfl ?_); refine goesL_ (some 75) rfl rfl Try.func164 (by kernel_rfl) rfl #[.slice A0_3 l0_3.length c0_3, .int .i64 0, .int .i64 (wrap64 (a0_1 - 1))] rfl (by (try simp only [ma_, mb_, mc_]); first | done | rfl | (simp only [List.length_drop, List.length_take]; rfl)) ?_; (with_reducible refine (spec_l1All.calls kj41 _ _ l0_3 0 (wrap64 (a0_1 - 1)) true _ (Kd.C_mv (Kd.C_below HR0_3.out HB.out)) HC0_3.out A57.out).mono ?_); rintro e w' ⟨rfl, ⟨nd, rfl⟩⟩; refine ⟨_, rfl, ?_⟩) | (go_at_call 164; (with_reducible refine (spec_l1All.calls kj41 _ _ l0_4 0 (wrap64 (a0_1 + 1)) false _ (Kd.C_below HR0_4.out (bm HB)) HC0_4.out A59.out).mono ?_); rintro e w' ⟨rfl, ⟨nd, rfl⟩⟩))
         go_ret;exact ⟨by first | rfl | (simp [e0_, e1_] <;> rfl) | (simp [*, e0_, e1_] <;> rfl), bm HB⟩
       ·replace c58 := Bool.eq_false_iff.mpr c58;subst c58;have H1 : (some false) = some r := by rw [if_neg (show ¬ (false = true) by decide)] at H; exact H
        clear H;have H := H1;clear H1;obtain rfl := Option.some.inj H;obtain ⟨hcz65_0, hcz65_1, hcz65_2, hcz65_3, hcz65_4, hfz65_0, hfz65_1, hfz65_2, hfz65_3, hfz65_4⟩ := bt5 BK152;go_wp2_with (first | ((with_reducible refine gate_callee (f := 164) rfl ?_); refine goesL_ (some 75) rfl rfl Try.func164 (by kernel_rfl) rfl #[.slice A0_3 l0_3.length c0_3, .int .i64 0, .int .i64 (wrap64 (a0_1 - 1))] rfl (by (try simp only [ma_, mb_, mc_]); first | done | rfl | (simp only [List.length_drop, List.length_take]; rfl)) ?_; (with_reducible refine (spec_l1All.calls kj41 _ _ l0_3 0 (wrap64 (a0_1 - 1)) false _ (Kd.C_mv (Kd.C_below HR0_3.out HB.out)) HC0_3.out A57.out).mono ?_); rintro e w' ⟨rfl, ⟨nd, rfl⟩⟩; refine ⟨_, rfl, ?_⟩))
        go_ret;exact ⟨by first | rfl | (simp [e0_, e1_] <;> rfl) | (simp [*, e0_, e1_] <;> rfl), bm HB⟩

/-! ### spec_ggGear: function 183 -/
def spec_ggGear.f (a0_0 : Int) (a0_1 : Int) : Option (Bool) := if a0_0 = 6 then (some true) else (some (a0_0 == 7))
theorem spec_ggGear.calls (a0_0 : Int) (a0_1 : Int) (r : Bool) (w : World) (h : spec_ggGear.f a0_0 a0_1 = some r) :
    Calls Try.prog 183 #[.agg #[.int .i64 a0_0, .int .i64 a0_1]] w fun e w' => e = .returned (.bool r) ∧ Below w.heap.size w w' := by
 have S := St.init (w := w) dn
 have F := S.fc
 have H := h; clear h; unfold spec_ggGear.f at H
 replace H := sp_ H; rcases H with ⟨c2, H⟩ | ⟨c2, H⟩
 · skip
   replace c2 := ceq c2
   obtain rfl := Option.some.inj H
   go_enter Try.func183, Try.ntmps183
   go_wp2_with (first | ((with_reducible refine gd 1 rfl (L ?_)); refine bo 1 (.agg #[_, _]) S ?_; clear S F; intro gb169 W S; have F := S.fc))
   go_ret
   exact ⟨(by first | rfl | (simp [e0_, e1_] <;> rfl) | (simp [*, e0_, e1_] <;> rfl)), S.below⟩
 · skip
   replace c2 := cne c2
   obtain rfl := Option.some.inj H
   go_enter Try.func183, Try.ntmps183
   go_wp2_with (first | ((with_reducible refine gd 1 rfl (L ?_)); refine bo 1 (.agg #[_, _]) S ?_; clear S F; intro gb169 W S; have F := S.fc))
   go_ret
   exact ⟨(by first | rfl | (simp [e0_, e1_] <;> rfl) | (simp [*, e0_, e1_] <;> rfl)), S.below⟩

/-! ### spec_ggNear: function 184 -/
mutual
def spec_ggNear.j0 : Nat → Int → Int → Int → List Int → Int → Int → List (S27) → Option (List Int)
  | 0, _, _, _, _, _, _, _ => none
  | k + 1, x1, x5, x6, x7, x171000, x171001, x171002 => if x6 > 0 then (if x7.length < 17592186044416 then (spec_ggNear.j1 k x1 x5 x6 (x7 ++ [wrap64 (x1 - 1)]) x171000 x171001 x171002) else (none)) else (spec_ggNear.j1 k x1 x5 x6 x7 x171000 x171001 x171002)
def spec_ggNear.j1 : Nat → Int → Int → Int → List Int → Int → Int → List (S27) → Option (List Int)
  | 0, _, _, _, _, _, _, _ => none
  | k + 1, x1, x5, x6, x7, x171000, x171001, x171002 => if (wrap64 (x6 + 1)) < x171001 then (if x7.length < 17592186044416 then ((some (x7 ++ [wrap64 (x1 + 1)] : List Int)).bind fun y177 => (if (wrap64 (x5 + 1)) < x171000 then (if y177.length < 17592186044416 then (some (y177 ++ [wrap64 (x1 + x171001)])) else (none)) else (some y177))) else (none)) else (if (wrap64 (x5 + 1)) < x171000 then (if x7.length < 17592186044416 then (some (x7 ++ [wrap64 (x1 + x171001)])) else (none)) else (some x7))
end
def spec_ggNear.f (k : Nat) (a0_0 : Int) (a0_1 : Int) (l0_2 : List (S27)) (a1 : Int) : Option (List Int) := if a0_1 = 0 then (none) else (if (wrap64 (Int.tdiv a1 a0_1)) > 0 then (if ([] : List Int).length < 17592186044416 then (spec_ggNear.j0 k a1 (wrap64 (Int.tdiv a1 a0_1)) (Int.tmod a1 a0_1) (([] : List Int) ++ [wrap64 (a1 - a0_1)]) a0_0 a0_1 l0_2) else (none)) else (spec_ggNear.j0 k a1 (wrap64 (Int.tdiv a1 a0_1)) (Int.tmod a1 a0_1) ([] : List Int) a0_0 a0_1 l0_2))
theorem spec_ggNear.calls (k : Nat) (a0_0 : Int) (a0_1 : Int) (A0_2 : Option Addr) (c0_2 : Nat) (l0_2 : List (S27)) (a1 : Int) (r : List Int) (w : World) (hr0_2 : Kd.C k27 w A0_2 l0_2.length l0_2) (hc0_2 : l0_2.length ≤ c0_2) (h : spec_ggNear.f k a0_0 a0_1 l0_2 a1 = some r) :
    Calls Try.prog 184 #[.agg #[.int .i64 a0_0, .int .i64 a0_1, .slice A0_2 l0_2.length c0_2], .int .i64 a1] w fun e w' => ∃ v0_ : Value, e = .returned (v0_) ∧ Kd.R (Kd.int .i64) 3 w' w.heap.size (fun _ => True) v0_ r ∧ Below w.heap.size w w' := by
 have S := St.init (w := w) (dc k27_heap at27 hr0_2 hc0_2 dn)
 clear hr0_2 hc0_2
 have F := S.fc
 have H := h; clear h; unfold spec_ggNear.f at H
 replace H := nn_ H; obtain ⟨c3, H⟩ := H
 replace c3 := cne c3
 go_enter Try.func184, Try.ntmps184
 go_upto_if 17 with (first | ((with_reducible refine gd 2 rfl (L ?_)); refine bo 2 (.agg #[_, _, _]) S ?_; clear S F; intro gb170 W S; have F := S.fc))
 go_upto_if 17 with (first | ((with_reducible refine gd 2 rfl (L ?_)); refine bo 2 (.agg #[_, _, _]) S ?_; clear S F; intro gb170 W S; have F := S.fc) | ((with_reducible refine gd 2 rfl (L ?_)); refine bo 2 (.agg #[_, _, _]) S ?_; clear S F; intro gb170 W S; have F := S.fc) | ((refine rgS (id := 1) S [(0, 0), (0, 1), (0, 4), (0, 5), (1, 2), (0, 3), (0, 8), (1, 6), (0, 7), (0, 9)] [] (by kernel_rfl) (by kernel_rfl) (fun _ d _ _ _ h => by cases d <;> exact h) ?_; clear S F; intro W S; have S0 := S; have F := S.fc)) | (refine o0 (v := ?_) (a' := ?_) rfl (Eq.refl true) ?_ ?_ ?_; rotate_left 2; (focus (intro W; (go_simp; first | with_reducible rfl | exact ie2_ | exact ie3_ | (refine if_pos ?_; omega)))); (focus (simp only [Act.put, za_, zb_, zc_, i64_w, i32_w]; rfl))) | (refine o1 (v := ?_) (a' := ?_) S0 rfl (Eq.refl true) ?_ ?_ ?_; rotate_left 2; (focus (intro W S; have F := S.fc; (go_simp; first | with_reducible rfl | exact ie2_ | exact ie3_ | (refine if_pos ?_; omega)))); (focus (simp only [Act.put, za_, zb_, zc_, i64_w, i32_w]; rfl))) | ((first | refine o0n (a' := ?_) rfl (Eq.refl false) ?_ ?_ | refine o1n (a' := ?_) S0 rfl (Eq.refl false) ?_ ?_); rotate_left; (focus (simp only [Act.put, za_, zb_, zc_, i64_w, i32_w]; rfl))) | refine oz ?_)
 go_cut [7] (fun v7 wc => ∃ (kq : Nat) (x7_3 : List Int) (Ax7_3 : Option Addr) (cx7_3 : Nat), v7 = .slice Ax7_3 x7_3.length cx7_3 ∧ spec_ggNear.j0 kq a1 (wrap64 (Int.tdiv a1 a0_1)) (Int.tmod a1 a0_1) x7_3 a0_0 a0_1 l0_2 = some r ∧ kq ≤ k ∧ St w w (fun _ => False) [bor at27 A0_2 c0_2 l0_2] wc  [row (atI .i64) 3 Ax7_3 x7_3.length cx7_3 x7_3, box gb170 25 [.int .i64 a0_0, .int .i64 a0_1, .slice A0_2 l0_2.length c0_2]])
 case first =>
  replace H := sp_ H; rcases H with ⟨c7, H⟩ | ⟨c7, H⟩
  · skip
    replace H := np_ H; obtain ⟨c8, H⟩ := H
    (first | (with_reducible replace H := ob_ H; obtain ⟨y171, hy171, H⟩ := H; (try dsimp only at H)) | (obtain ⟨y171, hy171⟩ : ∃ y_ : List Int, y_ = (([] : List Int) ++ [wrap64 (a1 - a0_1)]) := ⟨_, rfl⟩; (try rw [← hy171] at H); (try simp only [Option.bind_some] at H))); have Ny171 := Aside0.mk hy171; clear hy171
    go_wp2_with (first | ((with_reducible refine gd 24 rfl (L ?_)); replace S := S.nl (e := 3) (atI .i64); refine apa (A := none) 24 S Try.underlying35 info3 ?_ (ho := rfl) (hs := rfl) (hx := rfl); clear S F; intro Ay171 cy171 W S; (try rw [← Ny171.out] at S ⊢); have F := S.fc))
    go_wp2_with (first | ((with_reducible refine gd 24 rfl (L ?_)); replace S := S.nl (e := 3) (atI .i64); refine apa (A := none) 24 S Try.underlying35 info3 ?_ (ho := rfl) (hs := rfl) (hx := rfl); clear S F; intro Ay171 cy171 W S; (try rw [← Ny171.out] at S ⊢); have F := S.fc) | ((with_reducible refine gd 24 rfl (L ?_)); replace S := S.nl (e := 3) (atI .i64); refine apa (A := none) 24 S Try.underlying35 info3 ?_ (ho := rfl) (hs := rfl) (hx := rfl); clear S F; intro Ay171 cy171 W S; (try rw [← Ny171.out] at S ⊢); have F := S.fc) | ((refine rgS (id := 1) S [(0, 0), (0, 1), (0, 4), (0, 5), (1, 2), (0, 3), (0, 8), (1, 6), (0, 7), (0, 9)] [] (by kernel_rfl) (by kernel_rfl) (fun _ d _ _ _ h => by cases d <;> exact h) ?_; clear S F; intro W S; have S0 := S; have F := S.fc)) | (refine o0 (v := ?_) (a' := ?_) rfl (Eq.refl true) ?_ ?_ ?_; rotate_left 2; (focus (intro W; (go_simp; first | with_reducible rfl | exact ie2_ | exact ie3_ | (refine if_pos ?_; omega)))); (focus (simp only [Act.put, za_, zb_, zc_, i64_w, i32_w]; rfl))) | (refine o1 (v := ?_) (a' := ?_) S0 rfl (Eq.refl true) ?_ ?_ ?_; rotate_left 2; (focus (intro W S; have F := S.fc; (go_simp; first | with_reducible rfl | exact ie2_ | exact ie3_ | (refine if_pos ?_; omega)))); (focus (simp only [Act.put, za_, zb_, zc_, i64_w, i32_w]; rfl))) | ((first | refine o0n (a' := ?_) rfl (Eq.refl false) ?_ ?_ | refine o1n (a' := ?_) S0 rfl (Eq.refl false) ?_ ?_); rotate_left; (focus (simp only [Act.put, za_, zb_, zc_, i64_w, i32_w]; rfl))) | refine oz ?_)
    go_meet
    case rel => exact ⟨_, y171, _, _, rfl, H, (by first | omega | exact Nat.le_refl _), S⟩
  · skip
    go_wp2
    go_wp2_with (first | ((refine rgS (id := 1) S [(0, 0), (0, 1), (0, 4), (0, 5), (1, 2), (0, 3), (0, 8), (1, 6), (0, 7), (0, 9)] [] (by kernel_rfl) (by kernel_rfl) (fun _ d _ _ _ h => by cases d <;> exact h) ?_; clear S F; intro W S; have S0 := S; have F := S.fc)) | (refine o0 (v := ?_) (a' := ?_) rfl (Eq.refl true) ?_ ?_ ?_; rotate_left 2; (focus (intro W; (go_simp; first | with_reducible rfl | exact ie2_ | exact ie3_ | (refine if_pos ?_; omega)))); (focus (simp only [Act.put, za_, zb_, zc_, i64_w, i32_w]; rfl))) | (refine o1 (v := ?_) (a' := ?_) S0 rfl (Eq.refl true) ?_ ?_ ?_; rotate_left 2; (focus (intro W S; have F := S.fc; (go_simp; first | with_reducible rfl | exact ie2_ | exact ie3_ | (refine if_pos ?_; omega)))); (focus (simp only [Act.put, za_, zb_, zc_, i64_w, i32_w]; rfl))) | ((first | refine o0n (a' := ?_) rfl (Eq.refl false) ?_ ?_ | refine o1n (a' := ?_) S0 rfl (Eq.refl false) ?_ ?_); rotate_left; (focus (simp only [Act.put, za_, zb_, zc_, i64_w, i32_w]; rfl))) | refine oz ?_)
    go_meet
    case rel => exact ⟨_, _, _, _, rfl, H, (by first | omega | exact Nat.le_refl _), S.nl (e := 3) (atI .i64)⟩
 case rest =>
  clear H S F
  obtain ⟨kq, x7_3, Ax7_3, cx7_3, rfl, HA, HJ3, S⟩ := hcut
  have F := S.fc
  cases kq with
  | zero => exact absurd HA (by simp [spec_ggNear.j0])
  | succ kj3 =>
   have H := HA; clear HA; simp only [spec_ggNear.j0, F] at H
   go_upto_if 26 with (fail)
   go_upto_if 26 with (first | ((refine rgS (id := 1) S [(0, 0), (0, 1), (0, 4), (0, 5), (1, 2), (0, 3), (0, 8), (1, 6), (0, 7), (0, 9)] [] (by kernel_rfl) (by kernel_rfl) (fun _ d _ _ _ h => by cases d <;> exact h) ?_; clear S F; intro W S; have S0 := S; have F := S.fc)) | (refine o0 (v := ?_) (a' := ?_) rfl (Eq.refl true) ?_ ?_ ?_; rotate_left 2; (focus (intro W; (go_simp; first | with_reducible rfl | exact ie2_ | exact ie3_ | (refine if_pos ?_; omega)))); (focus (simp only [Act.put, za_, zb_, zc_, i64_w, i32_w]; rfl))) | (refine o1 (v := ?_) (a' := ?_) S0 rfl (Eq.refl true) ?_ ?_ ?_; rotate_left 2; (focus (intro W S; have F := S.fc; (go_simp; first | with_reducible rfl | exact ie2_ | exact ie3_ | (refine if_pos ?_; omega)))); (focus (simp only [Act.put, za_, zb_, zc_, i64_w, i32_w]; rfl))) | ((first | refine o0n (a' := ?_) rfl (Eq.refl false) ?_ ?_ | refine o1n (a' := ?_) S0 rfl (Eq.refl false) ?_ ?_); rotate_left; (focus (simp only [Act.put, za_, zb_, zc_, i64_w, i32_w]; rfl))) | refine oz ?_)
   go_cut [7] (fun v7 wc => ∃ (kq : Nat) (x7_10 : List Int) (Ax7_10 : Option Addr) (cx7_10 : Nat), v7 = .slice Ax7_10 x7_10.length cx7_10 ∧ spec_ggNear.j1 kq a1 (wrap64 (Int.tdiv a1 a0_1)) (Int.tmod a1 a0_1) x7_10 a0_0 a0_1 l0_2 = some r ∧ kq ≤ kj3 ∧ St w w (fun _ => False) [bor at27 A0_2 c0_2 l0_2] wc  [row (atI .i64) 3 Ax7_10 x7_10.length cx7_10 x7_10, box gb170 25 [.int .i64 a0_0, .int .i64 a0_1, .slice A0_2 l0_2.length c0_2]])
   case first =>
    replace H := sp_ H; rcases H with ⟨c12, H⟩ | ⟨c12, H⟩
    · skip
      replace H := np_ H; obtain ⟨c13, H⟩ := H
      (first | (with_reducible replace H := ob_ H; obtain ⟨y174, hy174, H⟩ := H; (try dsimp only at H)) | (obtain ⟨y174, hy174⟩ : ∃ y_ : List Int, y_ = (x7_3 ++ [wrap64 (a1 - 1)]) := ⟨_, rfl⟩; (try rw [← hy174] at H); (try simp only [Option.bind_some] at H))); have Ny174 := Aside0.mk hy174; clear hy174
      go_wp2_with (first | ((with_reducible refine gd 31 rfl (L ?_)); refine apa (A := Ax7_3) 31 S Try.underlying35 info3 ?_ (ho := rfl) (hs := rfl) (hx := rfl); clear S F; intro Ay174 cy174 W S; (try rw [← Ny174.out] at S ⊢); have F := S.fc))
      go_wp2_with (first | ((with_reducible refine gd 31 rfl (L ?_)); refine apa (A := Ax7_3) 31 S Try.underlying35 info3 ?_ (ho := rfl) (hs := rfl) (hx := rfl); clear S F; intro Ay174 cy174 W S; (try rw [← Ny174.out] at S ⊢); have F := S.fc) | ((with_reducible refine gd 31 rfl (L ?_)); refine apa (A := Ax7_3) 31 S Try.underlying35 info3 ?_ (ho := rfl) (hs := rfl) (hx := rfl); clear S F; intro Ay174 cy174 W S; (try rw [← Ny174.out] at S ⊢); have F := S.fc) | ((refine rgS (id := 1) S [(0, 0), (0, 1), (0, 4), (0, 5), (1, 2), (0, 3), (0, 8), (1, 6), (0, 7), (0, 9)] [] (by kernel_rfl) (by kernel_rfl) (fun _ d _ _ _ h => by cases d <;> exact h) ?_; clear S F; intro W S; have S0 := S; have F := S.fc)) | (refine o0 (v := ?_) (a' := ?_) rfl (Eq.refl true) ?_ ?_ ?_; rotate_left 2; (focus (intro W; (go_simp; first | with_reducible rfl | exact ie2_ | exact ie3_ | (refine if_pos ?_; omega)))); (focus (simp only [Act.put, za_, zb_, zc_, i64_w, i32_w]; rfl))) | (refine o1 (v := ?_) (a' := ?_) S0 rfl (Eq.refl true) ?_ ?_ ?_; rotate_left 2; (focus (intro W S; have F := S.fc; (go_simp; first | with_reducible rfl | exact ie2_ | exact ie3_ | (refine if_pos ?_; omega)))); (focus (simp only [Act.put, za_, zb_, zc_, i64_w, i32_w]; rfl))) | ((first | refine o0n (a' := ?_) rfl (Eq.refl false) ?_ ?_ | refine o1n (a' := ?_) S0 rfl (Eq.refl false) ?_ ?_); rotate_left; (focus (simp only [Act.put, za_, zb_, zc_, i64_w, i32_w]; rfl))) | refine oz ?_)
      go_meet
      case rel => exact ⟨_, y174, _, _, rfl, H, (by first | omega | exact Nat.le_refl _), S⟩
    · skip
      go_wp2
      go_wp2_with (first | ((refine rgS (id := 1) S [(0, 0), (0, 1), (0, 4), (0, 5), (1, 2), (0, 3), (0, 8), (1, 6), (0, 7), (0, 9)] [] (by kernel_rfl) (by kernel_rfl) (fun _ d _ _ _ h => by cases d <;> exact h) ?_; clear S F; intro W S; have S0 := S; have F := S.fc)) | (refine o0 (v := ?_) (a' := ?_) rfl (Eq.refl true) ?_ ?_ ?_; rotate_left 2; (focus (intro W; (go_simp; first | with_reducible rfl | exact ie2_ | exact ie3_ | (refine if_pos ?_; omega)))); (focus (simp only [Act.put, za_, zb_, zc_, i64_w, i32_w]; rfl))) | (refine o1 (v := ?_) (a' := ?_) S0 rfl (Eq.refl true) ?_ ?_ ?_; rotate_left 2; (focus (intro W S; have F := S.fc; (go_simp; first | with_reducible rfl | exact ie2_ | exact ie3_ | (refine if_pos ?_; omega)))); (focus (simp only [Act.put, za_, zb_, zc_, i64_w, i32_w]; rfl))) | ((first | refine o0n (a' := ?_) rfl (Eq.refl false) ?_ ?_ | refine o1n (a' := ?_) S0 rfl (Eq.refl false) ?_ ?_); rotate_left; (focus (simp only [Act.put, za_, zb_, zc_, i64_w, i32_w]; rfl))) | refine oz ?_)
      go_meet
      case rel => exact ⟨_, x7_3, _, _, rfl, H, (by first | omega | exact Nat.le_refl _), S⟩
   case rest =>
    clear H S F
    obtain ⟨kq, x7_10, Ax7_10, cx7_10, rfl, HA, HJ10, S⟩ := hcut
    have F := S.fc
    cases kq with
    | zero => exact absurd HA (by simp [spec_ggNear.j1])
    | succ kj10 =>
     have H := HA; clear HA; simp only [spec_ggNear.j1, F] at H
     replace H := sp_ H; rcases H with ⟨c15, H⟩ | ⟨c15, H⟩
     · skip
       replace H := np_ H; obtain ⟨c16, H⟩ := H
       (first | (with_reducible replace H := ob_ H; obtain ⟨y177, hy177, H⟩ := H; (try dsimp only at H)) | (obtain ⟨y177, hy177⟩ : ∃ y_ : List Int, y_ = (x7_10 ++ [wrap64 (a1 + 1)]) := ⟨_, rfl⟩; (try rw [← hy177] at H); (try simp only [Option.bind_some] at H))); have Ny177 := Aside0.mk hy177; clear hy177
       replace H := sp_ H; rcases H with ⟨c17, H⟩ | ⟨c17, H⟩
       · skip
         replace H := np_ H; obtain ⟨c18, H⟩ := H
         (first | (with_reducible replace H := ob_ H; obtain ⟨y180, hy180, H⟩ := H; (try dsimp only at H)) | (obtain ⟨y180, hy180⟩ : ∃ y_ : List Int, y_ = (y177 ++ [wrap64 (a1 + a0_1)]) := ⟨_, rfl⟩; (try rw [← hy180] at H); (try simp only [Option.bind_some] at H))); have Ny180 := Aside0.mk hy180; clear hy180
         obtain rfl := Option.some.inj H
         go_wp2_with (first | ((with_reducible refine gd 41 rfl (L ?_)); refine apa (A := Ax7_10) 41 S Try.underlying35 info3 ?_ (ho := rfl) (hs := rfl) (hx := rfl); clear S F; intro Ay177 cy177 W S; (try rw [← Ny177.out] at S ⊢); (try rw [← Ny180.out] at S ⊢); have F := S.fc) | ((with_reducible refine gd 53 rfl (L ?_)); refine apa (A := Ay177) 53 S Try.underlying35 info3 ?_ (ho := rfl) (hs := rfl) (hx := rfl); clear S F; intro Ay180 cy180 W S; (try rw [← Ny177.out] at S ⊢); (try rw [← Ny180.out] at S ⊢); have F := S.fc))
         go_wp2_with (first | ((with_reducible refine gd 41 rfl (L ?_)); refine apa (A := Ax7_10) 41 S Try.underlying35 info3 ?_ (ho := rfl) (hs := rfl) (hx := rfl); clear S F; intro Ay177 cy177 W S; (try rw [← Ny177.out] at S ⊢); (try rw [← Ny180.out] at S ⊢); have F := S.fc) | ((with_reducible refine gd 53 rfl (L ?_)); refine apa (A := Ay177) 53 S Try.underlying35 info3 ?_ (ho := rfl) (hs := rfl) (hx := rfl); clear S F; intro Ay180 cy180 W S; (try rw [← Ny177.out] at S ⊢); (try rw [← Ny180.out] at S ⊢); have F := S.fc) | ((with_reducible refine gd 41 rfl (L ?_)); refine apa (A := Ax7_10) 41 S Try.underlying35 info3 ?_ (ho := rfl) (hs := rfl) (hx := rfl); clear S F; intro Ay177 cy177 W S; (try rw [← Ny177.out] at S ⊢); (try rw [← Ny180.out] at S ⊢); have F := S.fc) | ((with_reducible refine gd 53 rfl (L ?_)); refine apa (A := Ay177) 53 S Try.underlying35 info3 ?_ (ho := rfl) (hs := rfl) (hx := rfl); clear S F; intro Ay180 cy180 W S; (try rw [← Ny177.out] at S ⊢); (try rw [← Ny180.out] at S ⊢); have F := S.fc) | ((refine rgS (id := 1) S [(0, 0), (0, 1), (0, 4), (0, 5), (1, 2), (0, 3), (0, 8), (1, 6), (0, 7), (0, 9)] [] (by kernel_rfl) (by kernel_rfl) (fun _ d _ _ _ h => by cases d <;> exact h) ?_; clear S F; intro W S; have S0 := S; have F := S.fc)) | (refine o0 (v := ?_) (a' := ?_) rfl (Eq.refl true) ?_ ?_ ?_; rotate_left 2; (focus (intro W; (go_simp; first | with_reducible rfl | exact ie2_ | exact ie3_ | (refine if_pos ?_; omega)))); (focus (simp only [Act.put, za_, zb_, zc_, i64_w, i32_w]; rfl))) | (refine o1 (v := ?_) (a' := ?_) S0 rfl (Eq.refl true) ?_ ?_ ?_; rotate_left 2; (focus (intro W S; have F := S.fc; (go_simp; first | with_reducible rfl | exact ie2_ | exact ie3_ | (refine if_pos ?_; omega)))); (focus (simp only [Act.put, za_, zb_, zc_, i64_w, i32_w]; rfl))) | ((first | refine o0n (a' := ?_) rfl (Eq.refl false) ?_ ?_ | refine o1n (a' := ?_) S0 rfl (Eq.refl false) ?_ ?_); rotate_left; (focus (simp only [Act.put, za_, zb_, zc_, i64_w, i32_w]; rfl))) | refine oz ?_)
         go_ret
         exact ⟨_, (by first | rfl | (simp [e0_, e1_] <;> rfl) | (simp [*, e0_, e1_] <;> rfl)), (by first | exact S.r | exact Kd.R_nil _ _ _ _ _), S.below⟩
       · skip
         obtain rfl := Option.some.inj H
         go_wp2_with (first | ((with_reducible refine gd 41 rfl (L ?_)); refine apa (A := Ax7_10) 41 S Try.underlying35 info3 ?_ (ho := rfl) (hs := rfl) (hx := rfl); clear S F; intro Ay177 cy177 W S; (try rw [← Ny177.out] at S ⊢); have F := S.fc))
         go_wp2_with (first | ((with_reducible refine gd 41 rfl (L ?_)); refine apa (A := Ax7_10) 41 S Try.underlying35 info3 ?_ (ho := rfl) (hs := rfl) (hx := rfl); clear S F; intro Ay177 cy177 W S; (try rw [← Ny177.out] at S ⊢); have F := S.fc) | ((with_reducible refine gd 41 rfl (L ?_)); refine apa (A := Ax7_10) 41 S Try.underlying35 info3 ?_ (ho := rfl) (hs := rfl) (hx := rfl); clear S F; intro Ay177 cy177 W S; (try rw [← Ny177.out] at S ⊢); have F := S.fc) | ((refine rgS (id := 1) S [(0, 0), (0, 1), (0, 4), (0, 5), (1, 2), (0, 3), (0, 8), (1, 6), (0, 7), (0, 9)] [] (by kernel_rfl) (by kernel_rfl) (fun _ d _ _ _ h => by cases d <;> exact h) ?_; clear S F; intro W S; have S0 := S; have F := S.fc)) | (refine o0 (v := ?_) (a' := ?_) rfl (Eq.refl true) ?_ ?_ ?_; rotate_left 2; (focus (intro W; (go_simp; first | with_reducible rfl | exact ie2_ | exact ie3_ | (refine if_pos ?_; omega)))); (focus (simp only [Act.put, za_, zb_, zc_, i64_w, i32_w]; rfl))) | (refine o1 (v := ?_) (a' := ?_) S0 rfl (Eq.refl true) ?_ ?_ ?_; rotate_left 2; (focus (intro W S; have F := S.fc; (go_simp; first | with_reducible rfl | exact ie2_ | exact ie3_ | (refine if_pos ?_; omega)))); (focus (simp only [Act.put, za_, zb_, zc_, i64_w, i32_w]; rfl))) | ((first | refine o0n (a' := ?_) rfl (Eq.refl false) ?_ ?_ | refine o1n (a' := ?_) S0 rfl (Eq.refl false) ?_ ?_); rotate_left; (focus (simp only [Act.put, za_, zb_, zc_, i64_w, i32_w]; rfl))) | refine oz ?_)
         go_ret
         exact ⟨_, (by first | rfl | (simp [e0_, e1_] <;> rfl) | (simp [*, e0_, e1_] <;> rfl)), (by first | exact S.r | exact Kd.R_nil _ _ _ _ _), S.below⟩
     · skip
       replace H := sp_ H; rcases H with ⟨c26, H⟩ | ⟨c26, H⟩
       · skip
         replace H := np_ H; obtain ⟨c27, H⟩ := H
         (first | (with_reducible replace H := ob_ H; obtain ⟨y183, hy183, H⟩ := H; (try dsimp only at H)) | (obtain ⟨y183, hy183⟩ : ∃ y_ : List Int, y_ = (x7_10 ++ [wrap64 (a1 + a0_1)]) := ⟨_, rfl⟩; (try rw [← hy183] at H); (try simp only [Option.bind_some] at H))); have Ny183 := Aside0.mk hy183; clear hy183
         obtain rfl := Option.some.inj H
         go_wp2_with (first | ((with_reducible refine gd 53 rfl (L ?_)); refine apa (A := Ax7_10) 53 S Try.underlying35 info3 ?_ (ho := rfl) (hs := rfl) (hx := rfl); clear S F; intro Ay183 cy183 W S; (try rw [← Ny183.out] at S ⊢); have F := S.fc))
         go_wp2_with (first | ((with_reducible refine gd 53 rfl (L ?_)); refine apa (A := Ax7_10) 53 S Try.underlying35 info3 ?_ (ho := rfl) (hs := rfl) (hx := rfl); clear S F; intro Ay183 cy183 W S; (try rw [← Ny183.out] at S ⊢); have F := S.fc) | ((with_reducible refine gd 53 rfl (L ?_)); refine apa (A := Ax7_10) 53 S Try.underlying35 info3 ?_ (ho := rfl) (hs := rfl) (hx := rfl); clear S F; intro Ay183 cy183 W S; (try rw [← Ny183.out] at S ⊢); have F := S.fc) | ((refine rgS (id := 1) S [(0, 0), (0, 1), (0, 4), (0, 5), (1, 2), (0, 3), (0, 8), (1, 6), (0, 7), (0, 9)] [] (by kernel_rfl) (by kernel_rfl) (fun _ d _ _ _ h => by cases d <;> exact h) ?_; clear S F; intro W S; have S0 := S; have F := S.fc)) | (refine o0 (v := ?_) (a' := ?_) rfl (Eq.refl true) ?_ ?_ ?_; rotate_left 2; (focus (intro W; (go_simp; first | with_reducible rfl | exact ie2_ | exact ie3_ | (refine if_pos ?_; omega)))); (focus (simp only [Act.put, za_, zb_, zc_, i64_w, i32_w]; rfl))) | (refine o1 (v := ?_) (a' := ?_) S0 rfl (Eq.refl true) ?_ ?_ ?_; rotate_left 2; (focus (intro W S; have F := S.fc; (go_simp; first | with_reducible rfl | exact ie2_ | exact ie3_ | (refine if_pos ?_; omega)))); (focus (simp only [Act.put, za_, zb_, zc_, i64_w, i32_w]; rfl))) | ((first | refine o0n (a' := ?_) rfl (Eq.refl false) ?_ ?_ | refine o1n (a' := ?_) S0 rfl (Eq.refl false) ?_ ?_); rotate_left; (focus (simp only [Act.put, za_, zb_, zc_, i64_w, i32_w]; rfl))) | refine oz ?_)
         go_ret
         exact ⟨_, (by first | rfl | (simp [e0_, e1_] <;> rfl) | (simp [*, e0_, e1_] <;> rfl)), (by first | exact S.r | exact Kd.R_nil _ _ _ _ _), S.below⟩
       · skip
         obtain rfl := Option.some.inj H
         go_wp2
         go_wp2_with (first | ((refine rgS (id := 1) S [(0, 0), (0, 1), (0, 4), (0, 5), (1, 2), (0, 3), (0, 8), (1, 6), (0, 7), (0, 9)] [] (by kernel_rfl) (by kernel_rfl) (fun _ d _ _ _ h => by cases d <;> exact h) ?_; clear S F; intro W S; have S0 := S; have F := S.fc)) | (refine o0 (v := ?_) (a' := ?_) rfl (Eq.refl true) ?_ ?_ ?_; rotate_left 2; (focus (intro W; (go_simp; first | with_reducible rfl | exact ie2_ | exact ie3_ | (refine if_pos ?_; omega)))); (focus (simp only [Act.put, za_, zb_, zc_, i64_w, i32_w]; rfl))) | (refine o1 (v := ?_) (a' := ?_) S0 rfl (Eq.refl true) ?_ ?_ ?_; rotate_left 2; (focus (intro W S; have F := S.fc; (go_simp; first | with_reducible rfl | exact ie2_ | exact ie3_ | (refine if_pos ?_; omega)))); (focus (simp only [Act.put, za_, zb_, zc_, i64_w, i32_w]; rfl))) | ((first | refine o0n (a' := ?_) rfl (Eq.refl false) ?_ ?_ | refine o1n (a' := ?_) S0 rfl (Eq.refl false) ?_ ?_); rotate_left; (focus (simp only [Act.put, za_, zb_, zc_, i64_w, i32_w]; rfl))) | refine oz ?_)
         go_ret
         exact ⟨_, (by first | rfl | (simp [e0_, e1_] <;> rfl) | (simp [*, e0_, e1_] <;> rfl)), (by first | exact S.r | exact Kd.R_nil _ _ _ _ _), S.below⟩
end Go.Proofs.Ytimeepcpgjnajaa.F
