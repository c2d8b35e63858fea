-- Printed by a program; checked here.
import Derived.Test.YtipaimgpmgbkiaaF0
import Derived.Test.YtipaimgpmgbkiaaF1
import Derived.Test.YtipaimgpmgbkiaaF7
namespace Go.Proofs.Ytipaimgpmgbkiaa.F
open Go.RowKit Go.Proofs.YtipaimgpmgbkiaaV.PrintWords Go.Proofs.YtipaimgpmgbkiaaV.PrintLast Go.Proofs.YtipaimgpmgbkiaaV.PrintMore Go.Proofs.YtipaimgpmgbkiaaV.Sl Go.Proofs.YtipaimgpmgbkiaaV.Rf
attribute [local go_sem] max2_int min2_int max_two min_two max_three min_three max_four min_four ia_opt it_opt
attribute [local go_sem] Try.underlying23 Try.underlying25 Try.underlying29 Try.underlying31 Try.underlying42 Try.underlying50 Try.underlying85 Try.underlying88 Try.underlying89 Try.underlying106 Try.underlying122 Try.underlying127
set_option maxHeartbeats 8000000
set_option maxRecDepth 100000
set_option linter.unusedVariables false
set_option linter.unusedSimpArgs false

attribute [local go_sem high] eqA88
/-! ### laws_markIntS: function 23 -/
def laws_markIntS.l0 : Nat → List Int → Int → Int → Option (Int × List Int)
  | 0, _, _, _ => none
  | k + 1, x0, x1, x5 => if x5 < (x0.length : Int) then (if 0 ≤ x5 then (laws_markIntS.l0 k (x0.set (x5 : Int).toNat x1) (wrap64 (x1 + 1)) (wrap64 (x5 + 1))) else (none)) else (some (x1, x0))
def laws_markIntS.f (k : Nat) (l0 : List Int) (a1 : Int) : Option (Int × List Int) := laws_markIntS.l0 k l0 a1 0
theorem laws_markIntS.calls (k : Nat) (P0_ : Nat → Prop) (u9000_ : Value) (l0 : List Int) (a1 : Int) (r1 : Int) (r2 : List Int) (w0 w : World) (hB : Below w0.heap.size w0 w) (ho0 : Kd.R (Kd.int .i64) 3 w w0.heap.size P0_ u9000_ l0) (h : laws_markIntS.f k l0 a1 = some (r1, r2)) :
    Calls Try.prog 23 #[u9000_, .int .i64 a1] w fun e w' => e = .returned (.int .i64 r1) ∧ Kd.R (Kd.int .i64) 3 w' w0.heap.size (fun k_ => (P0_ k_ ∨ w.heap.size ≤ k_)) u9000_ r2 ∧ Below w0.heap.size w0 w' ∧ Kept w w' (fun k_ => P0_ k_) := by
 obtain ⟨Al0, cl0, rfl⟩ := Kd.R_slice ho0
 have S := St.own1 (atI .i64) hB ho0 dn
 clear hB ho0
 have F := S.fc
 have H := h; clear h; unfold laws_markIntS.f at H
 go_enter Try.func23, Try.ntmps23
 go_wp2_with (first | ((with_reducible refine gs (t := 3) rfl (L ?_)); (first | refine sb (.int _ _) S sz3 ?_ | refine ro (.int _ _) S sz3 ?_ (ho := rfl) (hx := rfl) (hy := rfl)); (clear S F; intro W S; have F := S.fc)))
 go_loopg [1, 5] k (fun kq v1 v5 w' => ∃ (x0_1 : List Int) (x1_1 : Int) (x5_1 : Int), v1 = .int .i64 x1_1 ∧ v5 = .int .i64 x5_1 ∧ laws_markIntS.l0 kq x0_1 x1_1 x5_1 = some (r1, r2) ∧ kq ≤ k ∧ St w0 w P0_ [] w'  [row (atI .i64) 3 Al0 l0.length cl0 x0_1])
 case atStart => exact ⟨l0, a1, 0, (by first | rfl | (simp; done) | (simp [*]; done) | (rw [w6_ (by omega) (by omega)])), (by first | rfl | (simp; done) | (simp [*]; done) | (rw [w6_ (by omega) (by omega)])), H, Nat.le_refl _, S⟩
 case round =>
  clear H S F
  obtain ⟨x0_1, x1_1, x5_1, rfl, rfl, HA, HK1, S⟩ := hrel
  have F := S.fc
  cases gk with
  | zero => exact absurd HA (by simp [laws_markIntS.l0])
  | succ k1 =>
   have H := HA; clear HA; simp only [laws_markIntS.l0, F] at H
   replace H := sp_ H; rcases H with ⟨c3, H⟩ | ⟨c3, H⟩
   · skip
     replace H := np_ H; obtain ⟨c4, H⟩ := H
     (first | (with_reducible replace H := ob_ H; obtain ⟨y619, hy619, H⟩ := H; (try dsimp only at H)) | (obtain ⟨y619, hy619⟩ : ∃ y_ : List Int, y_ = (x0_1.set (x5_1 : Int).toNat x1_1) := ⟨_, rfl⟩; (try rw [← hy619] at H); (try simp only [Option.bind_some] at H))); have Ny619 := Aside0.mk hy619; clear hy619
     go_wp2_with (first | ((with_reducible refine gs (t := 3) rfl (L ?_)); (first | refine sb (.int _ _) S sz3 ?_ | refine ro (.int _ _) S sz3 ?_ (ho := rfl) (hx := rfl) (hy := rfl)); clear S F; intro W S; (try rw [← Ny619.out] at S); have F := S.fc))
     go_roundg k1
     case measure => omega
     case rel => exact ⟨y619, (wrap64 (x1_1 + 1)), (wrap64 (x5_1 + 1)), (by first | rfl | (simp; done) | (simp [*]; done) | (rw [w6_ (by omega) (by omega)])), (by first | rfl | (simp; done) | (simp [*]; done) | (rw [w6_ (by omega) (by omega)])), H, (by first | omega | exact Nat.le_refl _), S⟩
   · skip
     simp only [Option.some.injEq, Prod.mk.injEq] at H
     obtain ⟨rfl, rfl⟩ := H
     go_wp2_with (first | ((with_reducible refine gs (t := 3) rfl (L ?_)); (first | refine sb (.int _ _) S sz3 ?_ | refine ro (.int _ _) S sz3 ?_ (ho := rfl) (hx := rfl) (hy := rfl)); (clear S F; intro W S; have F := S.fc)))
     go_ret
     exact ⟨(by first | rfl | (simp [e0_, e1_] <;> rfl) | (simp [*, e0_, e1_] <;> rfl)), (by first | exact S.rp | exact Kd.R_nil _ _ _ _ _), S.below, S.kept⟩

/-! ### laws_markCellS: function 70 -/
def laws_markCellS.l0 : Nat → List (S88) → Int → Int → Option (Int × (List (S88)))
  | 0, _, _, _ => none
  | k + 1, x0, x1, x5 => if x5 < (x0.length : Int) then (if 0 ≤ x5 then ((some (x0.set (x5 : Int).toNat (⟨x1, (rd_T88 x0 x5).f1⟩ : S88) : List (S88))).bind fun y620 => (laws_markCellS.l0 k (y620.set (x5 : Int).toNat (⟨(rd_T88 y620 x5).f0, wrap64 (x1 + 1)⟩ : S88)) (wrap64 ((wrap64 (x1 + 1)) + 1)) (wrap64 (x5 + 1)))) else (none)) else (some (x1, x0))
def laws_markCellS.f (k : Nat) (l0 : List (S88)) (a1 : Int) : Option (Int × (List (S88))) := laws_markCellS.l0 k l0 a1 0
theorem laws_markCellS.calls (k : Nat) (P0_ : Nat → Prop) (u9000_ : Value) (l0 : List (S88)) (a1 : Int) (r1 : Int) (r2 : List (S88)) (w0 w : World) (hB : Below w0.heap.size w0 w) (ho0 : Kd.R k88 88 w w0.heap.size P0_ u9000_ l0) (h : laws_markCellS.f k l0 a1 = some (r1, r2)) :
    Calls Try.prog 70 #[u9000_, .int .i64 a1] w fun e w' => e = .returned (.int .i64 r1) ∧ Kd.R k88 88 w' w0.heap.size (fun k_ => (P0_ k_ ∨ w.heap.size ≤ k_)) u9000_ r2 ∧ Below w0.heap.size w0 w' ∧ Kept w w' (fun k_ => P0_ k_) := by
 obtain ⟨Al0, cl0, rfl⟩ := Kd.R_slice ho0
 have S := St.own1 at88 hB ho0 dn
 clear hB ho0
 have F := S.fc
 have H := h; clear h; unfold laws_markCellS.f at H
 go_enter Try.func70, Try.ntmps70
 go_wp2_with (first | ((with_reducible refine gs (t := 3) rfl (L ?_)); (first | refine sb (.int _ _) S sz3 ?_ | refine ro (.int _ _) S sz3 ?_ (ho := rfl) (hx := rfl) (hy := rfl)); clear S F; intro W S; (try simp only [gd88] at S); have F := S.fc))
 go_loopg [1, 5] k (fun kq v1 v5 w' => ∃ (x0_1 : List (S88)) (x1_1 : Int) (x5_1 : Int), v1 = .int .i64 x1_1 ∧ v5 = .int .i64 x5_1 ∧ laws_markCellS.l0 kq x0_1 x1_1 x5_1 = some (r1, r2) ∧ kq ≤ k ∧ St w0 w P0_ [] w'  [row at88 88 Al0 l0.length cl0 x0_1])
 case atStart => exact ⟨l0, a1, 0, (by first | rfl | (simp; done) | (simp [*]; done) | (rw [w6_ (by omega) (by omega)])), (by first | rfl | (simp; done) | (simp [*]; done) | (rw [w6_ (by omega) (by omega)])), H, Nat.le_refl _, S⟩
 case round =>
  clear H S F
  obtain ⟨x0_1, x1_1, x5_1, rfl, rfl, HA, HK1, S⟩ := hrel
  have F := S.fc
  cases gk with
  | zero => exact absurd HA (by simp [laws_markCellS.l0])
  | succ k1 =>
   have H := HA; clear HA; simp only [laws_markCellS.l0, F] at H
   replace H := sp_ H; rcases H with ⟨c3, H⟩ | ⟨c3, H⟩
   · skip
     replace H := np_ H; obtain ⟨c4, H⟩ := H
     (first | (with_reducible replace H := ob_ H; obtain ⟨y620, hy620, H⟩ := H; (try dsimp only at H)) | (obtain ⟨y620, hy620⟩ : ∃ y_ : List (S88), y_ = (x0_1.set (x5_1 : Int).toNat (⟨x1_1, (rd_T88 x0_1 x5_1).f1⟩ : S88)) := ⟨_, rfl⟩; (try rw [← hy620] at H); (try simp only [Option.bind_some] at H))); have Ny620 := Aside0.mk hy620; clear hy620
     (first | (with_reducible replace H := ob_ H; obtain ⟨y621, hy621, H⟩ := H; (try dsimp only at H)) | (obtain ⟨y621, hy621⟩ : ∃ y_ : List (S88), y_ = (y620.set (x5_1 : Int).toNat (⟨(rd_T88 y620 x5_1).f0, wrap64 (x1_1 + 1)⟩ : S88)) := ⟨_, rfl⟩; (try rw [← hy621] at H); (try simp only [Option.bind_some] at H))); have Ny621 := Aside0.mk hy621; clear hy621
     go_wp2_with (first | ((with_reducible refine gs (t := 3) rfl (L ?_)); (first | refine sb (.int _ _) S sz3 ?_ | refine ro (.int _ _) S sz3 ?_ (ho := rfl) (hx := rfl) (hy := rfl)); clear S F; intro W S; (try simp only [gd88] at S); (try rw [← Ny620.out] at S); (try rw [← Ny621.out] at S); have F := S.fc))
     go_roundg k1
     case measure => omega
     case rel => exact ⟨y621, (wrap64 ((wrap64 (x1_1 + 1)) + 1)), (wrap64 (x5_1 + 1)), (by first | rfl | (simp; done) | (simp [*]; done) | (rw [w6_ (by omega) (by omega)])), (by first | rfl | (simp; done) | (simp [*]; done) | (rw [w6_ (by omega) (by omega)])), H, (by first | omega | exact Nat.le_refl _), S⟩
   · skip
     simp only [Option.some.injEq, Prod.mk.injEq] at H
     obtain ⟨rfl, rfl⟩ := H
     go_wp2_with (first | ((with_reducible refine gs (t := 3) rfl (L ?_)); (first | refine sb (.int _ _) S sz3 ?_ | refine ro (.int _ _) S sz3 ?_ (ho := rfl) (hx := rfl) (hy := rfl)); clear S F; intro W S; (try simp only [gd88] at S); have F := S.fc))
     go_ret
     exact ⟨(by first | rfl | (simp [e0_, e1_] <;> rfl) | (simp [*, e0_, e1_] <;> rfl)), (by first | exact S.rp | exact Kd.R_nil _ _ _ _ _), S.below, S.kept⟩

/-! ### laws_markChallenge: function 22 -/
def laws_markChallenge.f (k : Nat) (a0_0 : Int) (a0_1 : Int) (l0_2 : List (S88)) (l0_3 : List Int) (l0_4 : List Int) (a1 : Int) : Option (Int × (List (S88)) × List Int × List Int) := (laws_markCellS.f k l0_2 a1).bind fun bt623 => ((laws_markIntS.f k l0_3 bt623.1).bind fun bt625 => ((laws_markIntS.f k l0_4 bt625.1).bind fun bt627 => (some (bt627.1, bt623.2, bt625.2, bt627.2))))
theorem laws_markChallenge.calls (k : Nat) (a0_0 : Int) (a0_1 : Int) (P0_2_ : Nat → Prop) (u9000_ : Value) (l0_2 : List (S88)) (P0_3_ : Nat → Prop) (u9001_ : Value) (l0_3 : List Int) (P0_4_ : Nat → Prop) (u9002_ : Value) (l0_4 : List Int) (a1 : Int) (r1 : Int) (r2 : List (S88)) (r3 : List Int) (r4 : List Int) (w0 w : World) (hB : Below w0.heap.size w0 w) (ho0_2 : Kd.R k88 88 w w0.heap.size P0_2_ u9000_ l0_2) (ho0_3 : Kd.R (Kd.int .i64) 3 w w0.heap.size P0_3_ u9001_ l0_3) (hp0_3_0_4 : ∀ k_, P0_3_ k_ → ¬ P0_4_ k_) (ho0_4 : Kd.R (Kd.int .i64) 3 w w0.heap.size P0_4_ u9002_ l0_4) (hp0_4_0_3 : ∀ k_, P0_4_ k_ → ¬ P0_3_ k_) (h : laws_markChallenge.f k a0_0 a0_1 l0_2 l0_3 l0_4 a1 = some (r1, r2, r3, r4)) :
  Calls Try.prog 22 #[.agg #[.int .i64 a0_0, .int .i64 a0_1, u9000_, u9001_, u9002_], .int .i64 a1] w fun e w' => e = .returned (.int .i64 r1) ∧ Kd.R k88 88 w' w0.heap.size (fun k_ => ((P0_2_ k_ ∨ P0_3_ k_ ∨ P0_4_ k_) ∨ w.heap.size ≤ k_)) u9000_ r2 ∧ Kd.R (Kd.int .i64) 3 w' w0.heap.size (fun k_ => ((P0_2_ k_ ∨ P0_3_ k_ ∨ P0_4_ k_) ∨ w.heap.size ≤ k_)) u9001_ r3 ∧ Kd.R (Kd.int .i64) 3 w' w0.heap.size (fun k_ => ((P0_2_ k_ ∨ P0_3_ k_ ∨ P0_4_ k_) ∨ w.heap.size ≤ k_)) u9002_ r4 ∧ Below w0.heap.size w0 w' ∧ Kept w w' (fun k_ => P0_2_ k_ ∨ P0_3_ k_ ∨ P0_4_ k_) := by
 have HO0_2 := Aside0.mk (show Kd.R k88 88 w w0.heap.size (fun k_ => ((P0_2_ k_ ∨ P0_3_ k_ ∨ P0_4_ k_) ∨ w.heap.size ≤ k_)) u9000_ l0_2 from Kd.R_mono ho0_2 (fun k_ hk => (.inl (.inl hk))));have HO0_3 := Aside0.mk (show Kd.R (Kd.int .i64) 3 w w0.heap.size (fun k_ => ((P0_2_ k_ ∨ P0_3_ k_ ∨ P0_4_ k_) ∨ w.heap.size ≤ k_) ∧ some k_ ≠ (u9002_ : Value).ownBlock) u9001_ l0_3 from Kd.R_mono ho0_3 (fun k_ hk => ⟨(.inl (.inr (.inl hk))), fun e_ => hp0_3_0_4 k_ hk (ho0_4.1 k_ e_.symm)⟩));have HO0_4 := Aside0.mk (show Kd.R (Kd.int .i64) 3 w w0.heap.size (fun k_ => ((P0_2_ k_ ∨ P0_3_ k_ ∨ P0_4_ k_) ∨ w.heap.size ≤ k_) ∧ some k_ ≠ (u9001_ : Value).ownBlock) u9002_ l0_4 from Kd.R_mono ho0_4 (fun k_ hk => ⟨(.inl (.inr (.inr hk))), fun e_ => hp0_4_0_3 k_ hk (ho0_3.1 k_ e_.symm)⟩));have HK := Aside0.mk (Kept.refl w (fun k_ => P0_2_ k_ ∨ P0_3_ k_ ∨ P0_4_ k_));have HW0 := Aside0.mk hB.size;have HB := Aside0.mk hB;clear hB;have H : ((laws_markCellS.f k l0_2 a1).bind fun bt623 => ((laws_markIntS.f k l0_3 bt623.1).bind fun bt625 => ((laws_markIntS.f k l0_4 bt625.1).bind fun bt627 => (some (bt627.1, bt623.2, bt625.2, bt627.2))))) = some (r1, r2, r3, r4) := h;clear h;replace H := Option.bind_eq_some_iff.mp H;obtain ⟨⟨t623, t624⟩, A30, H⟩ := H;(try dsimp only at H)
 have A3 := Aside0.mk A30;clear A30;replace H := Option.bind_eq_some_iff.mp H;obtain ⟨⟨t625, t626⟩, A40, H⟩ := H;(try dsimp only at H)
 have A4 := Aside0.mk A40;clear A40;replace H := Option.bind_eq_some_iff.mp H;obtain ⟨⟨t627, t628⟩, A50, H⟩ := H;(try dsimp only at H)
 have A5 := Aside0.mk A50;clear A50;simp only [Option.some.injEq, Prod.mk.injEq] at H;obtain ⟨rfl, rfl, rfl, rfl⟩ := H;obtain ⟨Ao6, co6, eo6⟩ := Kd.R_slice HO0_2.out;subst eo6;obtain ⟨Ao7, co7, eo7⟩ := Kd.R_slice HO0_3.out;subst eo7;obtain ⟨Ao8, co8, eo8⟩ := Kd.R_slice HO0_4.out;subst eo8;go_enter Try.func22, Try.ntmps22;go_wp2_with (first | ((with_reducible refine gate_dst (N := 2) rfl ?_); refine box_event ?hg (N := 2) ?hd (cs := #[.int .i64 a0_0, .int .i64 a0_1, .slice Ao6 l0_2.length co6, .slice Ao7 l0_3.length co7, .slice Ao8 l0_4.length co8]) (t := 31) ?hr ?_; (case hd => rfl); (case hg => rfl); (case hr => first | (go_simp; done) | (go_simp; rfl)); intro gb622 hg w9 hbox hb; refine ev8 (Kd.R_below (Kd.R_mv HO0_2.out) hb) (Kd.R_below (Kd.R_mv HO0_3.out) hb) (Kd.R_below (Kd.R_mv HO0_4.out) hb) (Kept.below (S := (fun k_ => P0_2_ k_ ∨ P0_3_ k_ ∨ P0_4_ k_)) (km HK) hb) (bs HB hb) (hbox) ((by rw [hg]; exact (by first | exact HK.out.1 | exact (show Kept w _ (fun k_ => P0_2_ k_ ∨ P0_3_ k_ ∨ P0_4_ k_) from km HK).1) : w.heap.size ≤ gb622)) (gle hg HB) ?_; clear HO0_2 HO0_3 HO0_4 HK HB; intro HO0_2 HO0_3 HO0_4 HK HB BK622 GW622 GE622; clear hb hbox hg; obtain ⟨hcz10_0, hcz10_1, hcz10_2, hcz10_3, hcz10_4, hfz10_0, hfz10_1, hfz10_2, hfz10_3, hfz10_4⟩ := bt5 BK622) | ((with_reducible refine gate_callee (f := 70) rfl ?_); refine gL_ (some 8) Try.func70 #[.slice Ao6 l0_2.length co6, .int .i64 a1] (h := ?_); (with_reducible refine (laws_markCellS.calls k (fun k_ => some k_ = (.slice Ao6 l0_2.length co6 : Value).ownBlock) (.slice Ao6 l0_2.length co6) l0_2 a1 t623 t624 w0 _ (bm HB) ?side2 A3.out).mono ?_); (case side2 => exact Kd.R_tight rfl HO0_2.out); rintro e w11 ⟨rfl, hy0, hb, hkp⟩; refine ⟨_, rfl, ?_⟩; refine ev6 (Kd.R_reok rfl hy0 (fun k_ e_ => HO0_2.out.1 k_ e_)) (Kd.R_mono (ok' := fun k_ => ((P0_2_ k_ ∨ P0_3_ k_ ∨ P0_4_ k_) ∨ w.heap.size ≤ k_) ∧ some k_ ≠ (.slice Ao8 l0_4.length co8 : Value).ownBlock) (Kd.R_keptB ((Kd.R_apart' HO0_3.out (Kd.R_typed HO0_2.out) (by decide))) hkp (fun k_ hk_ hs_ => (hk_.2) hs_)) (fun k_ hk_ => ⟨hk_.1.1.1, hk_.1.1.2⟩)) (Kd.R_mono (ok' := fun k_ => ((P0_2_ k_ ∨ P0_3_ k_ ∨ P0_4_ k_) ∨ w.heap.size ≤ k_) ∧ some k_ ≠ (.slice Ao7 l0_3.length co7 : Value).ownBlock) (Kd.R_keptB ((Kd.R_apart' HO0_4.out (Kd.R_typed HO0_2.out) (by decide))) hkp (fun k_ hk_ hs_ => (hk_.2) hs_)) (fun k_ hk_ => ⟨hk_.1.1.1, hk_.1.1.2⟩)) (blk_kept (km_ BK622) hkp (fun hs_ => (fun e_ => (Kd.R_ne HO0_2.out BK622.out (by decide)) e_) hs_)) (Kept.then_ (S := (fun k_ => P0_2_ k_ ∨ P0_3_ k_ ∨ P0_4_ k_)) (km HK) hkp (fun k_ hs_ => (fun e_ => (HO0_2.out.1 k_ e_.symm)) hs_)) (hb) ?_; clear HO0_2 HO0_3 HO0_4 BK622 HK HB; intro HO0_2 HO0_3 HO0_4 BK622 HK HB; (try clear hb); (try clear hkp); (try clear hy0); obtain ⟨hcz12_0, hcz12_1, hcz12_2, hcz12_3, hcz12_4, hfz12_0, hfz12_1, hfz12_2, hfz12_3, hfz12_4⟩ := bt5 BK622) | ((with_reducible refine gate_callee (f := 23) rfl ?_); refine gL_ (some 12) Try.func23 #[.slice Ao7 l0_3.length co7, .int .i64 t623] (h := ?_); (with_reducible refine (laws_markIntS.calls k (fun k_ => some k_ = (.slice Ao7 l0_3.length co7 : Value).ownBlock) (.slice Ao7 l0_3.length co7) l0_3 t623 t625 t626 w0 _ (bm HB) ?side2 A4.out).mono ?_); (case side2 => exact Kd.R_tight rfl HO0_3.out); rintro e w13 ⟨rfl, hy0, hb, hkp⟩; refine ⟨_, rfl, ?_⟩; refine ev6 (Kd.R_mono (ok' := fun k_ => ((P0_2_ k_ ∨ P0_3_ k_ ∨ P0_4_ k_) ∨ w.heap.size ≤ k_)) (Kd.R_keptB ((Kd.R_apart' HO0_2.out (Kd.R_typed HO0_3.out) (by decide))) hkp (fun k_ hk_ hs_ => (hk_.2) hs_)) (fun k_ hk_ => hk_.1.1)) (Kd.R_reok rfl hy0 (fun k_ e_ => HO0_3.out.1 k_ e_)) (Kd.R_mono (ok' := fun k_ => ((P0_2_ k_ ∨ P0_3_ k_ ∨ P0_4_ k_) ∨ w.heap.size ≤ k_) ∧ some k_ ≠ (.slice Ao7 l0_3.length co7 : Value).ownBlock) (Kd.R_keptB (HO0_4.out) hkp (fun k_ hk_ hs_ => (hk_.2) hs_)) (fun k_ hk_ => ⟨hk_.1.1, hk_.1.2⟩)) (blk_kept (km_ BK622) hkp (fun hs_ => (fun e_ => (Kd.R_ne HO0_3.out BK622.out (by decide)) e_) hs_)) (Kept.then_ (S := (fun k_ => P0_2_ k_ ∨ P0_3_ k_ ∨ P0_4_ k_)) (km HK) hkp (fun k_ hs_ => (fun e_ => (HO0_3.out.1 k_ e_.symm).1) hs_)) (hb) ?_; clear HO0_2 HO0_3 HO0_4 BK622 HK HB; intro HO0_2 HO0_3 HO0_4 BK622 HK HB; (try clear hb); (try clear hkp); (try clear hy0); obtain ⟨hcz14_0, hcz14_1, hcz14_2, hcz14_3, hcz14_4, hfz14_0, hfz14_1, hfz14_2, hfz14_3, hfz14_4⟩ := bt5 BK622) | ((with_reducible refine gate_callee (f := 23) rfl ?_); refine gL_ (some 16) Try.func23 #[.slice Ao8 l0_4.length co8, .int .i64 t625] (h := ?_); (with_reducible refine (laws_markIntS.calls k (fun k_ => some k_ = (.slice Ao8 l0_4.length co8 : Value).ownBlock) (.slice Ao8 l0_4.length co8) l0_4 t625 t627 t628 w0 _ (bm HB) ?side2 A5.out).mono ?_); (case side2 => exact Kd.R_tight rfl HO0_4.out); rintro e w15 ⟨rfl, hy0, hb, hkp⟩; refine ⟨_, rfl, ?_⟩; refine ev6 (Kd.R_mono (ok' := fun k_ => ((P0_2_ k_ ∨ P0_3_ k_ ∨ P0_4_ k_) ∨ w.heap.size ≤ k_)) (Kd.R_keptB ((Kd.R_apart' HO0_2.out (Kd.R_typed HO0_4.out) (by decide))) hkp (fun k_ hk_ hs_ => (hk_.2) hs_)) (fun k_ hk_ => hk_.1.1)) (Kd.R_mono (ok' := fun k_ => ((P0_2_ k_ ∨ P0_3_ k_ ∨ P0_4_ k_) ∨ w.heap.size ≤ k_) ∧ some k_ ≠ (.slice Ao8 l0_4.length co8 : Value).ownBlock) (Kd.R_keptB (HO0_3.out) hkp (fun k_ hk_ hs_ => (hk_.2) hs_)) (fun k_ hk_ => ⟨hk_.1.1, hk_.1.2⟩)) (Kd.R_reok rfl hy0 (fun k_ e_ => HO0_4.out.1 k_ e_)) (blk_kept (km_ BK622) hkp (fun hs_ => (fun e_ => (Kd.R_ne HO0_4.out BK622.out (by decide)) e_) hs_)) (Kept.then_ (S := (fun k_ => P0_2_ k_ ∨ P0_3_ k_ ∨ P0_4_ k_)) (km HK) hkp (fun k_ hs_ => (fun e_ => (HO0_4.out.1 k_ e_.symm).1) hs_)) (hb) ?_; clear HO0_2 HO0_3 HO0_4 BK622 HK HB; intro HO0_2 HO0_3 HO0_4 BK622 HK HB; (try clear hb); (try clear hkp); (try clear hy0)))
 go_ret;exact ⟨by first | rfl | (simp [e0_, e1_] <;> rfl) | (simp [*, e0_, e1_] <;> rfl), Kd.R_mv HO0_2.out, Kd.R_mv (Kd.R_mono (ok' := fun k_ => (((P0_2_ k_ ∨ P0_3_ k_ ∨ P0_4_ k_) ∨ w.heap.size ≤ k_))) HO0_3.out (fun _ hk => hk.1)), Kd.R_mv (Kd.R_mono (ok' := fun k_ => (((P0_2_ k_ ∨ P0_3_ k_ ∨ P0_4_ k_) ∨ w.heap.size ≤ k_))) HO0_4.out (fun _ hk => hk.1)), bm HB, km HK⟩

/-! ### laws_eqBoard: function 36 -/
def laws_eqBoard.f (k : Nat) (a0_0 : Int) (a0_1 : Int) (l0_2 : List (S88)) (a1_0 : Int) (a1_1 : Int) (l1_2 : List (S88)) : Option (Bool) := if a0_0 = a1_0 then (if a0_1 = a1_1 then ((laws_eqCellS.f k l0_2 l1_2).bind fun t959 => (if t959 = true then (some true) else (some false))) else (some false)) else (some false)
theorem laws_eqBoard.calls (k : Nat) (a0_0 : Int) (a0_1 : Int) (A0_2 : Option Addr) (c0_2 : Nat) (l0_2 : List (S88)) (a1_0 : Int) (a1_1 : Int) (A1_2 : Option Addr) (c1_2 : Nat) (l1_2 : List (S88)) (r : Bool) (w : World) (hr0_2 : Kd.C k88 w A0_2 l0_2.length l0_2) (hc0_2 : l0_2.length ≤ c0_2) (hr1_2 : Kd.C k88 w A1_2 l1_2.length l1_2) (hc1_2 : l1_2.length ≤ c1_2) (h : laws_eqBoard.f k a0_0 a0_1 l0_2 a1_0 a1_1 l1_2 = some r) :
    Calls Try.prog 36 #[.agg #[.int .i64 a0_0, .int .i64 a0_1, .slice A0_2 l0_2.length c0_2], .agg #[.int .i64 a1_0, .int .i64 a1_1, .slice A1_2 l1_2.length c1_2]] w fun e w' => e = .returned (.bool r) ∧ Below w.heap.size w w' := by
 have S := St.init (w := w) (dc k88_heap at88 hr0_2 hc0_2 (dc k88_heap at88 hr1_2 hc1_2 dn))
 clear hr0_2 hc0_2 hr1_2 hc1_2
 have F := S.fc
 have H := h; clear h; unfold laws_eqBoard.f at H
 replace H := sp_ H; rcases H with ⟨c3, H⟩ | ⟨c3, H⟩
 · skip
   replace c3 := ceq c3
   replace H := sp_ H; rcases H with ⟨c4, H⟩ | ⟨c4, H⟩
   · skip
     replace c4 := ceq c4
     replace H := Option.bind_eq_some_iff.mp H; obtain ⟨t959, A5, H⟩ := H; (try dsimp only at H)
     replace H := sp_ H; rcases H with ⟨c6, H⟩ | ⟨c6, H⟩
     · skip
       subst c6
       obtain rfl := Option.some.inj H
       go_enter Try.func36, Try.ntmps36
       go_wp2_with (first | ((with_reducible refine gd 2 rfl (L ?_)); refine bo 2 (.agg #[_, _, _]) S ?_; clear S F; intro gb957 W S; have F := S.fc) | ((with_reducible refine gd 3 rfl (L ?_)); refine bo 3 (.agg #[_, _, _]) S ?_; clear S F; intro gb958 W S; have F := S.fc) | ((with_reducible refine gate_callee (f := 66) rfl (L ?_)); refine cl (some 19) Try.func66 (laws_eqCellS.calls _ _ _ _ _ _ _ _ _ S.c S.n S.c S.n A5) (hargs := by (simp only [ma_, mb_, mc_, F] <;> rfl)) (h := ?_); rintro e W ⟨rfl, hb⟩; refine ⟨_, rfl, ?_⟩; replace S := S.go hb; clear F hb; have F := S.fc))
       go_ret
       exact ⟨(by first | rfl | (simp [e0_, e1_] <;> rfl) | (simp [*, e0_, e1_] <;> rfl)), S.below⟩
     · skip
       replace c6 := cbf c6; subst c6
       obtain rfl := Option.some.inj H
       go_enter Try.func36, Try.ntmps36
       go_wp2_with (first | ((with_reducible refine gd 2 rfl (L ?_)); refine bo 2 (.agg #[_, _, _]) S ?_; clear S F; intro gb957 W S; have F := S.fc) | ((with_reducible refine gd 3 rfl (L ?_)); refine bo 3 (.agg #[_, _, _]) S ?_; clear S F; intro gb958 W S; have F := S.fc) | ((with_reducible refine gate_callee (f := 66) rfl (L ?_)); refine cl (some 19) Try.func66 (laws_eqCellS.calls _ _ _ _ _ _ _ _ _ S.c S.n S.c S.n A5) (hargs := by (simp only [ma_, mb_, mc_, F] <;> rfl)) (h := ?_); rintro e W ⟨rfl, hb⟩; refine ⟨_, rfl, ?_⟩; replace S := S.go hb; clear F hb; have F := S.fc))
       go_ret
       exact ⟨(by first | rfl | (simp [e0_, e1_] <;> rfl) | (simp [*, e0_, e1_] <;> rfl)), S.below⟩
   · skip
     replace c4 := cne c4
     obtain rfl := Option.some.inj H
     go_enter Try.func36, Try.ntmps36
     go_wp2_with (first | ((with_reducible refine gd 2 rfl (L ?_)); refine bo 2 (.agg #[_, _, _]) S ?_; clear S F; intro gb957 W S; have F := S.fc) | ((with_reducible refine gd 3 rfl (L ?_)); refine bo 3 (.agg #[_, _, _]) S ?_; clear S F; intro gb958 W S; have F := S.fc))
     go_ret
     exact ⟨(by first | rfl | (simp [e0_, e1_] <;> rfl) | (simp [*, e0_, e1_] <;> rfl)), S.below⟩
 · skip
   replace c3 := cne c3
   obtain rfl := Option.some.inj H
   go_enter Try.func36, Try.ntmps36
   go_wp2_with (first | ((with_reducible refine gd 2 rfl (L ?_)); refine bo 2 (.agg #[_, _, _]) S ?_; clear S F; intro gb957 W S; have F := S.fc) | ((with_reducible refine gd 3 rfl (L ?_)); refine bo 3 (.agg #[_, _, _]) S ?_; clear S F; intro gb958 W S; have F := S.fc))
   go_ret
   exact ⟨(by first | rfl | (simp [e0_, e1_] <;> rfl) | (simp [*, e0_, e1_] <;> rfl)), S.below⟩

/-! ### laws_markBoard: function 38 -/
def laws_markBoard.f (k : Nat) (a0_0 : Int) (a0_1 : Int) (l0_2 : List (S88)) (a1 : Int) : Option (Int × (List (S88))) := (laws_markCellS.f k l0_2 a1).bind fun bt961 => (some (bt961.1, bt961.2))
theorem laws_markBoard.calls (k : Nat) (a0_0 : Int) (a0_1 : Int) (P0_2_ : Nat → Prop) (u9000_ : Value) (l0_2 : List (S88)) (a1 : Int) (r1 : Int) (r2 : List (S88)) (w0 w : World) (hB : Below w0.heap.size w0 w) (ho0_2 : Kd.R k88 88 w w0.heap.size P0_2_ u9000_ l0_2) (h : laws_markBoard.f k a0_0 a0_1 l0_2 a1 = some (r1, r2)) :
    Calls Try.prog 38 #[.agg #[.int .i64 a0_0, .int .i64 a0_1, u9000_], .int .i64 a1] w fun e w' => e = .returned (.int .i64 r1) ∧ Kd.R k88 88 w' w0.heap.size (fun k_ => (P0_2_ k_ ∨ w.heap.size ≤ k_)) u9000_ r2 ∧ Below w0.heap.size w0 w' ∧ Kept w w' (fun k_ => P0_2_ k_) := by
 obtain ⟨Al0_2, cl0_2, rfl⟩ := Kd.R_slice ho0_2
 have S := St.own1 at88 hB ho0_2 dn
 clear hB ho0_2
 have F := S.fc
 have H := h; clear h; unfold laws_markBoard.f at H
 replace H := Option.bind_eq_some_iff.mp H; obtain ⟨⟨t961, t962⟩, A3, H⟩ := H; (try dsimp only at H)
 simp only [Option.some.injEq, Prod.mk.injEq] at H
 obtain ⟨rfl, rfl⟩ := H
 go_enter Try.func38, Try.ntmps38
 go_wp2_with (first | ((with_reducible refine gd 2 rfl (L ?_)); refine bo 2 (.agg #[_, _, _]) S ?_; clear S F; intro gb960 W S; have F := S.fc) | ((with_reducible refine gate_callee (f := 70) rfl (L ?_)); obtain ⟨ok_, k_⟩ := S.lend (A := Al0_2); refine cl (some 8) Try.func70 (laws_markCellS.calls _ ok_ _ _ _ _ _ _ _ k_.below k_.own A3) (hargs := by (simp only [ma_, mb_, mc_, F] <;> rfl)) (h := ?_); rintro e W ⟨rfl, hy, hb, hk⟩; refine ⟨_, rfl, ?_⟩; clear S F; have S := k_.back _ _ hy hb hk; clear k_ hy hb hk ok_; have F := S.fc))
 go_ret
 exact ⟨(by first | rfl | (simp [e0_, e1_] <;> rfl) | (simp [*, e0_, e1_] <;> rfl)), (by first | exact S.rp | exact Kd.R_nil _ _ _ _ _), S.below, S.kept⟩

/-! ### laws_heldCellS: function 85 -/
def laws_heldCellS.l0 : Nat → List (S88) → Int → Int → Option (Int)
 | 0, _, _, _ => none
 | k + 1, x0, x1, x5 => if x5 < (x0.length : Int) then (if 0 ≤ x5 then (if ((rd_T88 x0 x5).f0) = x1 then (if ((rd_T88 x0 x5).f1) = (wrap64 (x1 + 1)) then (laws_heldCellS.l0 k x0 (wrap64 ((wrap64 (x1 + 1)) + 1)) (wrap64 (x5 + 1))) else (some (-1))) else (some (-1))) else (none)) else (some x1)
def laws_heldCellS.f (k : Nat) (l0 : List (S88)) (a1 : Int) : Option (Int) := laws_heldCellS.l0 k l0 a1 0
theorem laws_heldCellS.calls (k : Nat) (A0 : Option Addr) (c0 : Nat) (l0 : List (S88)) (a1 : Int) (r : Int) (w : World) (hr0 : Kd.C k88 w A0 l0.length l0) (hc0 : l0.length ≤ c0) (h : laws_heldCellS.f k l0 a1 = some r) :
  Calls Try.prog 85 #[.slice A0 l0.length c0, .int .i64 a1] w fun e w' => e = .returned (.int .i64 r) ∧ Drawn0 w w' := by
 have HR0 := Aside0.mk hr0;have HC0 := Aside0.mk hc0;clear hr0 hc0;have H : (laws_heldCellS.l0 k l0 a1 0) = some r := h;clear h;have H' := Aside0.mk H;clear H;go_enter Try.func85, Try.ntmps85;go_wp2;go_loopg [1, 5] k (fun kq v1 v5 w' => ∃ (x1_1 : Int) (x5_1 : Int), v1 = .int .i64 x1_1 ∧ v5 = .int .i64 x5_1 ∧ Aside0 (laws_heldCellS.l0 kq l0 x1_1 x5_1 = some r) ∧ Aside0 (kq ≤ k) ∧ Drawn0 w w')
 case atStart => exact ⟨(a1), (0), (by first | rfl | (simp; done) | (simp [*]; done)), (by first | rfl | (simp; done) | (simp [*]; done)), H', ⟨Nat.le_refl _⟩, by repeat (first | exact Drawn0.refl _ | apply Drawn0.step)⟩
 case round =>
  clear H';(try clear p2);obtain ⟨x1_1, x5_1, rfl, rfl, HA, HK1, ⟨m1, rfl⟩⟩ := hrel;cases gk with
  | zero => exact absurd HA.out (by simp [laws_heldCellS.l0])
  | succ k1 =>
   have H := HA.out;clear HA;simp only [laws_heldCellS.l0] at H;by_cases c3 : x5_1 < (l0.length : Int)
   ·rw [if_pos c3] at H;have c3b0 : decide (x5_1 < (l0.length : Int)) = true := decide_eq_true c3;clear c3;replace H := np_ H;obtain ⟨c4, H⟩ := H;have c4b0 : decide (0 ≤ x5_1) = true := decide_eq_true c4;clear c4;by_cases c5 : ((rd_T88 l0 x5_1).f0) = x1_1
    ·rw [if_pos c5] at H;have c5b0 : (((rd_T88 l0 x5_1).f0) == x1_1) = true := beq_iff_eq.mpr c5;have c5b1 : (((rd_T88 l0 x5_1).f0) != x1_1) = false := bne_eq_false_iff_eq.mpr c5;clear c5;by_cases c6 : ((rd_T88 l0 x5_1).f1) = (wrap64 (x1_1 + 1))
     ·rw [if_pos c6] at H;have c6b0 : (((rd_T88 l0 x5_1).f1) == (wrap64 (x1_1 + 1))) = true := beq_iff_eq.mpr c6;have c6b1 : (((rd_T88 l0 x5_1).f1) != (wrap64 (x1_1 + 1))) = false := bne_eq_false_iff_eq.mpr c6;clear c6;have H' := Aside0.mk H;clear H;have p987 : 0 ≤ (x5_1 : Int) := of_decide_eq_true (by first | (with_reducible assumption) | assumption);have q987 : x5_1 < (l0.length : Int) := of_decide_eq_true (by first | (with_reducible assumption) | assumption);obtain ⟨ad987, e987, hx987_0, hx987_1⟩ := at_T88 HR0.out x5_1 p987 q987;cases e987;replace p987 := eq_true p987;replace q987 := eq_true q987;have p988 : 0 ≤ (x5_1 : Int) := of_decide_eq_true (by first | (with_reducible assumption) | assumption);have q988 : x5_1 < (l0.length : Int) := of_decide_eq_true (by first | (with_reducible assumption) | assumption);obtain ⟨ad988, e988, hx988_0, hx988_1⟩ := at_T88 HR0.out x5_1 p988 q988;obtain rfl : ad987 = ad988 := (by injection e988)
      replace p988 := eq_true p988;replace q988 := eq_true q988;go_wp2;go_roundg k1
      case measure => have := HK1.out; omega
      case rel => exact ⟨(wrap64 ((wrap64 (x1_1 + 1)) + 1)), (wrap64 (x5_1 + 1)), (by first | rfl | (simp; done) | (simp [*]; done)), (by first | rfl | (simp; done) | (simp [*]; done)), H', ⟨by have := HK1.out; omega⟩, by repeat (first | exact Drawn0.refl _ | apply Drawn0.step)⟩
     ·rw [if_neg c6] at H;have c6b0 : (((rd_T88 l0 x5_1).f1) == (wrap64 (x1_1 + 1))) = false := beq_eq_false_iff_ne.mpr c6;have c6b1 : (((rd_T88 l0 x5_1).f1) != (wrap64 (x1_1 + 1))) = true := bne_iff_ne.mpr c6;obtain rfl := Option.some.inj H;have p987 : 0 ≤ (x5_1 : Int) := of_decide_eq_true (by first | (with_reducible assumption) | assumption);have q987 : x5_1 < (l0.length : Int) := of_decide_eq_true (by first | (with_reducible assumption) | assumption);obtain ⟨ad987, e987, hx987_0, hx987_1⟩ := at_T88 HR0.out x5_1 p987 q987;cases e987;replace p987 := eq_true p987;replace q987 := eq_true q987;have p988 : 0 ≤ (x5_1 : Int) := of_decide_eq_true (by first | (with_reducible assumption) | assumption);have q988 : x5_1 < (l0.length : Int) := of_decide_eq_true (by first | (with_reducible assumption) | assumption);obtain ⟨ad988, e988, hx988_0, hx988_1⟩ := at_T88 HR0.out x5_1 p988 q988;obtain rfl : ad987 = ad988 := (by injection e988)
      replace p988 := eq_true p988;replace q988 := eq_true q988;go_wp2;go_ret;exact ⟨by first | rfl | (simp; done) | (simp [*]; done), by repeat (first | exact Drawn0.refl _ | apply Drawn0.step)⟩
    ·rw [if_neg c5] at H;have c5b0 : (((rd_T88 l0 x5_1).f0) == x1_1) = false := beq_eq_false_iff_ne.mpr c5;have c5b1 : (((rd_T88 l0 x5_1).f0) != x1_1) = true := bne_iff_ne.mpr c5;obtain rfl := Option.some.inj H;have p987 : 0 ≤ (x5_1 : Int) := of_decide_eq_true (by first | (with_reducible assumption) | assumption);have q987 : x5_1 < (l0.length : Int) := of_decide_eq_true (by first | (with_reducible assumption) | assumption);obtain ⟨ad987, e987, hx987_0, hx987_1⟩ := at_T88 HR0.out x5_1 p987 q987;cases e987;replace p987 := eq_true p987;replace q987 := eq_true q987;go_wp2;go_ret;exact ⟨by first | rfl | (simp; done) | (simp [*]; done), by repeat (first | exact Drawn0.refl _ | apply Drawn0.step)⟩
   ·rw [if_neg c3] at H;have c3b0 : decide (x5_1 < (l0.length : Int)) = false := decide_eq_false c3;clear c3;obtain rfl := Option.some.inj H;go_wp2;go_ret;exact ⟨by first | rfl | (simp; done) | (simp [*]; done), by repeat (first | exact Drawn0.refl _ | apply Drawn0.step)⟩

/-! ### laws_heldBoard: function 46 -/
def laws_heldBoard.f (k : Nat) (a0_0 : Int) (a0_1 : Int) (l0_2 : List (S88)) (a1 : Int) : Option (Int) := (laws_heldCellS.f k l0_2 a1).bind fun t990 => (if t990 < 0 then (some (-1)) else (some t990))
theorem laws_heldBoard.calls (k : Nat) (a0_0 : Int) (a0_1 : Int) (A0_2 : Option Addr) (c0_2 : Nat) (l0_2 : List (S88)) (a1 : Int) (r : Int) (w : World) (hr0_2 : Kd.C k88 w A0_2 l0_2.length l0_2) (hc0_2 : l0_2.length ≤ c0_2) (h : laws_heldBoard.f k a0_0 a0_1 l0_2 a1 = some r) :
    Calls Try.prog 46 #[.agg #[.int .i64 a0_0, .int .i64 a0_1, .slice A0_2 l0_2.length c0_2], .int .i64 a1] w fun e w' => e = .returned (.int .i64 r) ∧ Below w.heap.size w w' := by
 have S := St.init (w := w) (dc k88_heap at88 hr0_2 hc0_2 dn)
 clear hr0_2 hc0_2
 have F := S.fc
 have H := h; clear h; unfold laws_heldBoard.f at H
 replace H := Option.bind_eq_some_iff.mp H; obtain ⟨t990, A3, H⟩ := H; (try dsimp only at H)
 replace H := sp_ H; rcases H with ⟨c4, H⟩ | ⟨c4, H⟩
 · skip
   obtain rfl := Option.some.inj H
   go_enter Try.func46, Try.ntmps46
   go_wp2_with (first | ((with_reducible refine gd 2 rfl (L ?_)); refine bo 2 (.agg #[_, _, _]) S ?_; clear S F; intro gb989 W S; have F := S.fc) | ((with_reducible refine gate_callee (f := 85) rfl (L ?_)); refine cl (some 8) Try.func85 (laws_heldCellS.calls _ _ _ _ _ _ _ S.c S.n A3) (hargs := by (simp only [ma_, mb_, mc_, F] <;> rfl)) (h := ?_); rintro e W ⟨rfl, hb⟩; refine ⟨_, rfl, ?_⟩; replace S := S.gw hb; clear F hb; have F := S.fc))
   go_ret
   exact ⟨(by first | rfl | (simp [e0_, e1_] <;> rfl) | (simp [*, e0_, e1_] <;> rfl)), S.below⟩
 · skip
   obtain rfl := Option.some.inj H
   go_enter Try.func46, Try.ntmps46
   go_wp2_with (first | ((with_reducible refine gd 2 rfl (L ?_)); refine bo 2 (.agg #[_, _, _]) S ?_; clear S F; intro gb989 W S; have F := S.fc) | ((with_reducible refine gate_callee (f := 85) rfl (L ?_)); refine cl (some 8) Try.func85 (laws_heldCellS.calls _ _ _ _ _ _ _ S.c S.n A3) (hargs := by (simp only [ma_, mb_, mc_, F] <;> rfl)) (h := ?_); rintro e W ⟨rfl, hb⟩; refine ⟨_, rfl, ?_⟩; replace S := S.gw hb; clear F hb; have F := S.fc))
   go_ret
   exact ⟨(by first | rfl | (simp [e0_, e1_] <;> rfl) | (simp [*, e0_, e1_] <;> rfl)), S.below⟩
end Go.Proofs.Ytipaimgpmgbkiaa.F
