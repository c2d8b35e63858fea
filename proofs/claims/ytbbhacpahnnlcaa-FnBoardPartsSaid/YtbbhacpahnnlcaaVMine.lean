/- Small words for shorter walks: facts carried over plain steps by instances. No conditions. -/
import Derived.Test.YtbbhacpahnnlcaaVMore
import Derived.Test.YtbbhacpahnnlcaaVApart
import Derived.Test.YtbbhacpahnnlcaaVTab
import Derived.Test.YtbbhacpahnnlcaaVLast
import Derived.Test.YtbbhacpahnnlcaaVN
import Derived.Test.YtbbhacpahnnlcaaVQPut
import Derived.Test.YtbbhacpahnnlcaaVKept
import Derived.Test.YtbbhacpahnnlcaaVShare
namespace Go.Proofs.YtbbhacpahnnlcaaV.PrintMore
open Go.RowKit Go.Proofs.YtbbhacpahnnlcaaV.PrintWords Go.Proofs.YtbbhacpahnnlcaaV.PrintLast

/-- Plain steps: new blocks and draws. -/
class Pl (w w' : World) : Prop where out : Below w.heap.size w w'
instance {w : World} : Pl w w := ⟨Below.refl _ _⟩
instance {w w' : World} {o : Obj} [h : Pl w w'] : Pl w (w'.alloc o) := ⟨below_alloc h.out o⟩
instance {w w' : World} {n : Nat} [h : Pl w w'] : Pl w (w'.drewN n) := ⟨pw_below_drewN h.out n⟩
instance {w w' : World} [h : Pl w w'] : Pl w w'.drew := ⟨below_drew h.out⟩
theorem sg_lt {w w' : World} {k : Nat} (hl : k < w.heap.size) (e : w'.heap[k]? = w.heap[k]?) : k < w'.heap.size := by
  rw [Array.getElem?_eq_getElem hl] at e
  exact (Array.getElem?_eq_some_iff.1 e).1
/-- Stores into one block, and plain steps. -/
class Sg (g : Nat) (w w' : World) : Prop where out : ∀ k, k ≠ g → k < w.heap.size → w'.heap[k]? = w.heap[k]?
instance {g : Nat} {w : World} : Sg g w w := ⟨fun _ _ _ => rfl⟩
instance {g j : Nat} {w w' : World} {v : Value} [h : Sg g w w'] : Sg g w (w'.setCell ⟨g, j, none⟩ v) := ⟨fun k hk hl => (Below.heap_setCell w' ⟨g, j, none⟩ v k hk).trans (h.out k hk hl)⟩
instance {g : Nat} {w w' : World} {o : Obj} [h : Sg g w w'] : Sg g w (w'.alloc o) := ⟨fun k hk hl => ((below_alloc (Below.refl _ w') o).block k (sg_lt hl (h.out k hk hl))).trans (h.out k hk hl)⟩
instance {g n : Nat} {w w' : World} [h : Sg g w w'] : Sg g w (w'.drewN n) := ⟨fun k hk hl => ((pw_below_drewN (Below.refl _ w') n).block k (sg_lt hl (h.out k hk hl))).trans (h.out k hk hl)⟩
instance {g : Nat} {w w' : World} [h : Sg g w w'] : Sg g w w'.drew := ⟨fun k hk hl => ((below_drew (Below.refl _ w')).block k (sg_lt hl (h.out k hk hl))).trans (h.out k hk hl)⟩
/-- The same, with stores into blocks that are new. -/
class Bs (w0 w w' : World) : Prop where out : Below w0.heap.size w0 w → Below w0.heap.size w0 w'
instance {w0 w : World} : Bs w0 w w := ⟨fun h => h⟩
instance {w0 w w' : World} {o : Obj} [h : Bs w0 w w'] : Bs w0 w (w'.alloc o) := ⟨fun g => below_alloc (h.out g) o⟩
instance {w0 w w' : World} {n : Nat} [h : Bs w0 w w'] : Bs w0 w (w'.drewN n) := ⟨fun g => pw_below_drewN (h.out g) n⟩
instance {w0 w w' : World} [h : Bs w0 w w'] : Bs w0 w w'.drew := ⟨fun g => below_drew (h.out g)⟩
instance {w0 w w' : World} {g j : Nat} {v : Value} [h : Bs w0 w w'] [hg : Aside0 (w0.heap.size ≤ g)] : Bs w0 w (w'.setCell ⟨g, j, none⟩ v) := ⟨fun k => below_set (h.out k) hg.out⟩
theorem bm {w0 w w' : World} (h : Aside0 (Below w0.heap.size w0 w)) [k : Bs w0 w w'] : Below w0.heap.size w0 w' := k.out h.out
class Ks (w : World) (S : Nat → Prop) (W W' : World) : Prop where out : Kept w W S → Kept w W' S
instance {w W : World} {S : Nat → Prop} : Ks w S W W := ⟨fun h => h⟩
instance {w W W' : World} {S : Nat → Prop} {o : Obj} [h : Ks w S W W'] : Ks w S W (W'.alloc o) := ⟨fun g => (h.out g).alloc o⟩
instance {w W W' : World} {S : Nat → Prop} {n : Nat} [h : Ks w S W W'] : Ks w S W (W'.drewN n) := ⟨fun g => (h.out g).drewN n⟩
instance {w W W' : World} {S : Nat → Prop} [h : Ks w S W W'] : Ks w S W W'.drew := ⟨fun g => (h.out g).drew⟩
instance {w W W' : World} {S : Nat → Prop} {g j : Nat} {v : Value} [h : Ks w S W W'] [hg : Aside0 (w.heap.size ≤ g)] : Ks w S W (W'.setCell ⟨g, j, none⟩ v) := ⟨fun k => (h.out k).setCell (.inr hg.out) v⟩
theorem km {w W W' : World} {S : Nat → Prop} (h : Aside0 (Kept w W S)) [k : Ks w S W W'] : Kept w W' S := k.out h.out
theorem km_ {w w' : World} {g : Nat} {o : Obj} (h : Aside0 (w.heap[g]? = some o)) [k : Pl w w'] : w'.heap[g]? = some o := blk_below h.out k.out
/-- A block's cells over plain steps, stores elsewhere and stores into it. -/
class Pb (g : Nat) (w w' : World) (cs : Array Value) (cs' : outParam (Array Value)) : Prop where out : ∀ t, w.heap[g]? = some (.cells cs t (0, 0)) → w'.heap[g]? = some (.cells cs' t (0, 0))
instance {g : Nat} {w : World} {cs : Array Value} : Pb g w w cs cs := ⟨fun _ h => h⟩
instance {g : Nat} {w w' : World} {cs cs' : Array Value} {o : Obj} [h : Pb g w w' cs cs'] : Pb g w (w'.alloc o) cs cs' := ⟨fun t k => blk_alloc (h.out t k) o⟩
instance {g n : Nat} {w w' : World} {cs cs' : Array Value} [h : Pb g w w' cs cs'] : Pb g w (w'.drewN n) cs cs' := ⟨fun t k => blk_drewN (h.out t k) n⟩
instance {g : Nat} {w w' : World} {cs cs' : Array Value} [h : Pb g w w' cs cs'] : Pb g w w'.drew cs cs' := ⟨fun t k => blk_drew (h.out t k)⟩
instance {g g' j : Nat} {w w' : World} {cs cs' : Array Value} {v : Value} [h : Pb g w w' cs cs'] [hn : Aside0 (g ≠ g')] : Pb g w (w'.setCell ⟨g', j, none⟩ v) cs cs' := ⟨fun t k => blk_far (h.out t k) hn.out v⟩
instance {g j : Nat} {w w' : World} {cs cs' : Array Value} {v : Value} [h : Pb g w w' cs cs'] : Pb g w (w'.setCell ⟨g, j, none⟩ v) cs (cs'.setIfInBounds j v) := ⟨fun t k => blk_put (h.out t k) j v rfl⟩
theorem fp {g t : Nat} {w w' : World} {cs cs' cs2 : Array Value} (h : Aside0 (w.heap[g]? = some (.cells cs t (0, 0)))) [k : Pb g w w' cs cs'] (e : cs' = cs2) : w'.heap[g]? = some (.cells cs2 t (0, 0)) := e ▸ k.out t h.out
theorem km__ {w w' : World} {g : Nat} {o : Obj} (h : w.heap[g]? = some o) [k : Pl w w'] : w'.heap[g]? = some o := blk_below h k.out
namespace Kd
open Go.Proofs.YtbbhacpahnnlcaaV.PrintWords.Kd
section
variable {α : Type} {d : Kd α} {e base : Nat} {ok : Nat → Prop} {w w' : World} {v : Value} {xs : List α}
theorem C_mv {A : Option Addr} {n : Nat} (h : d.C w A n xs) [k : Pl w w'] : d.C w' A n xs := C_below h k.out
theorem R_mv (h : Kd.R d e w base ok v xs) [k : Pl w w'] : Kd.R d e w' base ok v xs := R_below h k.out
theorem S_mv (h : Kd.S d e w base ok v xs) [k : Pl w w'] : Kd.S d e w' base ok v xs := S_below h k.out
theorem Q_mv (h : Kd.Q d e w base ok v xs) [k : Pl w w'] : Kd.Q d e w' base ok v xs := Q_below h k.out
theorem N_mv (h : Kd.N d e w base ok v xs) [k : Pl w w'] : Kd.N d e w' base ok v xs := N_below h k.out
theorem V_mv (h : Kd.V d e w base ok v xs) [k : Pl w w'] : Kd.V d e w' base ok v xs := V_below h k.out
theorem R_ft {g t : Nat} {cells : Array Value} (h : Kd.R d e w base ok v xs) (hb : w.heap[g]? = some (.cells cells t (0, 0))) (ht : ∀ q, q ∈ e :: d.E → q ≠ t) [s : Sg g w w'] : Kd.R d e w' base ok v xs := R_mono (R_step (R_types h hb ht) (fun k hk hl => s.out k hk.2 hl)) (fun _ hk => hk.1)
end
end Kd
section
theorem gle {w0 w W : World} {g : Nat} (hg : g = W.heap.size) (h : Aside0 (Below w0.heap.size w0 w)) [k : Bs w0 w W] : w0.heap.size ≤ g := hg ▸ below_size (k.out h.out)
theorem gne {w W : World} {g g' : Nat} {o : Obj} (hg : g' = W.heap.size) (h : Aside0 (w.heap[g]? = some o)) [k : Pl w W] : g' ≠ g := hg ▸ Nat.ne_of_gt (blk_lt (km_ h))
theorem gnf {w W : World} {g g' : Nat} {o : Obj} (hg : g' = W.heap.size) (h : Aside0 (w.heap[g]? = some o)) [k : Pl w W] : g ≠ g' := hg ▸ Nat.ne_of_lt (blk_lt (km_ h))
theorem kb {w W w1 : World} {g : Nat} {o : Obj} (h : Aside0 (w.heap[g]? = some o)) [k : Pl w W] (hb : Below W.heap.size W w1) : w1.heap[g]? = some o := blk_below (km_ h) hb
theorem bs {w0 w W w1 : World} (h : Aside0 (Below w0.heap.size w0 w)) [k : Bs w0 w W] (hb : Below W.heap.size W w1) : Below w0.heap.size w0 w1 := below_step (bm h) hb
theorem tne {w : World} {g g' t t' : Nat} {cs ds : Array Value} (h : Aside0 (w.heap[g]? = some (.cells ds t (0, 0)))) (h' : Aside0 (w.heap[g']? = some (.cells cs t' (0, 0)))) (ht : t ≠ t') : g' ≠ g ∧ g ≠ g' := by
  have e : g' ≠ g := by
    rintro rfl
    have e := h.out.symm.trans h'.out
    injection e with e; injection e with _ e _
    exact ht e
  exact ⟨e, fun q => e q.symm⟩
abbrev Y : Bool := true
abbrev Z : Bool := false
section
variable {P : Program} {ops : Array Oper} {Q : Exit → Act → World → Prop} {md : Region.Mode} {S : World → Prop} {ds : List Nat} {T : Bool × List (List Nat × List Nat)}
theorem pA (i : Nat) (N : Option Tmp) {oi : Oper} (v : Value) {fuel : Nat} {l : Array Bool} {a : Act} {w : World} (l' : Array Bool) (hi : ops[i]? = some oi) (hN : oi.dst = N) (hT : Aside0 (rtab md ops = T)) (h0 : anyT T l.toList l'.toList i = true)
    (hQ : ∀ c a w, Q (.panic c) (a.put oi.dst v) w → Q (.panic c) a w) (hb : Region.wanted oi (yielded ops a.tmps) = true) (hv : ∀ w, (execOp a.eval oi).run P w = .ok (.value v) w) (a' : Act) (ha : a.put N v = a')
    (h : wpAnyLast P md ops Q S ds fuel l' a' w) : wpAnyLast P md ops Q S ds (fuel + 1) l a w := pure_ l' hi hN (any_of hT.out h0) hQ (.inl ⟨hb, hv⟩) ha h
theorem tA (i : Nat) (N : Option Tmp) {oi : Oper} (v : Value) {fuel : Nat} {l : Array Bool} {a : Act} {w : World} (l' : Array Bool) (hi : ops[i]? = some oi) (hN : oi.dst = N) (hT : Aside0 (rtab md ops = T)) {B : List Nat} (hB : Aside0 (waitsOk T.2 B = true)) (h0 : takeW T B ds l.toList l'.toList i = true)
    (hQ : ∀ c a w, Q (.panic c) (a.put oi.dst v) w → Q (.panic c) a w) (hb : Region.wanted oi (yielded ops a.tmps) = true) (hv : ∀ w, S w → (execOp a.eval oi).run P w = .ok (.value v) w) (hS : S w) (a' : Act) (ha : a.put N v = a')
    (h : wpAnyLast P md ops Q S ds fuel l' a' w) : wpAnyLast P md ops Q S ds (fuel + 1) l a w := take_ l' hi hN (take_ofW hT.out hB.out h0) hQ (.inl ⟨hb, hv⟩) hS ha h
end
theorem za_ {α : Type _} {xs : List α} {i : Nat} {a : α} : xs.toArray.setIfInBounds i a = (xs.set i a).toArray := List.setIfInBounds_toArray _ _ _
theorem zb_ {α : Type _} {x a : α} {xs : List α} : (x :: xs).set 0 a = a :: xs := List.set_cons_zero
theorem zc_ {α : Type _} {x a : α} {xs : List α} {n : Nat} : (x :: xs).set (n + 1) a = x :: xs.set n a := List.set_cons_succ
theorem np_ {α : Type _} {c : Prop} [Decidable c] {a : Option α} {r : α} (H : (if c then a else none) = some r) : c ∧ a = some r := by
  by_cases h : c
  · rw [if_pos h] at H; exact ⟨h, H⟩
  · rw [if_neg h] at H; exact absurd H (by simp)
theorem nn_ {α : Type _} {c : Prop} [Decidable c] {a : Option α} {r : α} (H : (if c then none else a) = some r) : ¬ c ∧ a = some r := by
  by_cases h : c
  · rw [if_pos h] at H; exact absurd H (by simp)
  · rw [if_neg h] at H; exact ⟨h, H⟩
theorem ma_ {α β : Type _} {f : α → β} {l : List α} : l.toArray.map f = (l.map f).toArray := List.map_toArray
theorem mb_ {α β : Type _} {f : α → β} {a : α} {l : List α} : (a :: l).map f = f a :: l.map f := List.map_cons
theorem mc_ {α β : Type _} {f : α → β} : ([] : List α).map f = [] := List.map_nil
theorem ev1 {p0 G : Prop} (h0 : p0) (k : Aside0 p0 → G) : G := k ⟨h0⟩
theorem ev2 {p0 p1 G : Prop} (h0 : p0) (h1 : p1) (k : Aside0 p0 → Aside0 p1 → G) : G := k ⟨h0⟩ ⟨h1⟩
theorem ev3 {p0 p1 p2 G : Prop} (h0 : p0) (h1 : p1) (h2 : p2) (k : Aside0 p0 → Aside0 p1 → Aside0 p2 → G) : G := k ⟨h0⟩ ⟨h1⟩ ⟨h2⟩
theorem ev4 {p0 p1 p2 p3 G : Prop} (h0 : p0) (h1 : p1) (h2 : p2) (h3 : p3) (k : Aside0 p0 → Aside0 p1 → Aside0 p2 → Aside0 p3 → G) : G := k ⟨h0⟩ ⟨h1⟩ ⟨h2⟩ ⟨h3⟩
theorem ev5 {p0 p1 p2 p3 p4 G : Prop} (h0 : p0) (h1 : p1) (h2 : p2) (h3 : p3) (h4 : p4) (k : Aside0 p0 → Aside0 p1 → Aside0 p2 → Aside0 p3 → Aside0 p4 → G) : G := k ⟨h0⟩ ⟨h1⟩ ⟨h2⟩ ⟨h3⟩ ⟨h4⟩
theorem ev6 {p0 p1 p2 p3 p4 p5 G : Prop} (h0 : p0) (h1 : p1) (h2 : p2) (h3 : p3) (h4 : p4) (h5 : p5) (k : Aside0 p0 → Aside0 p1 → Aside0 p2 → Aside0 p3 → Aside0 p4 → Aside0 p5 → G) : G := k ⟨h0⟩ ⟨h1⟩ ⟨h2⟩ ⟨h3⟩ ⟨h4⟩ ⟨h5⟩
theorem ev7 {p0 p1 p2 p3 p4 p5 p6 G : Prop} (h0 : p0) (h1 : p1) (h2 : p2) (h3 : p3) (h4 : p4) (h5 : p5) (h6 : p6) (k : Aside0 p0 → Aside0 p1 → Aside0 p2 → Aside0 p3 → Aside0 p4 → Aside0 p5 → Aside0 p6 → G) : G := k ⟨h0⟩ ⟨h1⟩ ⟨h2⟩ ⟨h3⟩ ⟨h4⟩ ⟨h5⟩ ⟨h6⟩
theorem ev8 {p0 p1 p2 p3 p4 p5 p6 p7 G : Prop} (h0 : p0) (h1 : p1) (h2 : p2) (h3 : p3) (h4 : p4) (h5 : p5) (h6 : p6) (h7 : p7) (k : Aside0 p0 → Aside0 p1 → Aside0 p2 → Aside0 p3 → Aside0 p4 → Aside0 p5 → Aside0 p6 → Aside0 p7 → G) : G := k ⟨h0⟩ ⟨h1⟩ ⟨h2⟩ ⟨h3⟩ ⟨h4⟩ ⟨h5⟩ ⟨h6⟩ ⟨h7⟩
theorem ev9 {p0 p1 p2 p3 p4 p5 p6 p7 p8 G : Prop} (h0 : p0) (h1 : p1) (h2 : p2) (h3 : p3) (h4 : p4) (h5 : p5) (h6 : p6) (h7 : p7) (h8 : p8) (k : Aside0 p0 → Aside0 p1 → Aside0 p2 → Aside0 p3 → Aside0 p4 → Aside0 p5 → Aside0 p6 → Aside0 p7 → Aside0 p8 → G) : G := k ⟨h0⟩ ⟨h1⟩ ⟨h2⟩ ⟨h3⟩ ⟨h4⟩ ⟨h5⟩ ⟨h6⟩ ⟨h7⟩ ⟨h8⟩
theorem ev10 {p0 p1 p2 p3 p4 p5 p6 p7 p8 p9 G : Prop} (h0 : p0) (h1 : p1) (h2 : p2) (h3 : p3) (h4 : p4) (h5 : p5) (h6 : p6) (h7 : p7) (h8 : p8) (h9 : p9) (k : Aside0 p0 → Aside0 p1 → Aside0 p2 → Aside0 p3 → Aside0 p4 → Aside0 p5 → Aside0 p6 → Aside0 p7 → Aside0 p8 → Aside0 p9 → G) : G := k ⟨h0⟩ ⟨h1⟩ ⟨h2⟩ ⟨h3⟩ ⟨h4⟩ ⟨h5⟩ ⟨h6⟩ ⟨h7⟩ ⟨h8⟩ ⟨h9⟩
theorem ev11 {p0 p1 p2 p3 p4 p5 p6 p7 p8 p9 p10 G : Prop} (h0 : p0) (h1 : p1) (h2 : p2) (h3 : p3) (h4 : p4) (h5 : p5) (h6 : p6) (h7 : p7) (h8 : p8) (h9 : p9) (h10 : p10) (k : Aside0 p0 → Aside0 p1 → Aside0 p2 → Aside0 p3 → Aside0 p4 → Aside0 p5 → Aside0 p6 → Aside0 p7 → Aside0 p8 → Aside0 p9 → Aside0 p10 → G) : G := k ⟨h0⟩ ⟨h1⟩ ⟨h2⟩ ⟨h3⟩ ⟨h4⟩ ⟨h5⟩ ⟨h6⟩ ⟨h7⟩ ⟨h8⟩ ⟨h9⟩ ⟨h10⟩
theorem ev12 {p0 p1 p2 p3 p4 p5 p6 p7 p8 p9 p10 p11 G : Prop} (h0 : p0) (h1 : p1) (h2 : p2) (h3 : p3) (h4 : p4) (h5 : p5) (h6 : p6) (h7 : p7) (h8 : p8) (h9 : p9) (h10 : p10) (h11 : p11) (k : Aside0 p0 → Aside0 p1 → Aside0 p2 → Aside0 p3 → Aside0 p4 → Aside0 p5 → Aside0 p6 → Aside0 p7 → Aside0 p8 → Aside0 p9 → Aside0 p10 → Aside0 p11 → G) : G := k ⟨h0⟩ ⟨h1⟩ ⟨h2⟩ ⟨h3⟩ ⟨h4⟩ ⟨h5⟩ ⟨h6⟩ ⟨h7⟩ ⟨h8⟩ ⟨h9⟩ ⟨h10⟩ ⟨h11⟩
theorem bt1 {w : World} {g t : Nat} {c0 : Value} (h : Aside0 (w.heap[g]? = some (.cells #[c0] t (0, 0)))) : w.cell? ⟨g, 0, none⟩ = some c0 ∧ w.frozen? ⟨g, 0, none⟩ = false := ⟨(blk_cell h.out 0).trans rfl, blk_frozen h.out 0⟩
theorem bt2 {w : World} {g t : Nat} {c0 c1 : Value} (h : Aside0 (w.heap[g]? = some (.cells #[c0, c1] t (0, 0)))) : w.cell? ⟨g, 0, none⟩ = some c0 ∧ w.cell? ⟨g, 1, none⟩ = some c1 ∧ w.frozen? ⟨g, 0, none⟩ = false ∧ w.frozen? ⟨g, 1, none⟩ = false := ⟨(blk_cell h.out 0).trans rfl, (blk_cell h.out 1).trans rfl, blk_frozen h.out 0, blk_frozen h.out 1⟩
theorem bt3 {w : World} {g t : Nat} {c0 c1 c2 : Value} (h : Aside0 (w.heap[g]? = some (.cells #[c0, c1, c2] t (0, 0)))) : w.cell? ⟨g, 0, none⟩ = some c0 ∧ w.cell? ⟨g, 1, none⟩ = some c1 ∧ w.cell? ⟨g, 2, none⟩ = some c2 ∧ w.frozen? ⟨g, 0, none⟩ = false ∧ w.frozen? ⟨g, 1, none⟩ = false ∧ w.frozen? ⟨g, 2, none⟩ = false := ⟨(blk_cell h.out 0).trans rfl, (blk_cell h.out 1).trans rfl, (blk_cell h.out 2).trans rfl, blk_frozen h.out 0, blk_frozen h.out 1, blk_frozen h.out 2⟩
theorem bt4 {w : World} {g t : Nat} {c0 c1 c2 c3 : Value} (h : Aside0 (w.heap[g]? = some (.cells #[c0, c1, c2, c3] t (0, 0)))) : w.cell? ⟨g, 0, none⟩ = some c0 ∧ w.cell? ⟨g, 1, none⟩ = some c1 ∧ w.cell? ⟨g, 2, none⟩ = some c2 ∧ w.cell? ⟨g, 3, none⟩ = some c3 ∧ w.frozen? ⟨g, 0, none⟩ = false ∧ w.frozen? ⟨g, 1, none⟩ = false ∧ w.frozen? ⟨g, 2, none⟩ = false ∧ w.frozen? ⟨g, 3, none⟩ = false := ⟨(blk_cell h.out 0).trans rfl, (blk_cell h.out 1).trans rfl, (blk_cell h.out 2).trans rfl, (blk_cell h.out 3).trans rfl, blk_frozen h.out 0, blk_frozen h.out 1, blk_frozen h.out 2, blk_frozen h.out 3⟩
theorem bt5 {w : World} {g t : Nat} {c0 c1 c2 c3 c4 : Value} (h : Aside0 (w.heap[g]? = some (.cells #[c0, c1, c2, c3, c4] t (0, 0)))) : w.cell? ⟨g, 0, none⟩ = some c0 ∧ w.cell? ⟨g, 1, none⟩ = some c1 ∧ w.cell? ⟨g, 2, none⟩ = some c2 ∧ w.cell? ⟨g, 3, none⟩ = some c3 ∧ w.cell? ⟨g, 4, none⟩ = some c4 ∧ w.frozen? ⟨g, 0, none⟩ = false ∧ w.frozen? ⟨g, 1, none⟩ = false ∧ w.frozen? ⟨g, 2, none⟩ = false ∧ w.frozen? ⟨g, 3, none⟩ = false ∧ w.frozen? ⟨g, 4, none⟩ = false := ⟨(blk_cell h.out 0).trans rfl, (blk_cell h.out 1).trans rfl, (blk_cell h.out 2).trans rfl, (blk_cell h.out 3).trans rfl, (blk_cell h.out 4).trans rfl, blk_frozen h.out 0, blk_frozen h.out 1, blk_frozen h.out 2, blk_frozen h.out 3, blk_frozen h.out 4⟩
theorem bt6 {w : World} {g t : Nat} {c0 c1 c2 c3 c4 c5 : Value} (h : Aside0 (w.heap[g]? = some (.cells #[c0, c1, c2, c3, c4, c5] t (0, 0)))) : w.cell? ⟨g, 0, none⟩ = some c0 ∧ w.cell? ⟨g, 1, none⟩ = some c1 ∧ w.cell? ⟨g, 2, none⟩ = some c2 ∧ w.cell? ⟨g, 3, none⟩ = some c3 ∧ w.cell? ⟨g, 4, none⟩ = some c4 ∧ w.cell? ⟨g, 5, none⟩ = some c5 ∧ w.frozen? ⟨g, 0, none⟩ = false ∧ w.frozen? ⟨g, 1, none⟩ = false ∧ w.frozen? ⟨g, 2, none⟩ = false ∧ w.frozen? ⟨g, 3, none⟩ = false ∧ w.frozen? ⟨g, 4, none⟩ = false ∧ w.frozen? ⟨g, 5, none⟩ = false := ⟨(blk_cell h.out 0).trans rfl, (blk_cell h.out 1).trans rfl, (blk_cell h.out 2).trans rfl, (blk_cell h.out 3).trans rfl, (blk_cell h.out 4).trans rfl, (blk_cell h.out 5).trans rfl, blk_frozen h.out 0, blk_frozen h.out 1, blk_frozen h.out 2, blk_frozen h.out 3, blk_frozen h.out 4, blk_frozen h.out 5⟩
end
end Go.Proofs.YtbbhacpahnnlcaaV.PrintMore
