/- Words of the print, as this seat's own text. No conditions. -/
/- A region in which variables are made at any time among calls: walked in one order, the rest of memory left open. No conditions. -/
import Derived.Test.YtbbhacpahnnlcaaVSl
namespace Go.Proofs.YtbbhacpahnnlcaaV.Sl
open Go.RowKit Go.Proofs.YtbbhacpahnnlcaaV.PrintWords Go.Proofs.YtbbhacpahnnlcaaV.PrintLast Go.Proofs.YtbbhacpahnnlcaaV.PrintMore
set_option linter.unusedVariables false
set_option linter.unusedSimpArgs false
abbrev Flt:=Nat × Nat × Nat × List Value
def ptr (g:Nat):Value:=.pointer (some ⟨g,0,none⟩)
def fbox (f:Flt × Nat):Pc:=box f.2 f.1.2.2.1 f.1.2.2.2
def bxs:List Flt→List Nat→List Pc
  | f :: r,g :: q=>fbox (f,g) :: bxs r q
  | _,_=>[]
def putF:Act→List Flt→List Value→Act
  | a,f :: r,v :: q=>putF (a.put (some f.2.1) v) r q
  | a,_,_=>a
def All {α:Type}:List Flt→(List α→Prop)→Prop
  | [],p=>p []
  | _ :: r,p=>∀ x,All r (fun l=>p (x :: l))
theorem All.at {α:Type}:∀ {fs:List Flt} {p:List α→Prop},All fs p→∀ l:List α,l.length = fs.length→p l
  | [],p,h,[],_=>h
  | _ :: r,p,h,x :: l,e=>All.at (h x) l (by simpa using e)
section
end
theorem put_tmps (a:Act) (n:Nat) (v:Value):(a.put (some n) v).tmps = a.tmps.setIfInBounds n v:=rfl
section
variable (Pg:Program) (ops:Array Oper) (Q:Exit→Act→World→Prop) (b0 w0:World) (P:Nat→Prop) (D:List (World→Prop)) (S:World→Prop) (fs:List Flt) (r2:List (Nat × Nat))
def wpF:List (Nat × Nat)→List Pc→Act→World→Prop
  | [],X,a,w=>∃ G,St b0 w0 P D w (G ++ X)∧All fs (fun gs=>∀ w1,St b0 w0 P D w1 (bxs fs gs ++ G)→wpO Pg ops Q S r2 (putF a fs (gs.map ptr)) w1)
  | (0,i) :: r,X,a,w=>∃ oi v,ops[i]? = some oi∧Yields Pg ops oi v a∧wpF r X (a.put oi.dst v) w
  | (1,i) :: r,X,a,w=>S w∧∃ oi v,ops[i]? = some oi∧YieldsIf Pg ops S oi v a∧wpF r X (a.put oi.dst v) w
  | (2,i) :: r,X,a,w=>∃ G oi,St b0 w0 P D w (G ++ X)∧ops[i]? = some oi∧All fs (fun vs=>∀ X1 w1,St b0 w0 P D w1 (G ++ X1)→Region.wanted oi (yielded ops (putF a fs vs).tmps) = true∧Oper.wp Pg oi (putF a fs vs) w1 (fun a' w'=>S w'∧wpF r X1 a' w') Q)
  | (_,i) :: r,X,a,w=>∃ G oi,St b0 w0 P D w (G ++ X)∧ops[i]? = some oi∧All fs (fun vs=>∀ X1 w1,St b0 w0 P D w1 (G ++ X1)→Region.wanted oi (yielded ops (putF a fs vs).tmps) = true∧Oper.wp Pg oi (putF a fs vs) w1 (fun a' w'=>wpF r X1 a' w') Q)
end
section
end
section
variable {Pg:Program} {ops:Array Oper} {Q:Exit→Act→World→Prop} {b0 w0:World} {P:Nat→Prop} {D:List (World→Prop)} {S:World→Prop} {fs:List Flt} {r2:List (Nat × Nat)} {ds:List Nat} {T:Bool × List (List Nat × List Nat)}
def Okp (a:Act) (Y:List (Flt × Nat)):Prop:=∀ y,y ∈ Y→a.tmps.setIfInBounds y.1.2.1 (ptr y.2) = a.tmps
theorem Okp.act {a a':Act} {Y:List (Flt × Nat)} (h:Okp a Y) {d:Option Nat} {v:Value} (e:a'.tmps = (a.put d v).tmps) (hd:∀ n,d = some n→∀ y,y ∈ Y→y.1.2.1 ≠ n):Okp a' Y:=by
  intro y hy
  rw [e]
  cases d with
  | none=>exact h y hy
  | some n =>
    rw [put_tmps,Array.setIfInBounds_comm _ _ (Ne.symm (hd n rfl y hy)),h y hy]
end

class Spl (L X:List Pc) (G:outParam (List Pc)):Prop where out:L = G ++ X
instance {X:List Pc}:Spl X X []:=⟨rfl⟩
instance {L X G:List Pc} {p:Pc} [h:Spl L X G]:Spl (p :: L) X (p :: G):=⟨by rw [h.out];rfl⟩
instance (priority:=low) {w:World} {G:List Pc}:Fx G w True:=⟨fun _=>trivial⟩
section
end
section
variable {Pg:Program} {ops:Array Oper} {Q:Exit→Act→World→Prop} {a a':Act} {b0 w0 w:World} {P:Nat→Prop} {D:List (World→Prop)} {G X L:List Pc} {fs:List Flt} {S:World→Prop} {r r2:List (Nat × Nat)} {i:Nat} {oi:Oper} {v:Value} {tl:List Oper}
theorem f0 (hi:ops.toList.drop i = oi :: tl:=by rfl) (hb:Region.wanted oi (yielded ops a.tmps) = true:=by exact (Eq.refl true)) (hv:∀ w,(execOp a.eval oi).run Pg w = .ok (.value v) w:=by intro W;go_simp;first | with_reducible rfl | exact ie2_ | exact ie3_ | exact ne2_ | exact ne3_ | (refine if_pos ?_;omega)) (ha:a.put oi.dst v = a':=by simp only [Act.put,za_,zb_,zc_,i64_w,i32_w];rfl)
    (h:wpF Pg ops Q b0 w0 P D S fs r2 r X a' w):wpF Pg ops Q b0 w0 P D S fs r2 ((0,i) :: r) X a w:=⟨oi,v,gi hi,.inl ⟨hb,hv⟩,ha ▸ h⟩
theorem f1 (hS:S w) (hi:ops.toList.drop i = oi :: tl:=by rfl) (hb:Region.wanted oi (yielded ops a.tmps) = true:=by exact (Eq.refl true)) (hv:∀ w,S w→(execOp a.eval oi).run Pg w = .ok (.value v) w:=by intro W S;have F:=S.fc;go_simp;first | with_reducible rfl | exact ie2_ | exact ie3_ | exact ne2_ | exact ne3_ | (refine if_pos ?_;omega)) (ha:a.put oi.dst v = a':=by simp only [Act.put,za_,zb_,zc_,i64_w,i32_w];rfl)
    (h:wpF Pg ops Q b0 w0 P D S fs r2 r X a' w):wpF Pg ops Q b0 w0 P D S fs r2 ((1,i) :: r) X a w:=⟨hS,oi,v,gi hi,.inl ⟨hb,hv⟩,ha ▸ h⟩
end

def atU {α:Type} {d:Kd α}:At d where
  F _ _ _:=True
  h _:=trivial
instance {α:Type} {d:Kd α} {w:World} {A:Option Addr} {xs:List α}:AtF (atU (d:=d)) w A xs True:=⟨id⟩
instance {w:World} {G:List Pc} {p:Prop} [h:Fx G w p]:Fx (p0_ :: G) w p:=⟨fun k=>h.out k.2⟩
section
end

def bcell (a:Addr) (v:Value) (w:World):Prop:=w.cell? a = some v
instance {w:World} {D:List (World→Prop)} {a:Addr} {v:Value} {p:Prop} [h:Fy D w p]:Fy (bcell a v :: D) w (w.cell? a = some v∧p):=⟨fun k=>⟨k.1,h.out k.2⟩⟩
section
variable {b0 w0 w:World} {P:Nat→Prop} {D:List (World→Prop)} {G:List Pc} {q:World→Prop} {α:Type} {d:Kd α}
theorem St.ad (S:St b0 w0 P D w G) (h:∀ W,Kept w0 W P→q W):St b0 w0 P (q :: D) w G:=by
  obtain ⟨f,hf,hD⟩:=S.all
  refine ⟨S.below,S.kept,f,hf,fun p hp=>(List.mem_cons.1 hp).elim (fun e=>?_) (hD p)⟩
  subst e
  exact fun W hs hW=>h W ⟨Nat.le_trans S.kept.1 hs,fun k hk hP=>(hW k (.inl ⟨hk,hP⟩) (Nat.lt_of_lt_of_le hk S.kept.1)).trans (S.kept.2 k hk hP)⟩
theorem Ft.mono {z z':Nat→Prop} (h:Ft q w z) (hz:∀ k,z k→z' k):Ft q w z':=fun W hs hW=>h W hs (fun k hk hlt=>hW k (hz k hk) hlt)
theorem zblk {z:Nat→Prop} (h:Ft q w z) {k:Nat} (hk:k < w.heap.size) (hc:∀ W,q W→W.heap[k]? ≠ some (.deferred none)):z k:=by
  refine Classical.byContradiction fun hz=>?_
  refine hc { w with heap:=w.heap.setIfInBounds k (.deferred none) } (h _ (by simp) (fun j hj hlt=>?_)) (by simp [hk])
  have:k ≠ j:=fun e=>hz (e ▸ hj)
  simp [Array.getElem?_setIfInBounds,this]
theorem add_block (a:Addr) (n:Nat):(a.add n).block = a.block:=by
  unfold Addr.add
  split <;> rfl
theorem add_add (a:Addr) (m n:Nat):(a.add m).add n = a.add (m + n):=by
  unfold Addr.add
  by_cases hm:m = 0 <;> by_cases hn:n = 0 <;> simp [hm,hn,Nat.add_assoc]
class HasBor (D:List (World→Prop)) {α:Type} {d:outParam (Kd α)} (at_:outParam (At d)) (xs:List α) (A:outParam (Option Addr)) (c:outParam Nat):Prop where out:bor at_ A c xs ∈ D
instance {α:Type} {d:Kd α} {at_:At d} {xs:List α} {A:Option Addr} {c:Nat} {D:List (World→Prop)}:HasBor (bor at_ A c xs :: D) at_ xs A c:=⟨List.mem_cons_self⟩
instance (priority:=low) {α:Type} {d:Kd α} {at_:At d} {xs:List α} {A:Option Addr} {c:Nat} {q:World→Prop} {D:List (World→Prop)} [h:HasBor D at_ xs A c]:HasBor (q :: D) at_ xs A c:=⟨List.mem_cons_of_mem _ h.out⟩
theorem cell_cells {W:World} {a:Addr} {v:Value} (h:W.cell? a = some v):W.heap[a.block]? ≠ some (.deferred none):=fun e=>by
  unfold World.cell? at h
  rw [e] at h
  cases h
theorem cell_blk {W w:World} {a:Addr} (h:W.heap[a.block]? = w.heap[a.block]?):W.cell? a = w.cell? a:=by
  unfold World.cell?
  rw [h]
theorem ft_block {at_:At d} {A:Option Addr} {c:Nat} {xs:List α} {z:Nat→Prop} {ad:Addr} (hs:0 < d.sz) (h:Ft (bor at_ A c xs) w z) (hA:A = some ad) (hx:0 < xs.length):z ad.block:=by
  have hc:∀ W,bor at_ A c xs W→∃ v,W.cell? ad = some v:=fun W hW=>by
    cases xs with
    | nil=>simp at hx
    | cons x r =>
      obtain ⟨ad',cs,e,hl,_,hcell⟩:=Kd.C_get hW.2.2.2 x 0 (by omega) (by simp)
      rw [hA] at e
      injection e with e
      subst e
      have:=hcell 0 cs[0] (List.getElem?_eq_getElem (by omega))
      simp only [Int.toNat_zero,Nat.zero_mul,Nat.add_zero] at this
      exact ⟨_,by rw [← this];simp [Addr.add]⟩
  obtain ⟨v,hv⟩:=hc w h.now
  exact zblk h (World.block_lt_of_cell? w _ hv) (fun W hW=>by obtain ⟨v,hv⟩:=hc W hW;exact cell_cells hv)
def bel (d:Kd α) (x:α) (a:Addr) (cs:List Value) (W:World):Prop:=d.K W x cs∧∀ j u,cs[j]? = some u→W.cell? (a.add j) = some u
theorem ft_el {at_:At d} {A:Option Addr} {c:Nat} {xs:List α} {z:Nat→Prop} (hs:0 < d.sz) (h:Ft (bor at_ A c xs) w z) (z0:α) (i:Int) (h0:0 ≤ i) (h1:i < xs.length):∃ cs,cs.length = d.sz∧Ft (bel d (xs.getD i.toNat z0) ((adr A).add (i.toNat * d.sz)) cs) w z:=by
  obtain ⟨ad,cs,hA,hl,hK,hcell⟩:=Kd.C_get h.now.2.2.2 z0 i h0 h1
  have hzb:=ft_block hs h hA (by omega)
  have hlt:ad.block < w.heap.size:=by
    have:=hcell 0 cs[0] (List.getElem?_eq_getElem (by omega))
    have:=World.block_lt_of_cell? w _ this
    rwa [add_block] at this
  refine ⟨cs,hl,fun W hs hW=>?_⟩
  have hb:=hW _ hzb hlt
  obtain ⟨ad',cs',hA',hl',hK',hcell'⟩:=Kd.C_get (h W hs hW).2.2.2 z0 i h0 h1
  rw [hA] at hA'
  injection hA' with e
  subst e
  have ecs:cs' = cs:=by
    apply List.ext_getElem?
    intro j
    by_cases hj:j < d.sz
    · have a1:=hcell j cs[j] (List.getElem?_eq_getElem (by omega))
      have a2:=hcell' j cs'[j] (List.getElem?_eq_getElem (by omega))
      rw [cell_blk (show W.heap[(ad.add (i.toNat * d.sz + j)).block]? = w.heap[(ad.add (i.toNat * d.sz + j)).block]? by rw [add_block];exact hb),a1] at a2
      rw [List.getElem?_eq_getElem (by omega),List.getElem?_eq_getElem (by omega)]
      exact a2.symm
    · rw [List.getElem?_eq_none (by omega),List.getElem?_eq_none (by omega)]
  subst ecs
  refine ⟨hK',fun j u hu=>?_⟩
  rw [hA]
  have:=hcell' j u hu
  rw [show adr (some ad) = ad from rfl,add_add]
  exact this
theorem St.rf {b0:World} {A:Option Addr} {n c i e:Nat} {at_:At d} {xs:List α} {U:Pc→List Pc} (S:St b0 w0 P D w G) (A_:Option Addr) (hA_:A_ = A) [hG:HasRow G A n c at_ e xs i U]:at_.F w A xs:=by
  obtain ⟨f,hf⟩:=S.own
  exact ((row at_ e A n c xs).facts (hf i _ hG.out)).2.2.2.1
end

section
def atZ (k:IntKind):At (Kd.int k) where
  F w A xs:=(∀ i:Int,0 ≤ i→i < xs.length→w.cell? ((adr A).add i.toNat) = some (.int k (rd xs i)))∧(0 < xs.length→w.cell? (adr A) = some (.int k (rd xs 0))∧w.cell? ((adr A).add 0) = some (.int k (rd xs 0)))
  h hC:=by
    have h:=(atI k).h hC
    refine ⟨h,fun h0=>?_⟩
    have h1:=h 0 (by omega) (by omega)
    refine ⟨?_,h1⟩
    rw [show ((0:Int)).toNat = 0 from rfl,Addr.add_zero'] at h1
    exact h1
instance {k:IntKind} {w:World} {A:Option Addr} {xs:List Int}:AtF (atZ k) w A xs ((∀ i:Int,0 ≤ i→i < xs.length→w.cell? ((adr A).add i.toNat) = some (.int k (rd xs i)))∧(0 < xs.length→w.cell? (adr A) = some (.int k (rd xs 0))∧w.cell? ((adr A).add 0) = some (.int k (rd xs 0)))):=⟨id⟩
end
class Nd (D:List (World→Prop)) (i:Nat) (q:outParam (World→Prop)):Prop where out:q ∈ D
instance {D:List (World→Prop)} {q:World→Prop}:Nd (q :: D) 0 q:=⟨List.mem_cons_self⟩
instance {D:List (World→Prop)} {q r:World→Prop} {i:Nat} [h:Nd D i q]:Nd (r :: D) (i + 1) q:=⟨List.mem_cons_of_mem _ h.out⟩
class Dk (l:List Nat) (D:List (World→Prop)) (D':outParam (List (World→Prop))):Prop where out:∀ q,q ∈ D'→q ∈ D
instance {D:List (World→Prop)}:Dk [] D []:=⟨fun _ h=>by cases h⟩
instance {D D':List (World→Prop)} {i:Nat} {q:World→Prop} {l:List Nat} [h:Nd D i q] [k:Dk l D D']:Dk (i :: l) D (q :: D'):=⟨fun p hp=>(List.mem_cons.1 hp).elim (fun e=>e ▸ h.out) (k.out p)⟩
section
variable {b0 w0 w w1:World} {P:Nat→Prop} {D D':List (World→Prop)} {G:List Pc} {q:World→Prop} {α:Type} {d:Kd α}
theorem St.dk (S:St b0 w0 P D w G) (l:List Nat) [h:Dk l D D']:St b0 w0 P D' w G:=⟨S.below,S.kept,S.all.imp fun _ k=>⟨k.1,fun q hq=>k.2 q (h.out q hq)⟩⟩
theorem St.ex (S:St b0 w0 P D w G) (L:List (World→Prop)) (h:∀ z,(∀ q,q ∈ D→Ft q w z)→∀ q,q ∈ L→Ft q w z):St b0 w0 P (L ++ D) w G:=by
  obtain ⟨f,hf,hD⟩:=S.all
  exact ⟨S.below,S.kept,f,hf,fun q hq=>(List.mem_append.1 hq).elim (h _ hD q) (hD q)⟩
theorem St.el {at0:At d} {A:Option Addr} {c:Nat} (S:St b0 w0 P D w G) (xs:List α) [hB:HasBor D at0 xs A c] (hs:0 < d.sz) (z0:α) (i:Int) (h0:0 ≤ i) (h1:i < xs.length):∃ cs,d.K w (xs.getD i.toNat z0) cs ∧
    ∀ L:List (World→Prop),(∀ q,q ∈ L→∀ W,bel d (xs.getD i.toNat z0) ((adr A).add (i.toNat * d.sz)) cs W→q W)→St b0 w0 P (L ++ D) w G:=by
  obtain ⟨f,hf,hD⟩:=S.all
  obtain ⟨cs,hl,hF⟩:=ft_el hs (hD _ hB.out) z0 i h0 h1
  exact ⟨cs,hF.now.1,fun L hL=>⟨S.below,S.kept,f,hf,fun q hq=>(List.mem_append.1 hq).elim (fun hq W hs hW=>hL q hq W (hF W hs hW)) (hD q)⟩⟩
def Vr (d:Kd α) (w:World) (Z:Nat→Prop) (A:Option Addr) (c:Nat) (xs:List α):Prop:=xs.length ≤ c∧Ft (fun W=>d.C W A xs.length xs) w Z
theorem Vr.bor {Z:Nat→Prop} {A:Option Addr} {c:Nat} {xs:List α} (h:Vr d w Z A c xs) (at_:At d):Ft (Sl.bor at_ A c xs) w Z:=fun W hs hW=>bor_C at_ (h.2 W hs hW) h.1
theorem St.initV {Z:Nat→Prop} (hD:∀ q,q ∈ D→Ft q w Z):St w w (fun k=>¬ Z k) D w [] :=
  ⟨Below.refl _ _,Kept.refl _ _,fun _=>0,(fun i p h=>by cases h),fun q hq=>(hD q hq).step (Nat.le_refl _) (fun _ _ _=>rfl) (fun k hz hlt=>.inl ⟨hlt,fun h=>h hz⟩)⟩
theorem St.v {Z:Nat→Prop} {at_:At d} {A:Option Addr} {c:Nat} {xs:List α} (S:St w0 w0 (fun k=>¬ Z k) D w G) [h:HasBor D at_ xs A c]:Vr d w (fun k=>Z k∨w0.heap.size ≤ k) A c xs:=by
  obtain ⟨f,hf,hD⟩:=S.all
  exact ⟨(hD _ h.out).now.2.1,fun W hs hW=>((hD _ h.out).step (Nat.le_refl _) (fun _ _ _=>rfl) (z1:=fun k=>Z k∨w0.heap.size ≤ k) (fun k hz hlt=>hz.imp (fun h=>Classical.byContradiction h.2) (fun h=>h.1)) W hs hW).2.2.2⟩
structure VL (b0 w0:World) (P:Nat→Prop) (D:List (World→Prop)) (w:World) (G:List Pc) (z:Nat→Prop):Prop where
  ft:∀ q,q ∈ D→Ft q w z
  back:∀ {w1:World} {q:World→Prop},Below w.heap.size w w1→Ft q w1 (fun k=>z k∨w.heap.size ≤ k)→St b0 w0 P (q :: D) w1 G
theorem St.vl (S:St b0 w0 P D w G):∃ z,VL b0 w0 P D w G z:=by
  obtain ⟨f,hf,hD⟩:=S.all
  have hle:w0.heap.size ≤ w.heap.size:=S.kept.1
  refine ⟨_,hD,fun {w1} {q} hb hq=>⟨below_step S.below hb,S.kept.below hb,fun k=>if w.heap.size ≤ k then G.length else f k,fun i p hi=>?_,fun p hp=>?_⟩⟩
  · refine p.mono (fun k hk=>⟨?_,hk.1.2⟩) (p.step (p.bound (hf i p hi)) (fun k hk hlt=>hb.block k hk.2.2))
    show (if w.heap.size ≤ k then _ else f k) = i
    rw [if_neg (by omega)]
    exact hk.1.1
  · have key:∀ k,k < w.heap.size→Zn w0 P f G.length k→Zn w0 P (fun k=>if w.heap.size ≤ k then G.length else f k) G.length k:=fun k hlt hz=>hz.imp id (fun h=>⟨h.1,by
      show _ ≤ (if w.heap.size ≤ k then _ else f k)
      rw [if_neg (by omega)]
      exact h.2⟩)
    rcases List.mem_cons.1 hp with rfl | hp
    · refine hq.mono (fun k hk=>hk.elim (fun h=>?_) (fun h=>.inr ⟨by omega,?_⟩))
      · by_cases hlt:k < w.heap.size
        · exact key k hlt h
        · exact .inr ⟨by omega,by show _ ≤ (if w.heap.size ≤ k then _ else f k);rw [if_pos (by omega)];exact Nat.le_refl _⟩
      · show _ ≤ (if w.heap.size ≤ k then _ else f k)
        rw [if_pos h]
        exact Nat.le_refl _
    · exact (hD p hp).step hb.size (fun k _ hlt=>hb.block k hlt) (fun k hz hlt=>key k hlt hz)
theorem VL.v {z:Nat→Prop} (k:VL b0 w0 P D w G z) {at_:At d} {A:Option Addr} {c:Nat} {xs:List α} [h:HasBor D at_ xs A c]:Vr d w z A c xs:=⟨(k.ft _ h.out).now.2.1,fun W hs hW=>(k.ft _ h.out W hs hW).2.2.2⟩
end

theorem vn {w:World} {Z:Nat→Prop}:∀ q,q ∈ ([]:List (World→Prop))→Ft q w Z:=fun _ h=>by cases h
theorem vc {w:World} {Z:Nat→Prop} {D:List (World→Prop)} {α:Type} {d:Kd α} (at_:At d) {A:Option Addr} {c:Nat} {xs:List α} (h:Vr d w Z A c xs) (k:∀ q,q ∈ D→Ft q w Z):∀ q,q ∈ bor at_ A c xs :: D→Ft q w Z:=fun q hq=>(List.mem_cons.1 hq).elim (fun e=>e ▸ h.bor at_) (k q)
section
variable {b0 w0 w w1:World} {P P1 P2 P3:Nat→Prop} {D:List (World→Prop)} {G:List Pc} {α β γ:Type} {d:Kd α} {d2:Kd β} {d3:Kd γ}
open Classical in
structure Lent3 (b0 w0:World) (P:Nat→Prop) (D:List (World→Prop)) (w:World) (G:List Pc) (i j l:Nat) (at_:At d) (at2:At d2) (at3:At d3) (e n c e2 n2 c2 e3 n3 c3:Nat) (A A2 A3:Option Addr) (xs:List α) (ys:List β) (zs:List γ) (o1 o2 o3:Nat→Prop):Prop where
  below:Below b0.heap.size b0 w
  r1:d.R e w b0.heap.size o1 (.slice A n c) xs
  r2:d2.R e2 w b0.heap.size o2 (.slice A2 n2 c2) ys
  r3:d3.R e3 w b0.heap.size o3 (.slice A3 n3 c3) zs
  hp:∀ k,o2 k→¬ o3 k
  hq:∀ k,o3 k→¬ o2 k
  back:∀ {w1:World} {xs':List α} {ys':List β} {zs':List γ} {z1 z2 z3:Nat→Prop},d.R e w1 b0.heap.size z1 (.slice A n c) xs'→d2.R e2 w1 b0.heap.size z2 (.slice A2 n2 c2) ys'→d3.R e3 w1 b0.heap.size z3 (.slice A3 n3 c3) zs'→Below b0.heap.size b0 w1→Kept w w1 (fun k=>o1 k∨o2 k∨o3 k) →
    St b0 w0 P D w1 (((G.set i (row at_ e A n c xs')).set j (row at2 e2 A2 n2 c2 ys')).set l (row at3 e3 A3 n3 c3 zs'))
end

class Ms (l:List Nat) (G:List Pc) (G':outParam (List Pc)):Prop where out:∀ (pre:List Pc) {b0 w0 w:World} {P:Nat→Prop} {D:List (World→Prop)},St b0 w0 P D w (pre ++ G)→St b0 w0 P D w (pre ++ G')
instance {G:List Pc}:Ms [] G G:=⟨fun _ _ _ _ _ _ S=>S⟩
instance {G G':List Pc} {p:Pc} {l:List Nat} [h:Ms l G G']:Ms (0 :: l) (p :: G) G':=⟨fun pre _ _ _ _ _ S=>h.out pre (by
  have:=S.rm pre.length
  rwa [List.eraseIdx_append_of_length_le (Nat.le_refl _),Nat.sub_self] at this)⟩
instance {G G':List Pc} {p:Pc} {l:List Nat} [h:Ms l G G']:Ms (1 :: l) (p :: G) (p :: G'):=⟨fun pre _ _ _ _ _ S=>by
  have:=h.out (pre ++ [p]) (by simpa using S)
  simpa using this⟩
theorem St.ms {b0 w0 w:World} {P:Nat→Prop} {D:List (World→Prop)} {G G':List Pc} (S:St b0 w0 P D w G) (l:List Nat) [h:Ms l G G']:St b0 w0 P D w G':=h.out [] S

theorem St.nx {b0 w0 w:World} {P:Nat→Prop} {D:List (World→Prop)} {L G:List Pc} (S:St b0 w0 P D w L) (X:List Pc) [h:Spl L X G]:St b0 w0 P D w G:=by
  obtain ⟨f,hf,hD⟩:=S.all
  rw [h.out] at hf hD
  refine ⟨S.below,S.kept,fun k=>if f k < G.length then f k else G.length,fun i p hi=>?_,fun q hq=>(hD q hq).step (Nat.le_refl _) (fun _ _ _=>rfl) (fun k hz hlt=>hz.imp id (fun h=>⟨h.1,?_⟩))⟩
  · have hlt:i < G.length:=(List.getElem?_eq_some_iff.1 hi).1
    refine p.mono (fun k hk=>⟨?_,hk.2⟩) (hf i p (by rw [List.getElem?_append_left hlt];exact hi))
    show (if f k < G.length then f k else G.length) = i
    rw [hk.1,if_pos hlt]
  · show _ ≤ (if f k < G.length then f k else G.length)
    rw [List.length_append] at h
    rw [if_neg (by omega)]
    exact Nat.le_refl _

section
variable {b0 w0 w w1:World} {P:Nat→Prop} {D:List (World→Prop)} {G:List Pc} {α:Type} {d:Kd α} {g t i:Nat} {cs:List Value} {U:Pc→List Pc}
theorem St.hge (S:St b0 w0 P D w G) (g:Nat) [hG:HasBox G g t cs i U]:b0.heap.size ≤ g:=by
  obtain ⟨f,hf⟩:=S.own
  exact (hf i _ hG.out).2.1
theorem St.boxed (hB:Below b0.heap.size b0 w) (hg:b0.heap.size ≤ g) (h:w.heap[g]? = some (.cells cs.toArray t (0,0))) (hD:Dok w (fun k=>k = g) D):St b0 w (fun k=>k = g) D w [box g t cs] :=
  ⟨hB,Kept.refl _ _,fun _=>0,(fun i p hi=>by
    cases i with
    | zero=>injection hi with hi;subst hi;exact ⟨⟨rfl,.inl rfl⟩,hg,h⟩
    | succ i=>cases hi),dft hD⟩
theorem dg {A:Option Addr} {xs:List α} (hd:Kd.Heap d) (at_:At d) (h:d.C b0 A xs.length xs) (hB:Below b0.heap.size b0 w) (hg:b0.heap.size ≤ g) (k:Dok w (fun k=>k = g) D):Dok w (fun k=>k = g) (bor at_ A xs.length xs :: D):=fun q hq W hk=>by
  rcases List.mem_cons.1 hq with rfl | hq
  · exact bor_C at_ (hd.C (fun k hlt=>(hk.2 k (Nat.lt_of_lt_of_le hlt hB.size) (by omega)).trans (hB.block k hlt)) h) (Nat.le_refl _)
  · exact k q hq W hk
theorem St.mid (S:St b0 w0 P D w G) (g:Nat) [hG:HasBox G g t cs i U] {cs':List Value} (hi:w1.heap[g]? = some (.cells cs'.toArray t (0,0))) (hb:Below b0.heap.size b0 w1) (hk:Kept w w1 (fun k=>k = g)) :
    ∃ W,W.heap.size = w.heap.size∧Below W.heap.size W w1∧St b0 w0 P D W (U (box g t cs')):=by
  obtain ⟨f,hf,hD⟩:=S.all
  have HO:=hf i _ hG.out
  have hgl:g < w.heap.size:=blk_lt HO.2.2
  have hil:i < G.length:=(List.getElem?_eq_some_iff.1 hG.out).1
  have key:∀ k,k < w.heap.size→(w.heap.setIfInBounds g (.cells cs'.toArray t (0,0)))[k]? = w1.heap[k]?:=fun k hlt=>by
    by_cases e:k = g
    · subst e
      rw [hi]
      simp [hlt]
    · rw [hk.2 k hlt e]
      simp [Array.getElem?_setIfInBounds,Ne.symm e]
  have far:∀ k,k ≠ g→(w.heap.setIfInBounds g (.cells cs'.toArray t (0,0)))[k]? = w.heap[k]?:=fun k e=>by simp [Array.getElem?_setIfInBounds,Ne.symm e]
  obtain ⟨W,hW⟩:∃ W:World,W = { w1 with heap:=w.heap.setIfInBounds g (.cells cs'.toArray t (0,0)) }:=⟨_,rfl⟩
  have hh:W.heap = w.heap.setIfInBounds g (.cells cs'.toArray t (0,0)):=by rw [hW]
  have hs:W.heap.size = w.heap.size:=by rw [hh];simp
  have hwle:w0.heap.size ≤ w.heap.size:=S.kept.1
  have hzn:∀ k,Zn w0 P f G.length k→k ≠ g:=fun k hz e=>by
    subst e
    rcases hz with hz | hz
    · exact HO.1.2.elim hz.2 (fun h=>by omega)
    · have:=HO.1.1;omega
  refine ⟨W,hs,?_,?_,?_,f,fun j p hj=>?_,fun q hq=>(hD q hq).step (by omega) (fun k hz hlt=>by rw [hh];exact far k (hzn k hz)) (fun k hz _=>by rw [hG.set,List.length_set];exact hz)⟩
  · refine ⟨by rw [hW],by rw [hW],by rw [hW],by rw [hs];exact hk.1,fun k hlt=>?_⟩
    rw [hh]
    exact (key k (by omega)).symm
  · refine ⟨by rw [hW];exact hb.os,by rw [hW];exact hb.tape,by rw [hW];exact hb.output,by rw [hs];exact S.below.size,fun k hlt=>?_⟩
    rw [hh,far k (fun e=>by have:=HO.2.1;omega)]
    exact S.below.block k hlt
  · refine ⟨by omega,fun k hlt hP=>?_⟩
    rw [hh]
    by_cases e:k = g
    · subst e
      exact (HO.1.2.elim (fun h=>hP h) (fun h=>by omega)).elim
    · rw [far k e]
      exact S.kept.2 k hlt hP
  · rw [hG.set] at hj
    by_cases e:j = i
    · subst e
      rw [List.getElem?_set_self hil] at hj
      injection hj with hj
      subst hj
      exact ⟨HO.1,HO.2.1,by rw [hh];simp [hgl]⟩
    · rw [List.getElem?_set_ne (Ne.symm e)] at hj
      refine p.step (hf j p hj) (fun k hk2 hlt=>?_)
      rw [hh]
      exact far k (fun h=>e (hk2.1.symm.trans (by subst h;exact HO.1.1)))
theorem R_up [hkm:KM d] {e base base':Nat} {ok:Nat→Prop} {v:Value} {xs:List α} (h:d.R e w base ok v xs) (hb:∀ k,v.ownBlock = some k→base' ≤ k) (hE:d.E = []:=by rfl):d.R e w base' (fun _=>True) v xs:=by
  obtain ⟨h0,inner,ho,hr⟩:=h
  exact ⟨fun _ _=>trivial,inner,Kd.own_raise ho hb,hr.imp_ (fun x c hp=>d.M_mono (fun _ h=>h.elim) (hkm.out w x c (d.K_of_M hp) w base'))⟩
theorem St.ru [hkm:KM d] {A:Option Addr} {n c e j:Nat} {at_:At d} {xs:List α} {U2:Pc→List Pc} (S:St b0 w0 (fun k=>k = g) D w G) [hB:HasBox G g t cs i U] [hR:HasRow G A n c at_ e xs j U2] [hn:NeC j i] (hE:d.E = []:=by rfl):d.R e w w0.heap.size (fun _=>True) (.slice A n c) xs:=by
  obtain ⟨f,hf⟩:=S.own
  have hb:=hf i _ hB.out
  have hr:=hf j _ hR.out
  refine R_up hr (fun k hk=>?_) hE
  have h1:=hr.1 k hk
  exact h1.2.elim (fun e=>absurd (h1.1.symm.trans (by rw [e];exact hb.1.1)) hn.out) id
theorem R_upn [hkm:KM d] {e base base':Nat} {ok ok':Nat→Prop} {v:Value} {xs:List α} (h:d.R e w base ok v xs) (hb:∀ k,v.ownBlock = some k→base' ≤ k) (hk:∀ k,v.ownBlock = some k→ok' k) (hE:d.E = []:=by rfl):d.R e w base' ok' v xs:=by
  obtain ⟨h0,inner,ho,hr⟩:=h
  exact ⟨hk,inner,Kd.own_raise ho hb,hr.imp_ (fun x c hp=>d.M_mono (fun _ h=>h.elim) (hkm.out w x c (d.K_of_M hp) w base'))⟩
theorem St.run {β:Type} {d':Kd β} [hkm:KM d] {A A':Option Addr} {n c e j n' c' e' j':Nat} {at_:At d} {at':At d'} {xs:List α} {ys:List β} {U2 U3:Pc→List Pc} (S:St b0 w0 (fun k=>k = g) D w G) [hB:HasBox G g t cs i U] [hR:HasRow G A n c at_ e xs j U2] [hR':HasRow G A' n' c' at' e' ys j' U3] [hn:NeC j i] [hm:NeC j j'] (hE:d.E = []:=by rfl):d.R e w w0.heap.size (fun k=>some k ≠ (Value.slice A' n' c').ownBlock) (.slice A n c) xs:=by
  obtain ⟨f,hf⟩:=S.own
  have hb:=hf i _ hB.out
  have hr:=hf j _ hR.out
  refine R_upn hr (fun k hk=>?_) (fun k hk h=>hm.out ((hr.1 k hk).1.symm.trans ((hf j' _ hR'.out).1 k h.symm).1)) hE
  have h1:=hr.1 k hk
  exact h1.2.elim (fun e=>absurd (h1.1.symm.trans (by rw [e];exact hb.1.1)) hn.out) id
theorem St.cg {β:Type} {d':Kd β} (S:St b0 w0 P D w G) [hG:HasBox G g t cs i U] {ys:List β} {A':Option Addr} {c':Nat} [h:RdL D G i d' ys A' c']:∀ W,Kept w W (fun k=>k = g)→d'.C W A' ys.length ys:=fun W hW=>by
  obtain ⟨f,hf,hD⟩:=S.all
  have HO:=hf i _ hG.out
  have hil:i < G.length:=(List.getElem?_eq_some_iff.1 hG.out).1
  have hwle:w0.heap.size ≤ w.heap.size:=S.kept.1
  have hzn:∀ k,Zn w0 P f G.length k→¬ k = g:=fun k hz e=>by
    subst e
    rcases hz with hz | hz
    · exact HO.1.2.elim hz.2 (fun h=>by omega)
    · have:=HO.1.1;omega
  exact (h.out W (fb_of fun q hq=>hD q hq W hW.1 (fun k hz hlt=>hW.2 k hlt (hzn k hz))) (fun j p hj hn=>p.facts (p.step (p.bound (hf j p hj)) (fun k hk hlt=>hW.2 k hlt (fun e=>hn (hk.1.1.symm.trans (by rw [e];exact HO.1.1))))))).1
end

theorem okk_Q {α:Type} {d:Kd α} {e:Nat} {w:World} {b:Nat} {ok:Nat→Prop} {A:Option Addr} {n c:Nat} {xs:List α} (h:d.Q e w b ok (.slice A n c) xs):Okk A n:=by
  have h1:=Kd.Q_reads' h
  rw [h1.1]
  exact okk_C h1.2.2
def qrow {α:Type} {d:Kd α} (at_:At d) (e:Nat) (A:Option Addr) (n c:Nat) (xs:List α):Pc where
  A w b ok:=d.Q e w b ok (.slice A n c) xs
  F w:=xs.length = n∧Okk A n∧n ≤ c∧at_.F w A xs∧d.C w A xs.length xs
  facts h:=by
    have h1:=Kd.Q_reads' h
    exact ⟨h1.1.symm,okk_Q h,h1.2.1,at_.h h1.2.2,h1.2.2⟩
  step h hm:=Kd.Q_step h hm
  mono hm h:=Kd.Q_mono h hm
  bound h:=Kd.Q_mono (Kd.Q_bound h) (fun _ hk=>⟨hk.1,hk.2.1,hk.2.2.1⟩)
instance {w:World} {G:List Pc} {α:Type} {d:Kd α} {at_:At d} {e n c:Nat} {A:Option Addr} {xs:List α} {q p:Prop} [hq:AtF at_ w A xs q] [h:Fx G w p]:Fx (qrow at_ e A n c xs :: G) w (xs.length = n∧Okk A n∧n ≤ c∧q∧d.C w A xs.length xs∧p):=⟨fun k=>⟨k.1.1,k.1.2.1,k.1.2.2.1,hq.out k.1.2.2.2.1,k.1.2.2.2.2,h.out k.2⟩⟩
instance {G:List Pc} {α:Type} {d:Kd α} {at_:At d} {e n c:Nat} {A:Option Addr} {xs:List α}:RdG (qrow at_ e A n c xs :: G) d xs A c:=⟨fun w h=>⟨h.1.2.2.2.2,by have:=h.1.1;have:=h.1.2.2.1;omega⟩⟩
instance {G:List Pc} {i:Nat} {α:Type} {d:Kd α} {at_:At d} {e n c:Nat} {A:Option Addr} {xs:List α}:RdK (qrow at_ e A n c xs :: G) (i + 1) d xs A c:=⟨fun w h=>by
  have h:=h 0 _ rfl (by omega)
  exact ⟨h.2.2.2.2,by have:=h.1;have:=h.2.2.1;omega⟩⟩
class HasQ (G:List Pc) (A:Option Addr) (n c:outParam Nat) {α:outParam Type} {d:outParam (Kd α)} (at_:outParam (At d)) (e:outParam Nat) (xs:outParam (List α)) (i:outParam Nat) (U:outParam (Pc→List Pc)):Prop where
  out:G[i]? = some (qrow at_ e A n c xs)
  set:∀ p,U p = G.set i p
section
variable {b0 w0 w w1:World} {P:Nat→Prop} {D:List (World→Prop)} {G:List Pc} {α:Type} {d:Kd α}
instance {A:Option Addr} {n c:Nat} {at_:At d} {e:Nat} {xs:List α}:HasQ (qrow at_ e A n c xs :: G) A n c at_ e xs 0 (fun p=>p :: G):=⟨rfl,fun _=>rfl⟩
instance {p:Pc} {A:Option Addr} {n c:Nat} {at_:At d} {e:Nat} {xs:List α} {i:Nat} {U:Pc→List Pc} [h:HasQ G A n c at_ e xs i U]:HasQ (p :: G) A n c at_ e xs (i + 1) (fun q=>p :: U q):=⟨h.out,fun q=>congrArg _ (h.set q)⟩
theorem St.tq (S:St b0 w0 P D w G) (A:Option Addr) {n c:Nat} {at_:At d} {e:Nat} {xs:List α} {i:Nat} {U:Pc→List Pc} [hG:HasRow G A n c at_ e xs i U]:St b0 w0 P D w (U (qrow at_ e A n c xs)):=by
  obtain ⟨f,hf,hD⟩:=S.all
  exact hG.set _ ▸ S.updf f hf hD i hG.out (gn (Below.refl _ _)) (fun k hk=>by cases hk) (Kd.Q_mono (Kd.Q_of_R (hf i _ hG.out)) (fun k hk=>.inl hk))
theorem St.q {A:Option Addr} {n c:Nat} {at_:At d} {e:Nat} {xs:List α} {i:Nat} {U:Pc→List Pc} (S:St b0 w0 P D w G) [hG:HasQ G A n c at_ e xs i U]:d.Q e w b0.heap.size (fun _=>True) (.slice A n c) xs:=by
  obtain ⟨f,hf⟩:=S.own
  exact Kd.Q_mono (hf i _ hG.out) (fun _ _=>trivial)
theorem St.gotq (S:St b0 w0 P D w G) (at_:At d) {e:Nat} {ok:Nat→Prop} {v:Value} {xs:List α} (hb:Below w.heap.size w w1) (ho:d.Q e w1 w.heap.size ok v xs):∃ A c,v = .slice A xs.length c∧St b0 w0 P D w1 (qrow at_ e A xs.length c xs :: G):=by
  obtain ⟨A,c,rfl,_⟩:=Kd.Q_slice ho
  refine ⟨A,c,rfl,S.new (gn hb) (fun ok hk=>?_)⟩
  exact Kd.Q_mono (Kd.Q_lower (Kd.Q_bound ho) S.below.size) (fun k h=>hk k h.2.1)
theorem Q_up [hkm:KM d] {e base base':Nat} {ok:Nat→Prop} {v:Value} {xs:List α} (h:d.Q e w base ok v xs) (hb:∀ k,v.ownBlock = some k→base' ≤ k):d.Q e w base' (fun _=>True) v xs:=by
  obtain ⟨h0,inner,⟨h1,h2⟩,hr⟩:=h
  refine ⟨fun _ _=>trivial,inner,⟨h1,?_⟩,hr.imp_ (fun x c hp=>d.M_mono (fun _ h=>h.elim) (hkm.out w x c (d.K_of_M hp) w base'))⟩
  rcases h2 with ⟨hz,A,rfl,hA⟩ | ⟨g,off,cap,cur,rfl,hg,r⟩
  · exact .inl ⟨hz,A,rfl,fun a ha=>⟨hb a.block (by subst ha;rfl),(hA a ha).2⟩⟩
  · exact .inr ⟨g,off,cap,cur,rfl,hb g rfl,r⟩
theorem St.qu [hkm:KM d] {g t i:Nat} {cs:List Value} {U:Pc→List Pc} {A:Option Addr} {n c e j:Nat} {at_:At d} {xs:List α} {U2:Pc→List Pc} (S:St b0 w0 (fun k=>k = g) D w G) [hB:HasBox G g t cs i U] [hR:HasQ G A n c at_ e xs j U2] [hn:NeC j i]:d.Q e w w0.heap.size (fun _=>True) (.slice A n c) xs:=by
  obtain ⟨f,hf⟩:=S.own
  have hb:=hf i _ hB.out
  have hr:=hf j _ hR.out
  refine Q_up hr (fun k hk=>?_)
  have h1:=hr.1 k hk
  exact h1.2.elim (fun e=>absurd (h1.1.symm.trans (by rw [e];exact hb.1.1)) hn.out) id
theorem row_ft {e n c:Nat} {A:Option Addr} {at_:At d} {xs:List α} {base:Nat} {ok:Nat→Prop} (h:(row at_ e A n c xs).A w base ok):Ft (Sl.bor at_ A c xs) w (fun k=>base ≤ k):=fun W hs hW=>by
  have h2:=(row at_ e A n c xs).facts ((row at_ e A n c xs).step ((row at_ e A n c xs).bound h) (fun k hk hlt=>hW k hk.2.1 hlt))
  exact bor_C at_ h2.2.2.2.2 (by have:=h2.1;have:=h2.2.2.1;omega)
theorem qrow_ft {e n c:Nat} {A:Option Addr} {at_:At d} {xs:List α} {base:Nat} {ok:Nat→Prop} (h:(qrow at_ e A n c xs).A w base ok):Ft (Sl.bor at_ A c xs) w (fun k=>base ≤ k):=fun W hs hW=>by
  have h2:=(qrow at_ e A n c xs).facts ((qrow at_ e A n c xs).step ((qrow at_ e A n c xs).bound h) (fun k hk hlt=>hW k hk.2.1 hlt))
  exact bor_C at_ h2.2.2.2.2 (by have:=h2.1;have:=h2.2.2.1;omega)
theorem St.frz (S:St b0 w0 P D w G) (hb:Below w.heap.size w w1) (Q:List (World→Prop)) (hQ:∀ q,q ∈ Q→Ft q w1 (fun k=>w.heap.size ≤ k)):St b0 w0 P (Q ++ D) w1 G:=by
  obtain ⟨f,hf,hD⟩:=S.all
  have hle:w0.heap.size ≤ w.heap.size:=S.kept.1
  refine ⟨below_step S.below hb,S.kept.below hb,fun k=>if w.heap.size ≤ k then G.length else f k,fun i p hi=>?_,fun p hp=>?_⟩
  · refine p.mono (fun k hk=>⟨?_,hk.1.2⟩) (p.step (p.bound (hf i p hi)) (fun k hk hlt=>hb.block k hk.2.2))
    show (if w.heap.size ≤ k then _ else f k) = i
    rw [if_neg (by omega)]
    exact hk.1.1
  · rcases List.mem_append.1 hp with hp | hp
    · refine (hQ p hp).step (Nat.le_refl _) (fun _ _ _=>rfl) (fun k hz _=>.inr ⟨Nat.le_trans hle hz,?_⟩)
      show _ ≤ (if w.heap.size ≤ k then _ else f k)
      rw [if_pos hz]
      exact Nat.le_refl _
    · refine (hD p hp).step hb.size (fun k _ hlt=>hb.block k hlt) (fun k hz hlt=>hz.imp id (fun h=>⟨h.1,?_⟩))
      show _ ≤ (if w.heap.size ≤ k then _ else f k)
      rw [if_neg (by omega)]
      exact h.2
theorem St.rq {β:Type} {d':Kd β} {A A':Option Addr} {n c n' c':Nat} {at_:At d} {at':At d'} {e e':Nat} {xs:List α} {ys:List β} {i j:Nat} {U U':Pc→List Pc} (S:St b0 w0 P D w G) [hG:HasRow G A n c at_ e xs i U] [hG':HasQ G A' n' c' at' e' ys j U'] [hn:NeC i j]:d.R e w b0.heap.size (fun k=>some k ≠ (Value.slice A' n' c').ownBlock) (.slice A n c) xs:=by
  obtain ⟨f,hf⟩:=S.own
  exact Kd.R_mono (hf i _ hG.out) (fun k hk h=>hn.out (hk.1.symm.trans ((hf j _ hG'.out).1 k h.symm).1))
theorem St.qr {β:Type} {d':Kd β} {A A':Option Addr} {n c n' c':Nat} {at_:At d} {at':At d'} {e e':Nat} {xs:List α} {ys:List β} {i j:Nat} {U U':Pc→List Pc} (S:St b0 w0 P D w G) [hG:HasQ G A n c at_ e xs i U] [hG':HasRow G A' n' c' at' e' ys j U'] [hn:NeC i j]:d.Q e w b0.heap.size (fun k=>some k ≠ (Value.slice A' n' c').ownBlock) (.slice A n c) xs:=by
  obtain ⟨f,hf⟩:=S.own
  exact Kd.Q_mono (hf i _ hG.out) (fun k hk h=>hn.out (hk.1.symm.trans ((hf j _ hG'.out).1 k h.symm).1))
theorem St.qq {β:Type} {d':Kd β} {A A':Option Addr} {n c n' c':Nat} {at_:At d} {at':At d'} {e e':Nat} {xs:List α} {ys:List β} {i j:Nat} {U U':Pc→List Pc} (S:St b0 w0 P D w G) [hG:HasQ G A n c at_ e xs i U] [hG':HasQ G A' n' c' at' e' ys j U'] [hn:NeC i j]:d.Q e w b0.heap.size (fun k=>some k ≠ (Value.slice A' n' c').ownBlock) (.slice A n c) xs:=by
  obtain ⟨f,hf⟩:=S.own
  exact Kd.Q_mono (hf i _ hG.out) (fun k hk h=>hn.out (hk.1.symm.trans ((hf j _ hG'.out).1 k h.symm).1))
theorem St.dq (S:St b0 w0 P D w G) (A:Option Addr) (k:Nat) {n c:Nat} {at_:At d} {e:Nat} {xs:List α} {i:Nat} {U:Pc→List Pc} [hG:HasQ G A n c at_ e xs i U] (hk:k ≤ xs.length) (m:Nat) (hm:m = d.sz) (y:List α) (hy:y = xs.drop k):∃ A' c',(Value.slice (if c = k then A else A.map (·.add (k * m))) (n - k) (c - k)) = .slice A' y.length c'∧St b0 w0 P D w (U (qrow at_ e A' y.length c' y)):=by
  obtain ⟨f,hf,hD⟩:=S.all
  have HO:=hf i _ hG.out
  have h1:=Kd.Q_drop HO hk
  have h2:=(Kd.Q_reads' HO).1
  subst hm;subst hy
  have hl:(xs.drop k).length = n - k:=by rw [List.length_drop,h2]
  refine ⟨_,_,by rw [hl],hG.set _ ▸ S.updf f hf hD i hG.out (gn (Below.refl _ _)) (fun k hk=>by cases hk) ?_⟩
  rw [hl]
  exact Kd.Q_mono h1 (fun k hk=>.inl hk)
end
section
variable {Pg:Program} {o:Oper} {a:Act} {Q:Exit→Act→World→Prop} {K:Act→World→Prop} {b0 w0 w:World} {P:Nat→Prop} {D:List (World→Prop)} {G:List Pc} {α:Type} {d:Kd α}
theorem ea_mid (g o sz:Nat) (q:Int) (j:Nat):ea (some ⟨g,o,none⟩) sz q j = ⟨g,o + q.toNat * sz + j,none⟩:=by
  cases j with
  | zero=>simp [ea,adr,add_at]
  | succ j=>simp [ea,adr,add_at]
theorem rqs (v:Value) (S:St b0 w0 P D w G) {t:TypeId} {x y:Operand} {p:Addr} {A:Option Addr} {n c:Nat} {at_:At d} {e:Nat} {xs:List α} {i:Nat} {U:Pc→List Pc} {q:Int} {m j:Nat} {z x':α} {vs:List Value}
    [hE:Ea p A q m j] [hG:HasQ G A n c at_ e xs i U] [hv:Cells v vs] [hz:Dz d z] [hW:WrC d (xs.getD q.toNat z) j vs x'] (hi:(Pg.info? t).map (·.size) = some vs.length)
    (h:∀ w1,St b0 w0 P D w1 (U (qrow at_ e A n c (xs.set q.toNat x')))→K a w1)
    (ho:o.op = .store t x y:=by with_reducible rfl) (hN:o.dst = none:=by with_reducible rfl) (hx:a.eval x = .pointer (some p):=by rfl) (hy:a.eval y = v:=by rfl) (hm:m = d.sz:=by rfl) (h1:vs.all (·.oneCell') = true:=by rfl) (h0:0 ≤ q:=by first | assumption | omega) (hq:q < n:=by first | assumption | omega):Oper.wp Pg o a w K Q:=by
  have e1:=hv.out
  subst e1
  obtain ⟨f,hf,hD⟩:=S.all
  have HO:=hf i _ hG.out
  have hn:=(Kd.Q_reads' HO).1
  obtain ⟨g,of_,cap,e1,hbg,hgw,cells,hcells⟩:=Kd.Q_form HO (by omega)
  injection e1 with e1 _ e2
  subst e1;subst e2
  obtain ⟨el,hel,hM,hc,hfr⟩:=Kd.Q_elem HO z q h0 (by exact hq)
  obtain ⟨hjs,hM'⟩:=hW.out _ _ _ _ hM
  have hx2:a.eval x = .pointer (some ⟨g,of_ + q.toNat * d.sz + j,none⟩):=by rw [hx,hE.out,hm,ea_mid]
  unfold Oper.wp execOp
  have hr:=run_stv (Pg:=Pg) w g (of_ + q.toNat * d.sz + j) t v (fun m hm=>by
    have h2:j + m < el.length:=by simp at hjs;omega
    refine ⟨?_,by rw [Nat.add_assoc];exact hfr _⟩
    rw [Nat.add_assoc,hc (j + m) _ (List.getElem?_eq_getElem h2)];rfl) (by simpa using hi) h1
  simp only [ho,hx2,hy,Sem.run_bind,Sem.run_pure,Result.andThen_ok,hr]
  show K (a.put o.dst undef) _
  rw [hN]
  have hs:=Kd.Q_seg HO q h0 (by exact hq) hel hc hjs hM' (fun _ hk=>hk)
  refine h _ (hG.set _ ▸ S.updf f hf hD i hG.out hs.2 (fun k hk=>?_) (Kd.Q_mono hs.1 (fun k hk=>.inl hk)))
  injection hk with hk
  subst hk
  exact ⟨HO.1 _ (by simp [Value.ownBlock]),hbg⟩
end
end Go.Proofs.YtbbhacpahnnlcaaV.Sl
