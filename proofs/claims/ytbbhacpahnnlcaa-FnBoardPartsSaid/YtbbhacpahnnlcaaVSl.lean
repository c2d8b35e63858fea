/- Words of the print, as this seat's own text. No conditions. -/
/- Words for short walks: what a call owns in memory as one fact, a list of pieces that lie apart. No conditions. -/
import Derived.Test.YtbbhacpahnnlcaaVMine
namespace Go.Proofs.YtbbhacpahnnlcaaV.Sl
open Go.RowKit Go.Proofs.YtbbhacpahnnlcaaV.PrintWords Go.Proofs.YtbbhacpahnnlcaaV.PrintLast Go.Proofs.YtbbhacpahnnlcaaV.PrintMore
set_option linter.unusedVariables false
set_option linter.unusedSimpArgs false
structure Pc where
  A:World→Nat→(Nat→Prop)→Prop
  F:World→Prop
  facts:∀ {w:World} {b:Nat} {ok:Nat→Prop},A w b ok→F w
  step:∀ {w w1:World} {b:Nat} {ok:Nat→Prop},A w b ok→(∀ k,ok k→k < w.heap.size→w1.heap[k]? = w.heap[k]?)→A w1 b ok
  mono:∀ {w:World} {b:Nat} {ok ok':Nat→Prop},(∀ k,ok k→ok' k)→A w b ok→A w b ok'
  bound:∀ {w:World} {b:Nat} {ok:Nat→Prop},A w b ok→A w b (fun k=>ok k∧b ≤ k∧k < w.heap.size)
def Fs:List Pc→World→Prop
  | [],_=>True
  | p :: r,w=>p.F w∧Fs r w
def Fb:List (World→Prop)→World→Prop
  | [],_=>True
  | p :: r,w=>p w∧Fb r w
def Ft (q:World→Prop) (w:World) (z:Nat→Prop):Prop:=∀ W:World,w.heap.size ≤ W.heap.size→(∀ k,z k→k < w.heap.size→W.heap[k]? = w.heap[k]?)→q W
theorem Ft.now {q:World→Prop} {w:World} {z:Nat→Prop} (h:Ft q w z):q w:=h w (Nat.le_refl _) (fun _ _ _=>rfl)
theorem Ft.step {q:World→Prop} {w w1:World} {z z1:Nat→Prop} (h:Ft q w z) (hs:w.heap.size ≤ w1.heap.size) (hm:∀ k,z k→k < w.heap.size→w1.heap[k]? = w.heap[k]?) (hz:∀ k,z k→k < w.heap.size→z1 k):Ft q w1 z1 :=
  fun W hW hk=>h W (Nat.le_trans hs hW) (fun k hzk hlt=>(hk k (hz k hzk hlt) (Nat.lt_of_lt_of_le hlt hs)).trans (hm k hzk hlt))
def Zn (w0:World) (P:Nat→Prop) (f:Nat→Nat) (n:Nat) (k:Nat):Prop:=(k < w0.heap.size∧¬ P k)∨(w0.heap.size ≤ k∧n ≤ f k)
structure St (b0 w0:World) (P:Nat→Prop) (D:List (World→Prop)) (w:World) (G:List Pc):Prop where
  below:Below b0.heap.size b0 w
  kept:Kept w0 w P
  all:∃ f:Nat→Nat,(∀ (i:Nat) (p:Pc),G[i]? = some p→p.A w b0.heap.size (fun k=>f k = i∧(P k∨w0.heap.size ≤ k)))∧∀ q,q ∈ D→Ft q w (Zn w0 P f G.length)
theorem St.own {b0 w0 w:World} {P:Nat→Prop} {D:List (World→Prop)} {G:List Pc} (S:St b0 w0 P D w G):∃ f:Nat→Nat,∀ (i:Nat) (p:Pc),G[i]? = some p→p.A w b0.heap.size (fun k=>f k = i∧(P k∨w0.heap.size ≤ k)):=S.all.imp fun _ h=>h.1
theorem fs_of {w:World}:∀ {G:List Pc},(∀ p,p ∈ G→p.F w)→Fs G w
  | [],_=>trivial
  | p :: r,h=>⟨h p (by simp),fs_of (fun q hq=>h q (by simp [hq]))⟩
theorem fb_of {w:World}:∀ {D:List (World→Prop)},(∀ p,p ∈ D→p w)→Fb D w
  | [],_=>trivial
  | p :: r,h=>⟨h p (by simp),fb_of (fun q hq=>h q (by simp [hq]))⟩
section
variable {b0 w0 w w1:World} {P:Nat→Prop} {D:List (World→Prop)} {G:List Pc}
theorem St.facts (S:St b0 w0 P D w G):Fb D w∧Fs G w:=by
  obtain ⟨f,hf,hD⟩:=S.all
  refine ⟨fb_of fun q hq=>(hD q hq).now,fs_of fun p hp=>?_⟩
  obtain ⟨i,hi⟩:=List.mem_iff_getElem?.1 hp
  exact p.facts (hf i p hi)
theorem St.updf (S:St b0 w0 P D w G) (f:Nat→Nat) (hf:∀ (i:Nat) (p:Pc),G[i]? = some p→p.A w b0.heap.size (fun k=>f k = i∧(P k∨w0.heap.size ≤ k))) (hD:∀ q,q ∈ D→Ft q w (Zn w0 P f G.length)) (i:Nat) {p p':Pc} (hi:G[i]? = some p) {row:Option Nat} (hg:w.grownBy w1 row)
    (hrow:∀ k,row = some k→(f k = i∧(P k∨w0.heap.size ≤ k))∧b0.heap.size ≤ k)
    (hA:p'.A w1 b0.heap.size (fun k=>(f k = i∧(P k∨w0.heap.size ≤ k))∨w.heap.size ≤ k)):St b0 w0 P D w1 (G.set i p'):=by
  have hle:w0.heap.size ≤ w.heap.size:=S.kept.1
  have hilt:i < G.length:=(List.getElem?_eq_some_iff.1 hi).1
  refine ⟨?_,Kept.of_grown hg S.kept (fun k hk=>(hrow k hk).1.2),fun k=>if w.heap.size ≤ k then i else f k,?_,fun q hq=>(hD q hq).step hg.size (fun k hz hlt=>hg.block k hlt (fun e=>?_)) (fun k hz hlt=>?_)⟩
  · exact S.below.grown hg S.below.size (fun k hk=>(hrow k hk).2)
  rotate_left
  · obtain ⟨⟨h1,h2⟩,_⟩:=hrow k e.symm
    rcases hz with hz | hz
    · exact h2.elim hz.2 (fun h=>by omega)
    · omega
  · refine hz.imp id (fun h=>⟨h.1,?_⟩)
    show _ ≤ (if w.heap.size ≤ k then i else f k)
    rw [if_neg (by omega),List.length_set]
    exact h.2
  · intro j q hj
    by_cases hji:j = i
    · subst hji
      have hlt:j < G.length:=(List.getElem?_eq_some_iff.1 hi).1
      rw [List.getElem?_set_self hlt] at hj
      injection hj with hj
      subst hj
      refine p'.mono (fun k hk=>?_) hA
      show (if w.heap.size ≤ k then j else f k) = j∧_
      by_cases hk2:w.heap.size ≤ k
      · rw [if_pos hk2]
        exact ⟨rfl,.inr (by omega)⟩
      · rw [if_neg hk2]
        exact hk.elim id (fun h=>absurd h hk2)
    · rw [List.getElem?_set_ne (Ne.symm hji)] at hj
      refine q.mono (fun k hk=>?_) (q.step (q.bound (hf j q hj)) (fun k hk _=>hg.block k hk.2.2 (fun e=>?_)))
      · show (if w.heap.size ≤ k then i else f k) = j∧_
        rw [if_neg (by omega)]
        exact hk.1
      · exact hji (hk.1.1.symm.trans (hrow k e.symm).1.1)
theorem St.new (S:St b0 w0 P D w G) {p:Pc} (hg:w.grownBy w1 none) (hA:∀ ok:Nat→Prop,(∀ k,w.heap.size ≤ k→ok k)→p.A w1 b0.heap.size ok):St b0 w0 P D w1 (p :: G):=by
  obtain ⟨f,hf,hD⟩:=S.all
  have hle:w0.heap.size ≤ w.heap.size:=S.kept.1
  refine ⟨S.below.grown hg S.below.size (fun k hk=>by cases hk),Kept.of_grown hg S.kept (fun k hk=>by cases hk),fun k=>if w.heap.size ≤ k then 0 else f k + 1,?_,fun q hq=>(hD q hq).step hg.size (fun k _ hlt=>hg.block k hlt (by simp)) (fun k hz hlt=>hz.imp id (fun h=>⟨h.1,?_⟩))⟩
  rotate_left
  · show _ ≤ (if w.heap.size ≤ k then 0 else f k + 1)
    rw [if_neg (by omega),List.length_cons]
    omega
  intro j q hj
  cases j with
  | succ j =>
    refine q.mono (fun k hk=>?_) (q.step (q.bound (hf j q hj)) (fun k hk _=>hg.block k hk.2.2 (by simp)))
    show (if w.heap.size ≤ k then 0 else f k + 1) = j + 1∧_
    rw [if_neg (by omega),hk.1.1]
    exact ⟨rfl,hk.1.2⟩
  | zero =>
    injection hj with hj
    subst hj
    refine hA _ (fun k hk=>?_)
    show (if w.heap.size ≤ k then 0 else f k + 1) = 0∧_
    rw [if_pos hk]
    exact ⟨rfl,.inr (by omega)⟩
theorem St.go (S:St b0 w0 P D w G) (hb:Below w.heap.size w w1):St b0 w0 P D w1 G:=by
  obtain ⟨f,hf,hD⟩:=S.all
  exact ⟨below_step S.below hb,S.kept.below hb,f,fun j q hj=>q.step (hf j q hj) (fun k _ hk=>hb.block k hk),fun q hq=>(hD q hq).step hb.size (fun k _ hlt=>hb.block k hlt) (fun _ hz _=>hz)⟩
end
def adr (A:Option Addr):Addr:=A.getD ⟨0,0,none⟩
def Okk (A:Option Addr) (n:Nat):Prop:=A = none→n = 0
theorem adr_of {A:Option Addr} {n:Nat} (h:Okk A n) {i:Int} (h0:0 ≤ i) (h1:i < n):A = some (adr A):=by
  cases A with
  | none=>have:=h rfl;omega
  | some a=>rfl
theorem ia_opt {Pg:Program} (w:World) (t:TypeId) (A:Option Addr) (len cap:Nat) (k:IntKind) (i:Int) (h:Pg.underlying t = some (.slice (Pg.elem t))) (hA:Okk A len) (h0:0 ≤ i) (h1:i < len) :
    (Instr.indexAt t (.slice A len cap) (.int k i)).run Pg w = ((sizeOf (Pg.elem t)).run Pg w).andThen fun s w=>.ok (.pointer (some ((adr A).add (i.toNat * s)))) w:=by
  rw [adr_of hA h0 h1,run_indexAt_slice _ _ _ _ _ _ _ h,if_pos ⟨h0,h1⟩];rfl
theorem it_opt {Pg:Program} (w:World) (t:TypeId) (A:Option Addr) (len cap:Nat) (k:IntKind) (j:Int) (h:Pg.underlying t = some (.slice (Pg.elem t))) (hi:(Pg.info? (Pg.elem t)).isSome = true) (h0:0 ≤ j) (h1:j ≤ len) (h2:len ≤ cap) :
    (Instr.slice t (.slice A len cap) none (some (.int k j)) none).run Pg w = .ok (.slice A j.toNat cap) w:=by
  obtain ⟨i,hi⟩:=Option.isSome_iff_exists.1 hi
  exact cut_to t (Pg.elem t) k h hi A len cap j h0 h1 h2 w
def cellsF (w:World) (g:Nat):Nat→List Value→Prop
  | _,[]=>True
  | n,c :: r=>w.cell? ⟨g,n,none⟩ = some c∧cellsF w g (n + 1) r
theorem cellsF_of {w:World} {g:Nat} {all:List Value} (h:∀ i,w.cell? ⟨g,i,none⟩ = all[i]?):∀ (n:Nat) (cs:List Value),all.drop n = cs→cellsF w g n cs
  | _,[],_=>trivial
  | n,c :: r,e=>by
    refine ⟨?_,cellsF_of h (n + 1) r (by rw [← List.tail_drop,e];rfl)⟩
    rw [h n,← List.head?_drop,e];rfl
def box (g t:Nat) (cs:List Value):Pc where
  A w b ok:=ok g∧b ≤ g∧w.heap[g]? = some (.cells cs.toArray t (0,0))
  F w:=cellsF w g 0 cs
  facts h:=cellsF_of (all:=cs) (fun i=>by rw [blk_cell h.2.2 i];simp) 0 cs (by simp)
  step h hm:=⟨h.1,h.2.1,(hm _ h.1 (blk_lt h.2.2)).trans h.2.2⟩
  mono hm h:=⟨hm _ h.1,h.2⟩
  bound h:=⟨⟨h.1,h.2.1,blk_lt h.2.2⟩,h.2⟩
structure At {α:Type} (d:Kd α) where
  F:World→Option Addr→List α→Prop
  h:∀ {w:World} {A:Option Addr} {xs:List α},d.C w A xs.length xs→F w A xs
def row {α:Type} {d:Kd α} (at_:At d) (e:Nat) (A:Option Addr) (n c:Nat) (xs:List α):Pc where
  A w b ok:=d.R e w b ok (.slice A n c) xs
  F w:=xs.length = n∧Okk A n∧n ≤ c∧at_.F w A xs∧d.C w A xs.length xs
  facts h:=by
    have h1:=Kd.R_reads' h
    refine ⟨h1.1.symm,?_,h1.2.1,at_.h h1.2.2,h1.2.2⟩
    rw [h1.1]
    intro e
    cases hx:xs with
    | nil=>rfl
    | cons x r =>
      obtain ⟨g,cap,e1,_⟩:=Kd.R_form h (by rw [hx];simp)
      rw [e] at e1
      injection e1 with e1;cases e1
  step h hm:=Kd.R_step h hm
  mono hm h:=Kd.R_mono h hm
  bound h:=Kd.R_mono (Kd.R_bound h) (fun _ hk=>⟨hk.1,hk.2.1,hk.2.2.1⟩)
def bor {α:Type} {d:Kd α} (at_:At d) (A:Option Addr) (c:Nat) (xs:List α) (w:World):Prop:=Okk A xs.length∧xs.length ≤ c∧at_.F w A xs∧d.C w A xs.length xs
theorem okk_C {α:Type} {d:Kd α} {w:World} {A:Option Addr} {xs:List α} (h:d.C w A xs.length xs):Okk A xs.length:=by
  intro e
  subst e
  cases xs with
  | nil=>rfl
  | cons x r =>
    obtain ⟨ad,_,e,_⟩:=Kd.C_get h x 0 (by omega) (by simp)
    cases e
theorem bor_C {α:Type} {d:Kd α} (at_:At d) {w:World} {A:Option Addr} {c:Nat} {xs:List α} (h:d.C w A xs.length xs) (hc:xs.length ≤ c):bor at_ A c xs w:=⟨okk_C h,hc,at_.h h,h⟩
section
variable {w0:World} {P:Nat→Prop} {D:List (World→Prop)} {G:List Pc}
def Dok (w0:World) (P:Nat→Prop) (D:List (World→Prop)):Prop:=∀ q,q ∈ D→∀ W,Kept w0 W P→q W
theorem dn {w0:World}:Dok w0 P []:=fun q h=>by cases h
theorem dk {w0:World} {α:Type} {d:Kd α} (at_:At d) {A:Option Addr} {c:Nat} {xs:List α} (h:∀ W,Kept w0 W P→d.C W A xs.length xs) (hc:xs.length ≤ c) (k:Dok w0 P D):Dok w0 P (bor at_ A c xs :: D):=fun q hq W hk=>by
  rcases List.mem_cons.1 hq with rfl | hq
  · exact bor_C at_ (h W hk) hc
  · exact k q hq W hk
theorem dc {w:World} {α:Type} {d:Kd α} (hd:Kd.Heap d) (at_:At d) {A:Option Addr} {c:Nat} {xs:List α} (h:d.C w A xs.length xs) (hc:xs.length ≤ c) (k:Dok w (fun _=>False) D):Dok w (fun _=>False) (bor at_ A c xs :: D):=fun q hq W hk=>by
  rcases List.mem_cons.1 hq with rfl | hq
  · exact bor_C at_ (hd.C (fun k hlt=>hk.2 k hlt id) h) hc
  · exact k q hq W hk
theorem dft {w:World} (hD:Dok w P D) {f:Nat→Nat} {n:Nat}:∀ q,q ∈ D→Ft q w (Zn w P f n):=fun q hq W hs hW=>hD q hq W ⟨hs,fun k hk hP=>hW k (.inl ⟨hk,hP⟩) hk⟩
theorem St.init {w:World} {D:List (World→Prop)} (hD:Dok w (fun _=>False) D):St w w (fun _=>False) D w [] :=
  ⟨Below.refl _ _,Kept.refl _ _,fun _=>0,(fun i p h=>by cases h),fun q hq W hs hW=>hD q hq W ⟨hs,fun k hk _=>hW k (.inl ⟨hk,id⟩) hk⟩⟩
theorem St.own1 {b0 w:World} {α:Type} {d:Kd α} (at_:At d) {e n c:Nat} {A:Option Addr} {xs:List α} (hB:Below b0.heap.size b0 w) (ho:d.R e w b0.heap.size P (.slice A n c) xs) (hD:Dok w P D):St b0 w P D w [row at_ e A n c xs] :=
  ⟨hB,Kept.refl _ _,fun _=>0,(fun i p h=>by
    cases i with
    | zero=>injection h with h;subst h;exact Kd.R_mono ho (fun k hk=>⟨rfl,.inl hk⟩)
    | succ i=>cases h),fun q hq W hs hW=>hD q hq W ⟨hs,fun k hk hP=>hW k (.inl ⟨hk,hP⟩) hk⟩⟩
theorem St.rk {b0 w0 w:World} {α:Type} {d:Kd α} {at_:At d} {e n c:Nat} {A:Option Addr} {xs:List α} (S:St b0 w0 P D w G) (i:Nat) (hi:G[i]? = some (row at_ e A n c xs)):d.R e w b0.heap.size (fun k=>P k∨w0.heap.size ≤ k) (.slice A n c) xs:=by
  obtain ⟨f,hf⟩:=S.own
  exact Kd.R_mono (hf i _ hi) (fun k hk=>hk.2)
end
section
variable {Pg:Program} {ops:Array Oper} {Q:Exit→Act→World→Prop} {S:World→Prop} {ds:List Nat} {r:List (Nat × Nat)} {i:Nat} {oi:Oper} {v:Value} {a a':Act} {w:World}
def chkO (T:Bool × List (List Nat × List Nat)) (ds:List Nat):List Bool→List (Nat × Nat)→Bool
  | l,[]=>readyT T.2 l == []
  | l,(0,i) :: r=>anyT T l (l.set i true) i && chkO T ds (l.set i true) r
  | l,(1,i) :: r=>takeT T ds l (l.set i true) i && chkO T ds (l.set i true) r
  | l,(2,i) :: r=>readyT T.2 l == [i] && !ds.contains i && chkO T ds (l.set i true) r
  | l,(_,i) :: r=>readyT T.2 l == [i] && ds.contains i && chkO T ds (l.set i true) r
def wpO (Pg:Program) (ops:Array Oper) (Q:Exit→Act→World→Prop) (S:World→Prop):List (Nat × Nat)→Act→World→Prop
  | [],a,w=>Q .normal a w
  | (0,i) :: r,a,w=>∃ oi v,ops[i]? = some oi∧Yields Pg ops oi v a∧wpO Pg ops Q S r (a.put oi.dst v) w
  | (1,i) :: r,a,w=>S w∧∃ oi v,ops[i]? = some oi∧YieldsIf Pg ops S oi v a∧wpO Pg ops Q S r (a.put oi.dst v) w
  | (2,i) :: r,a,w=>∃ oi,ops[i]? = some oi∧∀ K:Act→World→Prop,(∀ a' w',S w'→wpO Pg ops Q S r a' w'→K a' w')→if Region.wanted oi (yielded ops a.tmps) = true then Oper.wp Pg oi a w K Q else K (a.put oi.dst undef) w
  | (_,i) :: r,a,w=>∃ oi,ops[i]? = some oi∧∀ K:Act→World→Prop,(∀ a' w',wpO Pg ops Q S r a' w'→K a' w')→if Region.wanted oi (yielded ops a.tmps) = true then Oper.wp Pg oi a w K Q else K (a.put oi.dst undef) w
theorem ord_any {T:Bool × List (List Nat × List Nat)} (hT:rtab .any ops = T) (hQ:∀ c d v a w,Q (.panic c) (a.put d v) w→Q (.panic c) a w):∀ (ord:List (Nat × Nat)) (l:List Bool) (fuel:Nat) (a:Act) (w:World),chkO T ds l ord = true→ord.length ≤ fuel →
    wpO Pg ops Q S ord a w→wpAnyLast Pg .any ops Q S ds fuel l.toArray a w
  | [],l,fuel,a,w,hc,_,h=>done_ (done_of hT hc) h
  | (k,i) :: r,l,0,a,w,_,hl,_=>by simp at hl
  | (0,i) :: r,l,fuel + 1,a,w,hc,hl,h=>by
    simp only [chkO,Bool.and_eq_true] at hc
    obtain ⟨oi,v,hi,hy,h⟩:=h
    refine pure_ (l.set i true).toArray hi rfl (any_of hT hc.1) (fun c a w h=>hQ c _ _ a w h) hy rfl (ord_any hT hQ r _ fuel _ _ hc.2 (by simp at hl;omega) h)
  | (1,i) :: r,l,fuel + 1,a,w,hc,hl,h=>by
    simp only [chkO,Bool.and_eq_true] at hc
    obtain ⟨hS,oi,v,hi,hy,h⟩:=h
    refine take_ (l.set i true).toArray hi rfl (take_of hT hc.1) (fun c a w h=>hQ c _ _ a w h) hy hS rfl (ord_any hT hQ r _ fuel _ _ hc.2 (by simp at hl;omega) h)
  | (2,i) :: r,l,fuel + 1,a,w,hc,hl,h=>by
    simp only [chkO,Bool.and_eq_true,Bool.not_eq_true',beq_iff_eq] at hc
    obtain ⟨oi,hi,h⟩:=h
    refine one_ (l.set i true).toArray hi rfl (one_of hT (by simp [hc.1.1])) (by simpa using hc.1.2) (fun K hK=>h K (fun a' w' hS hw=>hK.out a' w' hS (fun _=>ord_any hT hQ r _ fuel _ _ hc.2 (by simp at hl;omega) hw)))
  | (k + 3,i) :: r,l,fuel + 1,a,w,hc,hl,h=>by
    simp only [chkO,Bool.and_eq_true,beq_iff_eq] at hc
    obtain ⟨oi,hi,h⟩:=h
    refine last_ (l.set i true).toArray hi rfl (one_of hT (by simp [hc.1.1])) (by simpa using hc.1.2) (fun K hK=>h K (fun a' w' hw=>hK.out a' w' (ord_any hT hQ r _ fuel _ _ hc.2 (by simp at hl;omega) hw)))
theorem rg {id:Nat} (ord:List (Nat × Nat)) (ds:List Nat) (S:World→Prop) (hm:Pg.follows .mixedOrders = true) (hc:(chkO (rtab .any ops) ds (List.replicate ops.size false) ord && ord.length == ops.size) = true) (hQ:∀ c d v a w,Q (.panic c) (a.put d v) w→Q (.panic c) a w)
    (hS:S w.drew) (h:S w.drew→wpO Pg ops Q S ord a w.drew):(Code.region id ops true).wp Pg Q a w:=by
  simp only [Bool.and_eq_true,beq_iff_eq] at hc
  refine wp_region_last_drew (ds:=ds) hm hS (fun hS=>?_)
  have:=ord_any (ds:=ds) rfl hQ ord (List.replicate ops.size false) ops.size a w.drew hc.1 (by omega) (h hS)
  simpa using this
theorem gi {tl:List Oper} (h:ops.toList.drop i = oi :: tl):ops[i]? = some oi:=by
  have:(ops.toList.drop i)[0]? = some oi:=by rw [h];rfl
  rw [List.getElem?_drop] at this
  simpa using this
theorem oz (h:Q .normal a w):wpO Pg ops Q S [] a w:=h
theorem o0 {tl:List Oper} (hi:ops.toList.drop i = oi :: tl) (hb:Region.wanted oi (yielded ops a.tmps) = true) (hv:∀ w,(execOp a.eval oi).run Pg w = .ok (.value v) w) (ha:a.put oi.dst v = a') (h:wpO Pg ops Q S r a' w):wpO Pg ops Q S ((0,i) :: r) a w:=⟨oi,v,gi hi,.inl ⟨hb,hv⟩,ha ▸ h⟩
theorem o0n {tl:List Oper} (hi:ops.toList.drop i = oi :: tl) (hb:Region.wanted oi (yielded ops a.tmps) = false) (ha:a.put oi.dst undef = a') (h:wpO Pg ops Q S r a' w):wpO Pg ops Q S ((0,i) :: r) a w:=⟨oi,undef,gi hi,.inr ⟨hb,rfl⟩,ha ▸ h⟩
theorem o1 {tl:List Oper} (hS:S w) (hi:ops.toList.drop i = oi :: tl) (hb:Region.wanted oi (yielded ops a.tmps) = true) (hv:∀ w,S w→(execOp a.eval oi).run Pg w = .ok (.value v) w) (ha:a.put oi.dst v = a') (h:wpO Pg ops Q S r a' w):wpO Pg ops Q S ((1,i) :: r) a w:=⟨hS,oi,v,gi hi,.inl ⟨hb,hv⟩,ha ▸ h⟩
theorem o1n {tl:List Oper} (hS:S w) (hi:ops.toList.drop i = oi :: tl) (hb:Region.wanted oi (yielded ops a.tmps) = false) (ha:a.put oi.dst undef = a') (h:wpO Pg ops Q S r a' w):wpO Pg ops Q S ((1,i) :: r) a w:=⟨hS,oi,undef,gi hi,.inr ⟨hb,rfl⟩,ha ▸ h⟩
theorem o2 {tl:List Oper} (hi:ops.toList.drop i = oi :: tl) (hb:Region.wanted oi (yielded ops a.tmps) = true) (h:∀ K:Act→World→Prop,(∀ a' w',S w'→wpO Pg ops Q S r a' w'→K a' w')→Oper.wp Pg oi a w K Q):wpO Pg ops Q S ((2,i) :: r) a w:=⟨oi,gi hi,fun K hK=>by rw [if_pos hb];exact h K hK⟩
theorem o3 {tl:List Oper} (hi:ops.toList.drop i = oi :: tl) (hb:Region.wanted oi (yielded ops a.tmps) = true) (h:∀ K:Act→World→Prop,(∀ a' w',wpO Pg ops Q S r a' w'→K a' w')→Oper.wp Pg oi a w K Q):wpO Pg ops Q S ((3,i) :: r) a w:=⟨oi,gi hi,fun K hK=>by rw [if_pos hb];exact h K hK⟩
end
section
variable {Pg:Program} {o:Oper} {a:Act} {Q:Exit→Act→World→Prop} {K:Act→World→Prop} {b0 w0 w:World} {P:Nat→Prop} {D:List (World→Prop)} {G:List Pc}
theorem gn {w w1:World} (h:Below w.heap.size w w1):w.grownBy w1 none:=⟨h.os,h.tape,h.output,h.size,fun k hk _=>h.block k hk⟩
theorem ax (S:St b0 w0 P D w G) {t:TypeId} (ho:o.op = .alloc t) {cs:List Value}
    (hr:(execOp a.eval o).run Pg w = .ok (.value (.pointer (some ⟨w.heap.size,0,none⟩))) (w.alloc (.cells cs.toArray t (0,0))))
    (h:∀ g w1,St b0 w0 P D w1 (box g t cs :: G)→K (a.put o.dst (.pointer (some ⟨g,0,none⟩))) w1):Oper.wp Pg o a w K Q:=by
  unfold Oper.wp
  rw [hr]
  exact h _ _ (S.new (World.grownBy_alloc w _ none) (fun ok hk=>⟨hk _ (Nat.le_refl _),S.below.size,blk_new w _⟩))
theorem bx (S:St b0 w0 P D w G) {t:TypeId} {x:Operand} (ho:o.op = .box t x) {cs:List Value}
    (hr:(execOp a.eval o).run Pg w = .ok (.value (.pointer (some ⟨w.heap.size,0,none⟩))) (w.alloc (.cells cs.toArray t (0,0))))
    (h:∀ g w1,St b0 w0 P D w1 (box g t cs :: G)→K (a.put o.dst (.pointer (some ⟨g,0,none⟩))) w1):Oper.wp Pg o a w K Q:=by
  unfold Oper.wp
  rw [hr]
  exact h _ _ (S.new (World.grownBy_alloc w _ none) (fun ok hk=>⟨hk _ (Nat.le_refl _),S.below.size,blk_new w _⟩))
theorem St.drew (S:St b0 w0 P D w G):St b0 w0 P D w.drew G:=S.go (below_drew (Below.refl _ _))
end
section
variable {Pg:Program} {o:Oper} {a:Act} {Q:Exit→Act→World→Prop} {K:Act→World→Prop} {b0 w0 w:World} {P:Nat→Prop} {D:List (World→Prop)} {G:List Pc} {α:Type} {d:Kd α}
theorem wanted_none (ops:Array Oper) (hgd:o.guard = none):Region.wanted o (yielded ops a.tmps) = true:=by simp [Region.wanted,hgd]
theorem mk (at_:At d) (e:Nat) (S:St b0 w0 P D w G) (hgd:o.guard = none) {N:Tmp} (hd:o.dst = some N) {t:TypeId} {x y:Operand} (ho:o.op = .makeSlice t x y) {n:Int} (hx:a.eval x = .int .i64 n) (hy:a.eval y = .int .i64 n)
    (ht:Pg.underlying t = some (.slice e)) {z:Value} {bytes:Nat} (hinfo:(Pg.info? e).map (fun i=>(i.zero,i.size,i.bytes)) = some (some z,d.sz,bytes)) (hz:z.cells.size = d.sz) (hs0:0 < d.sz) (hb0:0 < bytes)
    (z0:α) (hzero:∀ W base,d.M W base (fun _=>False) z0 z.cells.toList) (h0:0 ≤ n) (hl:n.toNat * bytes ≤ 281474976710656)
    (h:∀ xs,xs = List.replicate n.toNat z0→∀ A c w1,St b0 w0 P D w1 (row at_ e A xs.length c xs :: G)→K (a.put o.dst (.slice A xs.length c)) w1):Oper.wp Pg o a w K Q:=by
  have hw:=wanted_none (o:=o) (a:=a) #[] hgd
  have:=Kd.R_make_step (P:=Pg) (ops:=#[]) (Q:=Q) (Kc:=K) (w0:=b0) d b0.heap.size e hw hd t x y ho n hx hy ht z bytes hinfo hz hs0 hb0 z0 (ok:=fun k=>w.heap.size ≤ k) (okp:=fun _=>False) (hzero _ _) (fun _ hk=>hk.elim) (Nat.le_refl _) h0 hl S.below S.below.size
    (fun v1 w1 ho hb hg _=>by
      obtain ⟨A,c,rfl⟩:=Kd.R_slice ho
      exact h _ rfl A c w1 (S.new hg (fun ok hk=>Kd.R_mono ho hk)))
  rwa [if_pos hw] at this
theorem lit (at_:At d) (e:Nat) (S:St b0 w0 P D w G) (hgd:o.guard = none) {N:Tmp} (hd:o.dst = some N) {t:TypeId} {n:Nat} {ps:Array (Nat × Operand)} (ho:o.op = .buildSlice t n ps) (xs:List α) {inner:List Value}
    (hrep:∀ W base,Reps (d.M W base (fun _=>False)) d.sz xs inner) (hm:xs.length ≤ 9223372036854775807)
    (hr:(execOp a.eval o).run Pg w = .ok (.value (.slice (some ⟨w.heap.size,0,none⟩) xs.length xs.length)) (w.alloc (.cells inner.toArray e)))
    (h:∀ ys,ys = xs→∀ A c w1,St b0 w0 P D w1 (row at_ e A ys.length c ys :: G)→K (a.put o.dst (.slice A ys.length c)) w1):Oper.wp Pg o a w K Q:=by
  have hw:=wanted_none (o:=o) (a:=a) #[] hgd
  have:=Kd.R_lit_step (P:=Pg) (ops:=#[]) (Q:=Q) (Kc:=K) (w0:=b0) d b0.heap.size e hw hd (ok:=fun k=>w.heap.size ≤ k) (okp:=fun _=>False) hr (hrep _ _) (fun _ hk=>hk.elim) (Nat.le_refl _) S.below S.below.size hm
    (fun v1 w1 ho hb hg _=>by
      obtain ⟨A,c,rfl⟩:=Kd.R_slice ho
      exact h _ rfl A c w1 (S.new hg (fun ok hk=>Kd.R_mono ho hk)))
  rwa [if_pos hw] at this
class HasBox (G:List Pc) (g:Nat) (t:outParam Nat) (cs:outParam (List Value)) (i:outParam Nat) (U:outParam (Pc→List Pc)):Prop where
  out:G[i]? = some (box g t cs)
  set:∀ p,U p = G.set i p
instance {G:List Pc} {g t:Nat} {cs:List Value}:HasBox (box g t cs :: G) g t cs 0 (fun p=>p :: G):=⟨rfl,fun _=>rfl⟩
instance {G:List Pc} {p:Pc} {g t:Nat} {cs:List Value} {i:Nat} {U:Pc→List Pc} [h:HasBox G g t cs i U]:HasBox (p :: G) g t cs (i + 1) (fun q=>p :: U q):=⟨h.out,fun q=>congrArg _ (h.set q)⟩
class HasRow (G:List Pc) (A:Option Addr) (n c:outParam Nat) {α:outParam Type} {d:outParam (Kd α)} (at_:outParam (At d)) (e:outParam Nat) (xs:outParam (List α)) (i:outParam Nat) (U:outParam (Pc→List Pc)):Prop where
  out:G[i]? = some (row at_ e A n c xs)
  set:∀ p,U p = G.set i p
instance {G:List Pc} {A:Option Addr} {n c:Nat} {at_:At d} {e:Nat} {xs:List α}:HasRow (row at_ e A n c xs :: G) A n c at_ e xs 0 (fun p=>p :: G):=⟨rfl,fun _=>rfl⟩
instance {G:List Pc} {p:Pc} {A:Option Addr} {n c:Nat} {at_:At d} {e:Nat} {xs:List α} {i:Nat} {U:Pc→List Pc} [h:HasRow G A n c at_ e xs i U]:HasRow (p :: G) A n c at_ e xs (i + 1) (fun q=>p :: U q):=⟨h.out,fun q=>congrArg _ (h.set q)⟩
class Cells (v:Value) (vs:outParam (List Value)):Prop where out:v.cells.toList = vs
instance {k:IntKind} {n:Int}:Cells (.int k n) [.int k n]:=⟨rfl⟩
instance {b:Bool}:Cells (.bool b) [.bool b]:=⟨rfl⟩
instance {s:ByteArray}:Cells (.string s) [.string s]:=⟨rfl⟩
instance {A:Option Addr} {n c:Nat}:Cells (.slice A n c) [.slice A n c]:=⟨rfl⟩
instance {A:Option Addr}:Cells (.pointer A) [.pointer A]:=⟨rfl⟩
instance {l:List Value}:Cells (.agg l.toArray) l:=⟨rfl⟩
class PutL (cs:List Value) (j:Nat) (vs:List Value) (r:outParam (List Value)):Prop where out:j + vs.length ≤ cs.length∧cs.take j ++ vs ++ cs.drop (j + vs.length) = r
instance {cs:List Value}:PutL cs 0 [] cs:=⟨by simp⟩
instance {c v:Value} {cs vs r:List Value} [h:PutL cs 0 vs r]:PutL (c :: cs) 0 (v :: vs) (v :: r):=⟨by
  have:=h.out
  simp only [Nat.zero_add,List.take_zero,List.nil_append,List.length_cons,List.drop_succ_cons,List.cons_append,List.cons.injEq,true_and] at this ⊢
  exact ⟨by omega,this.2⟩⟩
instance {c:Value} {cs vs r:List Value} {j:Nat} [h:PutL cs j vs r]:PutL (c :: cs) (j + 1) vs (c :: r):=⟨by
  have:=h.out
  simp only [List.length_cons,List.take_succ_cons,List.cons_append,Nat.add_right_comm j 1 vs.length,List.drop_succ_cons,List.cons.injEq,true_and] at this ⊢
  exact ⟨by omega,this.2⟩⟩
theorem ap1 {A:Option Addr} {n c:Nat} {at_:At d} {e:Nat} {xs:List α} {i:Nat} {U:Pc→List Pc} (S:St b0 w0 P D w G) (hgd:o.guard = none) {s x:Operand} {t:TypeId} (ho:o.op = .call { callee:=.builtin .append,args:=#[s,x],argTypes:=#[t,t] })
    (hs:a.eval s = .slice A n c) [hG:HasRow G A n c at_ e xs i U] {cs:List Value} (hx:a.eval x = .slice (some ⟨w.heap.size,0,none⟩) 1 1)
    (ht:Pg.underlying t = some (.slice e)) {z:Value} {bytes:Nat} (hinfo:(Pg.info? e).map (fun i=>(i.zero,i.size,i.bytes)) = some (some z,d.sz,bytes)) (hz:z.cells.size = d.sz) (hs0:0 < d.sz) (hb0:0 < bytes)
    (p:α) (hp:∀ W base,d.M W base (fun _=>False) p cs) (hl:(xs.length + 1) * bytes ≤ 140737488355328)
    (h:∀ ys,ys = xs ++ [p]→∀ A' c' w1,St b0 w0 P D w1 (U (row at_ e A' ys.length c' ys))→K (a.put o.dst (.slice A' ys.length c')) w1):Oper.wp Pg o a (w.alloc (.cells cs.toArray e)) K Q:=by
  have hw:=wanted_none (o:=o) (a:=a) #[] hgd
  obtain ⟨f,hf,hD⟩:=S.all
  have HO:=hf i _ hG.out
  have hle:w0.heap.size ≤ w.heap.size:=S.kept.1
  have:=Kd.R_append_step (P:=Pg) (ops:=#[]) (Q:=Q) (Kc:=K) (w0:=b0) d b0.heap.size hw s x t e z bytes ho ht hinfo hz hs0 hb0 (.slice A n c) xs p cs (fun k=>(f k = i∧(P k∨w0.heap.size ≤ k))∨w.heap.size ≤ k) (fun _=>False) hs hx (hp _ _) (fun _ hk=>hk.elim) (fun k hk=>.inr hk) (Kd.R_mono HO (fun k hk=>.inl hk)) S.below S.below.size hl
    (fun v1 w1 ho hb hg hat=>by
      obtain ⟨A',c',rfl⟩:=Kd.R_slice ho
      refine h _ rfl A' c' w1 (hG.set _ ▸ S.updf f hf hD i hG.out hg (fun k hk=>⟨HO.1 k hk,?_⟩) ho)
      obtain ⟨_,_,hown,_⟩:=HO
      exact own_base hown k hk)
  rwa [if_pos hw] at this
end
section
variable {Pg:Program} {o:Oper} {a:Act} {Q:Exit→Act→World→Prop} {K:Act→World→Prop} {b0 w0 w:World} {P:Nat→Prop} {D:List (World→Prop)} {G:List Pc} {α:Type} {d:Kd α}
theorem run_stv (w:World) (b o:Nat) (ty:TypeId) (v:Value) (ht:w.there b o v.cells.size) (hi:(Pg.info? ty).map (·.size) = some v.cells.size) (h1:v.cells.toList.all (·.oneCell') = true) :
    (Instr.storeAt ty (.pointer (some ⟨b,o,none⟩)) v).run Pg w = .ok () (w.setCells b o v.cells.toList):=by
  have:=run_storeCells_cells (P:=Pg) b o v.cells.toList 0 w (fun j hj=>by simpa using (ht j (by simpa using hj)).1) (fun j hj=>by simpa using (ht j (by simpa using hj)).2)
    (fun v hv=>List.all_eq_true.1 h1 v hv)
  simp only [Instr.storeAt,Instr.sureAddr,Sem.run_bind,Sem.run_pure,Result.andThen_ok]
  cases hq:Pg.info? ty with
  | none=>simp [hq] at hi
  | some i =>
    have hs:v.cells.size = i.size:=by simp [hq] at hi;omega
    simpa [storeVar,sizeOf,typeInfo,hq,hs] using this
theorem setCells_blk {t:TypeId}:∀ (vs:List Value) (j:Nat) (w:World) (cs:List Value) {g:Nat},w.heap[g]? = some (.cells cs.toArray t (0,0))→j + vs.length ≤ cs.length →
    (w.setCells g j vs).heap[g]? = some (.cells (cs.take j ++ vs ++ cs.drop (j + vs.length)).toArray t (0,0))
  | [],j,w,cs,g,h,_=>by simpa [World.setCells] using h
  | v :: r,j,w,cs,g,h,hl=>by
    simp only [List.length_cons] at hl
    have h1:=setCells_blk (t:=t) r (j + 1) (w.setCell ⟨g,j,none⟩ v) (cs.set j v) (g:=g) (by have:=blk_put h j v rfl;simpa using this) (by simp;omega)
    rw [World.setCells,h1]
    congr 2
    apply congrArg
    apply List.ext_getElem?
    intro q
    have e1:j + (r.length + 1) = j + 1 + r.length:=by omega
    simp only [List.length_cons,e1]
    by_cases hq:q < j
    · simp [List.getElem?_append,hq,show q < j + 1 by omega,show min (j + 1) cs.length = j + 1 by omega,show min j cs.length = j by omega,List.getElem?_take,List.getElem?_set,show ¬ j = q by omega,show q < j + 1 + r.length by omega,show q < j + (r.length + 1) by omega]
    · by_cases hq2:q = j
      · subst hq2
        simp [List.getElem?_append,show min (q + 1) cs.length = q + 1 by omega,show min q cs.length = q by omega,List.getElem?_take,List.getElem?_set,show q < cs.length by omega]
      · have:∃ m,q = j + 1 + m:=⟨q - (j + 1),by omega⟩
        obtain ⟨m,rfl⟩:=this
        simp [List.getElem?_append,show min (j + 1) cs.length = j + 1 by omega,show min j cs.length = j by omega,show ¬ j + 1 + m < j by omega,show j + 1 + m - j = m + 1 by omega,show ¬ j + 1 + m < j + 1 by omega,show j + 1 + m - (j + 1) = m by omega]
        by_cases hm:m < r.length
        · simp [show j + 1 + m < j + 1 + r.length by omega,show j + 1 + m < j + (r.length + 1) by omega,hm]
        · simp [show ¬ j + 1 + m < j + 1 + r.length by omega,show ¬ j + 1 + m < j + (r.length + 1) by omega,hm]
          rw [List.getElem?_set_ne (by omega)]
theorem setCells_grown (w:World) (g j:Nat) (vs:List Value):w.grownBy (w.setCells g j vs) (some g):=by
  obtain ⟨s1,s2,s3,s4⟩:=setCells_same g vs j w
  exact ⟨s1,s2,s3,by rw [s4];exact Nat.le_refl _,fun k _ hk=>setCells_far vs _ k (fun he=>hk (by rw [he]))⟩
theorem sb (v:Value) {g tb:Nat} {cs:List Value} {i:Nat} {U:Pc→List Pc} (S:St b0 w0 P D w G) {t:TypeId} {x y:Operand} {j:Nat}
    [hG:HasBox G g tb cs i U] {vs:List Value} [hv:Cells v vs] {cs':List Value} [hp:PutL cs j vs cs'] (hi:(Pg.info? t).map (·.size) = some vs.length) (h:∀ w1,St b0 w0 P D w1 (U (box g tb cs'))→K a w1)
    (ho:o.op = .store t x y:=by with_reducible rfl) (hN:o.dst = none:=by with_reducible rfl) (hx:a.eval x = .pointer (some ⟨g,j,none⟩):=by rfl) (hy:a.eval y = v:=by rfl) (h1:vs.all (·.oneCell') = true:=by rfl):Oper.wp Pg o a w K Q:=by
  obtain ⟨f,hf,hD⟩:=S.all
  have HO:=hf i _ hG.out
  obtain ⟨hl,he⟩:=hp.out
  have e1:=hv.out
  subst e1
  unfold Oper.wp execOp
  have hr:=run_stv (Pg:=Pg) w g j t v (fun q hq=>by
    have:j + q < cs.length:=by simp at hl;omega
    refine ⟨?_,blk_frozen HO.2.2 _⟩
    rw [blk_cell HO.2.2];simp [this]) (by simpa using hi) h1
  simp only [ho,hx,hy,Sem.run_bind,Sem.run_pure,Result.andThen_ok,hr]
  show K (a.put o.dst undef) _
  rw [hN]
  exact h _ (hG.set _ ▸ S.updf f hf hD i hG.out (setCells_grown _ _ _ _) (fun k hk=>by injection hk with hk;subst hk;exact ⟨HO.1,HO.2.1⟩)
    ⟨.inl HO.1,HO.2.1,by rw [← he];exact setCells_blk _ _ _ _ HO.2.2 hl⟩)
def ea (A:Option Addr) (sz:Nat) (i:Int):Nat→Addr
  | 0=>(adr A).add (i.toNat * sz)
  | j + 1=>⟨((adr A).add (i.toNat * sz)).block,((adr A).add (i.toNat * sz)).off + (j + 1),none⟩
def Wr (d:Kd α) (x:α) (j:Nat) (vs:List Value) (x':α):Prop:=∀ W base ok c,d.M W base ok x c→j + vs.length ≤ d.sz∧d.M W base ok x' (c.take j ++ vs ++ c.drop (j + vs.length))
theorem sr (v:Value) (A:Option Addr) {n c:Nat} {at_:At d} {e:Nat} {xs:List α} {i:Nat} {U:Pc→List Pc} (z:α) (q:Int) (j:Nat) (S:St b0 w0 P D w G) {t:TypeId} {x y:Operand}
    [hG:HasRow G A n c at_ e xs i U] {vs:List Value} [hv:Cells v vs] (hi:(Pg.info? t).map (·.size) = some vs.length) {x':α} (hW:Wr d (xs.getD q.toNat z) j vs x')
    (h:∀ ys,ys = xs.set q.toNat x'→∀ w1,St b0 w0 P D w1 (U (row at_ e A n c ys))→K a w1)
    (ho:o.op = .store t x y:=by with_reducible rfl) (hN:o.dst = none:=by with_reducible rfl) (hx:a.eval x = .pointer (some (ea A d.sz q j)):=by rfl) (hy:a.eval y = v:=by rfl) (h1:vs.all (·.oneCell') = true:=by rfl) (h0:0 ≤ q:=by first | assumption | omega) (hq:q < n:=by first | assumption | omega):Oper.wp Pg o a w K Q:=by
  have e1:=hv.out
  subst e1
  obtain ⟨f,hf,hD⟩:=S.all
  have HO:=hf i _ hG.out
  have hn:=(Kd.R_reads' HO).1
  obtain ⟨g,cap,e1,hbg,hgw,cells,hcells⟩:=Kd.R_form HO (by omega)
  injection e1 with e1 _ e2
  subst e1;subst e2
  obtain ⟨el,hel,hM,hc,hfr⟩:=Kd.R_elem HO z q h0 (by exact hq)
  obtain ⟨hjs,hM'⟩:=hW _ _ _ _ hM
  have hea:ea (some ⟨g,0,none⟩) d.sz q j = ⟨g,q.toNat * d.sz + j,none⟩:=by
    cases j with
    | zero=>simp [ea,adr,Addr.add_mid]
    | succ j=>simp [ea,adr,Addr.add_mid]
  rw [hea] at hx
  unfold Oper.wp execOp
  have hr:=run_stv (Pg:=Pg) w g (q.toNat * d.sz + j) t v (fun m hm=>by
    have h2:j + m < el.length:=by simp at hjs;omega
    refine ⟨?_,by rw [Nat.add_assoc];exact hfr _⟩
    rw [Nat.add_assoc,hc (j + m) _ (List.getElem?_eq_getElem h2)];rfl) (by simpa using hi) h1
  simp only [ho,hx,hy,Sem.run_bind,Sem.run_pure,Result.andThen_ok,hr]
  show K (a.put o.dst undef) _
  rw [hN]
  have hs:=Kd.R_seg HO q h0 (by exact hq) hel hc hjs hM' (fun _ hk=>hk)
  refine h _ rfl _ (hG.set _ ▸ S.updf f hf hD i hG.out hs.2 (fun k hk=>?_) (Kd.R_mono hs.1 (fun k hk=>.inl hk)))
  injection hk with hk
  subst hk
  exact ⟨HO.1 _ (by simp [Value.ownBlock]),hbg⟩
end
class AtF {α:Type} {d:Kd α} (at_:At d) (w:World) (A:Option Addr) (xs:List α) (p:outParam Prop):Prop where out:at_.F w A xs→p
class Fx (G:List Pc) (w:World) (p:outParam Prop):Prop where out:Fs G w→p
instance {w:World}:Fx [] w True:=⟨fun _=>trivial⟩
instance {w:World} {G:List Pc} {g t:Nat} {c0:Value} {p:Prop} [h:Fx G w p]:Fx (box g t [c0] :: G) w (w.cell? ⟨g,0,none⟩ = some c0∧p):=⟨fun k=>⟨k.1.1,h.out k.2⟩⟩
instance {w:World} {G:List Pc} {g t:Nat} {c0 c1:Value} {p:Prop} [h:Fx G w p]:Fx (box g t [c0,c1] :: G) w (w.cell? ⟨g,0,none⟩ = some c0∧w.cell? ⟨g,1,none⟩ = some c1∧p):=⟨fun k=>⟨k.1.1,k.1.2.1,h.out k.2⟩⟩
instance {w:World} {G:List Pc} {g t:Nat} {c0 c1 c2:Value} {p:Prop} [h:Fx G w p]:Fx (box g t [c0,c1,c2] :: G) w (w.cell? ⟨g,0,none⟩ = some c0∧w.cell? ⟨g,1,none⟩ = some c1∧w.cell? ⟨g,2,none⟩ = some c2∧p):=⟨fun k=>⟨k.1.1,k.1.2.1,k.1.2.2.1,h.out k.2⟩⟩
instance {w:World} {G:List Pc} {g t:Nat} {c0 c1 c2 c3:Value} {p:Prop} [h:Fx G w p]:Fx (box g t [c0,c1,c2,c3] :: G) w (w.cell? ⟨g,0,none⟩ = some c0∧w.cell? ⟨g,1,none⟩ = some c1∧w.cell? ⟨g,2,none⟩ = some c2∧w.cell? ⟨g,3,none⟩ = some c3∧p):=⟨fun k=>⟨k.1.1,k.1.2.1,k.1.2.2.1,k.1.2.2.2.1,h.out k.2⟩⟩
instance {w:World} {G:List Pc} {g t:Nat} {c0 c1 c2 c3 c4:Value} {p:Prop} [h:Fx G w p]:Fx (box g t [c0,c1,c2,c3,c4] :: G) w (w.cell? ⟨g,0,none⟩ = some c0∧w.cell? ⟨g,1,none⟩ = some c1∧w.cell? ⟨g,2,none⟩ = some c2∧w.cell? ⟨g,3,none⟩ = some c3∧w.cell? ⟨g,4,none⟩ = some c4∧p):=⟨fun k=>⟨k.1.1,k.1.2.1,k.1.2.2.1,k.1.2.2.2.1,k.1.2.2.2.2.1,h.out k.2⟩⟩
instance {w:World} {G:List Pc} {g t:Nat} {c0 c1 c2 c3 c4 c5:Value} {p:Prop} [h:Fx G w p]:Fx (box g t [c0,c1,c2,c3,c4,c5] :: G) w (w.cell? ⟨g,0,none⟩ = some c0∧w.cell? ⟨g,1,none⟩ = some c1∧w.cell? ⟨g,2,none⟩ = some c2∧w.cell? ⟨g,3,none⟩ = some c3∧w.cell? ⟨g,4,none⟩ = some c4∧w.cell? ⟨g,5,none⟩ = some c5∧p):=⟨fun k=>⟨k.1.1,k.1.2.1,k.1.2.2.1,k.1.2.2.2.1,k.1.2.2.2.2.1,k.1.2.2.2.2.2.1,h.out k.2⟩⟩
instance {w:World} {G:List Pc} {α:Type} {d:Kd α} {at_:At d} {e n c:Nat} {A:Option Addr} {xs:List α} {q p:Prop} [hq:AtF at_ w A xs q] [h:Fx G w p]:Fx (row at_ e A n c xs :: G) w (xs.length = n∧Okk A n∧n ≤ c∧q∧d.C w A xs.length xs∧p):=⟨fun k=>⟨k.1.1,k.1.2.1,k.1.2.2.1,hq.out k.1.2.2.2.1,k.1.2.2.2.2,h.out k.2⟩⟩
class Fy (D:List (World→Prop)) (w:World) (p:outParam Prop):Prop where out:Fb D w→p
instance {w:World}:Fy [] w True:=⟨fun _=>trivial⟩
instance {w:World} {D:List (World→Prop)} {α:Type} {d:Kd α} {at_:At d} {c:Nat} {A:Option Addr} {xs:List α} {q p:Prop} [hq:AtF at_ w A xs q] [h:Fy D w p]:Fy (bor at_ A c xs :: D) w (Okk A xs.length∧xs.length ≤ c∧q∧d.C w A xs.length xs∧p):=⟨fun k=>⟨k.1.1,k.1.2.1,hq.out k.1.2.2.1,k.1.2.2.2,h.out k.2⟩⟩
theorem St.fc {b0 w0 w:World} {P:Nat→Prop} {D:List (World→Prop)} {G:List Pc} {p q:Prop} (S:St b0 w0 P D w G) [h1:Fy D w p] [h2:Fx G w q]:p∧q:=⟨h1.out S.facts.1,h2.out S.facts.2⟩
def atI (k:IntKind):At (Kd.int k) where
  F w A xs:=∀ i:Int,0 ≤ i→i < xs.length→w.cell? ((adr A).add i.toNat) = some (.int k (rd xs i))
  h hC i h0 h1:=by
    obtain ⟨ad,e,h⟩:=Kd.at_int hC i h0 h1
    rw [e];exact h
theorem Wr_int (k:IntKind) (x y:Int):Wr (Kd.int k) x 0 [.int k y] y:=by
  intro W base ok c h
  obtain rfl:c = [.int k x]:=h
  exact ⟨Nat.le_of_ble_eq_true rfl,rfl⟩
theorem ceq {x y:Int} (h:x = y):(x == y) = true∧(x != y) = false:=by subst h;simp
section
variable {Pg:Program} {ops:Array Oper} {Q:Exit→Act→World→Prop} {a:Act} {b0 w0 w:World} {P:Nat→Prop} {D:List (World→Prop)} {G:List Pc}
theorem rgS (S:St b0 w0 P D w G) {id:Nat} (ord:List (Nat × Nat)) (ds:List Nat) (hm:Pg.follows .mixedOrders = true) (hc:(chkO (rtab .any ops) ds (List.replicate ops.size false) ord && ord.length == ops.size) = true) (hQ:∀ c d v a w,Q (.panic c) (a.put d v) w→Q (.panic c) a w)
    (h:∀ W,St b0 w0 P D W G→wpO Pg ops Q (fun W=>St b0 w0 P D W G) ord a W):(Code.region id ops true).wp Pg Q a w :=
  rg ord ds (fun W=>St b0 w0 P D W G) hm hc hQ S.drew (fun S=>h _ S)
end
instance {k:IntKind} {w:World} {A:Option Addr} {xs:List Int}:AtF (atI k) w A xs (∀ i:Int,0 ≤ i→i < xs.length→w.cell? ((adr A).add i.toNat) = some (.int k (rd xs i))):=⟨id⟩
theorem cne {x y:Int} (h:¬ x = y):(x == y) = false∧(x != y) = true∧¬ x = y:=by simp [h]
theorem cbf {b:Bool} (h:¬ b = true):b = false:=by simpa using h
section
variable {Pg:Program} {ops:Array Oper} {rest:List Oper} {o:Oper} {a:Act} {Q:Exit→Act→World→Prop} {K:Act→World→Prop} {b0 w0 w:World} {P:Nat→Prop} {D:List (World→Prop)} {G:List Pc} {α:Type} {d:Kd α}
theorem run_nv (w:World) (t:TypeId) (v:Value):(newVar t v).run Pg w = .ok ⟨w.heap.size,0,none⟩ (w.alloc (.cells v.cells t (0,0))):=by
  simp [newVar,newRow,go_sem]
theorem al (N:Tmp) (S:St b0 w0 P D w G) {t:TypeId} {z:Value} {m b:Nat} (hz:(Pg.info? t).map (fun i=>(i.zero,i.size,i.bytes)) = some (some z,m,b)) {cs:List Value} [hc:Cells z cs]
    (h:∀ g w1,St b0 w0 P D w1 (box g t cs :: G)→K (a.put (some N) (.pointer (some ⟨g,0,none⟩))) w1) (hd:o.dst = some N:=by with_reducible rfl) (ho:o.op = .alloc t:=by with_reducible rfl):Oper.wp Pg o a w K Q:=by
  have hr:(execOp a.eval o).run Pg w = .ok (.value (.pointer (some ⟨w.heap.size,0,none⟩))) (w.alloc (.cells cs.toArray t (0,0))):=by
    obtain ⟨i,hi,e⟩:=Option.map_eq_some_iff.1 hz
    simp only [Prod.mk.injEq] at e
    obtain ⟨e1,_,_⟩:=e
    have hzv:(zeroValue t).run Pg w = .ok z w:=by simp [zeroValue,typeInfo,hi,e1]
    have:=hc.out
    unfold execOp
    simp only [ho,Sem.run_bind,Sem.run_pure,hzv,Result.andThen_ok,run_nv]
    simp [Instr.alloc,hzv,run_nv,← this]
  refine ax S ho hr ?_
  rw [hd];exact h
theorem bo (N:Tmp) (v:Value) (S:St b0 w0 P D w G) {t:TypeId} {x:Operand} {cs:List Value} [hc:Cells v cs]
    (h:∀ g w1,St b0 w0 P D w1 (box g t cs :: G)→K (a.put (some N) (.pointer (some ⟨g,0,none⟩))) w1) (hd:o.dst = some N:=by with_reducible rfl) (ho:o.op = .box t x:=by with_reducible rfl) (hv:a.eval x = v:=by rfl):Oper.wp Pg o a w K Q:=by
  have hr:(execOp a.eval o).run Pg w = .ok (.value (.pointer (some ⟨w.heap.size,0,none⟩))) (w.alloc (.cells cs.toArray t (0,0))):=by
    have:=hc.out
    subst hv
    unfold execOp
    simp only [ho]
    simp [Instr.box,run_nv,← this]
  refine bx S ho hr ?_
  rw [hd];exact h
end
section
variable {Pg:Program} {ops:Array Oper} {rest:List Oper} {o:Oper} {a:Act} {Q:Exit→Act→World→Prop} {K:Act→World→Prop} {b0 w0 w w1:World} {P:Nat→Prop} {D:List (World→Prop)} {G:List Pc} {α:Type} {d:Kd α} {S:World→Prop} {r:List (Nat × Nat)} {i:Nat} {oi:Oper}
theorem gd {rest:List Oper} (N:Tmp) (_h:o.dst = some N) (h:wpList Pg ops Q (o :: rest) a w):wpList Pg ops Q (o :: rest) a w:=h
theorem gs {rest:List Oper} {t:TypeId} {x y:Operand} (_h:o.op = .store t x y) (h:wpList Pg ops Q (o :: rest) a w):wpList Pg ops Q (o :: rest) a w:=h
theorem zga {rest:List Oper} {t:TypeId} (_h:o.op = .alloc t) (h:wpList Pg ops Q (o :: rest) a w):wpList Pg ops Q (o :: rest) a w:=h
theorem zgO {r:List (Nat × Nat)} (h:wpO Pg ops Q S r a w):wpO Pg ops Q S r a w:=h
theorem zgR {id:Nat} (h:(Code.region id ops true).wp Pg Q a w):(Code.region id ops true).wp Pg Q a w:=h
theorem L (h:Oper.wp Pg o a w (wpList Pg ops Q rest) Q) (hg:o.guard = none:=by rfl):wpList Pg ops Q (o :: rest) a w:=wpList_plain hg fun K hK=>Oper.wp_mono hK h
theorem lk2 {tl:List Oper} (hi:ops.toList.drop i = oi :: tl) (hb:Region.wanted oi (yielded ops a.tmps) = true) (h:Oper.wp Pg oi a w (fun a w=>S w∧wpO Pg ops Q S r a w) Q):wpO Pg ops Q S ((2,i) :: r) a w:=o2 hi hb fun K hK=>Oper.wp_mono (fun a w h=>hK a w h.1 h.2) h
theorem lk3 {tl:List Oper} (hi:ops.toList.drop i = oi :: tl) (hb:Region.wanted oi (yielded ops a.tmps) = true) (h:Oper.wp Pg oi a w (wpO Pg ops Q S r) Q):wpO Pg ops Q S ((3,i) :: r) a w:=o3 hi hb fun K hK=>Oper.wp_mono hK h
theorem l2r {tl:List Oper} {v:Value} {a':Act} (hS:S w) (hi:ops.toList.drop i = oi :: tl) (hb:Region.wanted oi (yielded ops a.tmps) = true) (hv:(execOp a.eval oi).run Pg w = .ok (.value v) w) (ha:a.put oi.dst v = a') (h:wpO Pg ops Q S r a' w):wpO Pg ops Q S ((2,i) :: r) a w:=lk2 hi hb (by
  unfold Oper.wp
  rw [hv]
  subst ha
  exact ⟨hS,h⟩)
theorem cl {f:FuncId} {fn:Func} {as:Array Operand} {ts:Array TypeId} (N:Option Tmp) (hf:Pg.funcs[f]? = some fn) {args:Array Value} {R:Ending→World→Prop} (hC:Calls Pg f args w R)
    (hd:o.dst = N:=by with_reducible rfl) (hop:o.op = .call { callee:=.value (.func f),args:=as,argTypes:=ts }:=by with_reducible rfl) (hargs:as.map a.eval = args)
    (h : ∀ e w', R e w' → ∃ v, e = .returned v ∧ K (a.put N v) w') (hname : (fn.name == "runtime.NumGoroutine") = false := by kernel_rfl) (hb : fn.body.isSome = true := by rfl) : Oper.wp Pg o a w K Q := by
  have he:=enters_ hf hname hb args w
  have hrun:(execOp a.eval o).run Pg w = .ok (.enter f args) w:=by
    unfold execOp
    simp [hop,resolve,Deferred.ofValue,invoke,Act.eval,hargs,he]
  unfold Oper.wp
  rw [hrun,Oper.upon_enter]
  refine hC.mono fun e w'' hh=>?_
  obtain ⟨v,rfl,hk⟩:=h e w'' hh
  subst hd
  exact hk
class RdG (G:List Pc) {α:Type} (d:outParam (Kd α)) (xs:List α) (A:outParam (Option Addr)) (c:outParam Nat):Prop where out:∀ w,Fs G w→d.C w A xs.length xs∧xs.length ≤ c
instance {G:List Pc} {α:Type} {d:Kd α} {at_:At d} {e n c:Nat} {A:Option Addr} {xs:List α}:RdG (row at_ e A n c xs :: G) d xs A c:=⟨fun w h=>⟨h.1.2.2.2.2,by have:=h.1.1;have:=h.1.2.2.1;omega⟩⟩
instance {G:List Pc} {p:Pc} {α:Type} {d:Kd α} {c:Nat} {A:Option Addr} {xs:List α} [k:RdG G d xs A c]:RdG (p :: G) d xs A c:=⟨fun w h=>k.out w h.2⟩
class Rd (D:List (World→Prop)) (G:List Pc) {α:Type} (d:outParam (Kd α)) (xs:List α) (A:outParam (Option Addr)) (c:outParam Nat):Prop where out:∀ w,Fb D w→Fs G w→d.C w A xs.length xs∧xs.length ≤ c
instance {G:List Pc} {α:Type} {d:Kd α} {c:Nat} {A:Option Addr} {xs:List α} [k:RdG G d xs A c]:Rd [] G d xs A c:=⟨fun w _ h=>k.out w h⟩
instance (priority:=low) {D:List (World→Prop)} {G:List Pc} {q:World→Prop} {α:Type} {d:Kd α} {c:Nat} {A:Option Addr} {xs:List α} [k:Rd D G d xs A c]:Rd (q :: D) G d xs A c:=⟨fun w h g=>k.out w h.2 g⟩
instance {D:List (World→Prop)} {G:List Pc} {α:Type} {d:Kd α} {c m:Nat} {A:Option Addr} {xs:List α} [k:Rd D G d xs A c]:Rd D G d (xs.take m) A c:=⟨fun w h g=>by
  have e:=k.out w h g
  by_cases hm:m ≤ xs.length
  · exact ⟨Kd.C_take e.1 hm,by rw [List.length_take];omega⟩
  · rw [List.take_of_length_le (by omega)];exact e⟩
instance {D:List (World→Prop)} {G:List Pc} {α:Type} {d:Kd α} {at_:At d} {c:Nat} {A:Option Addr} {xs:List α}:Rd (bor at_ A c xs :: D) G d xs A c:=⟨fun w h _=>⟨h.1.2.2.2,h.1.2.1⟩⟩
theorem St.c (S:St b0 w0 P D w G) {xs:List α} {A:Option Addr} {c:Nat} [k:Rd D G d xs A c]:d.C w A xs.length xs:=(k.out w S.facts.1 S.facts.2).1
theorem St.n (S:St b0 w0 P D w G) {xs:List α} {A:Option Addr} {c:Nat} [k:Rd D G d xs A c]:xs.length ≤ c:=(k.out w S.facts.1 S.facts.2).2
theorem St.got (S:St b0 w0 P D w G) (at_:At d) {e:Nat} {ok:Nat→Prop} {v:Value} {xs:List α} (hb:Below w.heap.size w w1) (ho:d.R e w1 w.heap.size ok v xs):∃ A c,v = .slice A xs.length c∧St b0 w0 P D w1 (row at_ e A xs.length c xs :: G):=by
  obtain ⟨A,c,rfl⟩:=Kd.R_slice ho
  refine ⟨A,c,rfl,S.new (gn hb) (fun ok hk=>?_)⟩
  exact Kd.R_mono (Kd.R_lower (Kd.R_bound ho) S.below.size) (fun k h=>hk k h.2.1)
open Classical in
class RdK (G:List Pc) (i:Nat) {α:Type} (d:outParam (Kd α)) (xs:List α) (A:outParam (Option Addr)) (c:outParam Nat):Prop where out:∀ w,(∀ j p,G[j]? = some p→j ≠ i→p.F w)→d.C w A xs.length xs∧xs.length ≤ c
instance {G:List Pc} {i:Nat} {α:Type} {d:Kd α} {at_:At d} {e n c:Nat} {A:Option Addr} {xs:List α}:RdK (row at_ e A n c xs :: G) (i + 1) d xs A c:=⟨fun w h=>by
  have h:=h 0 _ rfl (by omega)
  exact ⟨h.2.2.2.2,by have:=h.1;have:=h.2.2.1;omega⟩⟩
instance {G:List Pc} {i:Nat} {p:Pc} {α:Type} {d:Kd α} {c:Nat} {A:Option Addr} {xs:List α} [k:RdK G i d xs A c]:RdK (p :: G) (i + 1) d xs A c:=⟨fun w h=>k.out w (fun j q hj hn=>h (j + 1) q hj (by omega))⟩
instance {G:List Pc} {p:Pc} {α:Type} {d:Kd α} {c:Nat} {A:Option Addr} {xs:List α} [k:RdG G d xs A c]:RdK (p :: G) 0 d xs A c:=⟨fun w h=>k.out w (fs_of fun q hq=>by
  obtain ⟨j,hj⟩:=List.mem_iff_getElem?.1 hq
  exact h (j + 1) q hj (by omega))⟩
class RdL (D:List (World→Prop)) (G:List Pc) (i:Nat) {α:Type} (d:outParam (Kd α)) (xs:List α) (A:outParam (Option Addr)) (c:outParam Nat):Prop where out:∀ w,Fb D w→(∀ j p,G[j]? = some p→j ≠ i→p.F w)→d.C w A xs.length xs∧xs.length ≤ c
instance {G:List Pc} {i:Nat} {α:Type} {d:Kd α} {c:Nat} {A:Option Addr} {xs:List α} [k:RdK G i d xs A c]:RdL [] G i d xs A c:=⟨fun w _ h=>k.out w h⟩
instance (priority:=low) {D:List (World→Prop)} {G:List Pc} {i:Nat} {q:World→Prop} {α:Type} {d:Kd α} {c:Nat} {A:Option Addr} {xs:List α} [k:RdL D G i d xs A c]:RdL (q :: D) G i d xs A c:=⟨fun w h g=>k.out w h.2 g⟩
instance {D:List (World→Prop)} {G:List Pc} {i:Nat} {α:Type} {d:Kd α} {at_:At d} {c:Nat} {A:Option Addr} {xs:List α}:RdL (bor at_ A c xs :: D) G i d xs A c:=⟨fun w h _=>⟨h.1.2.2.2,h.1.2.1⟩⟩
structure Lent (b0 w0:World) (P:Nat→Prop) (D:List (World→Prop)) (w:World) (G:List Pc) (i:Nat) {α:Type} {d:Kd α} (at_:At d) (e:Nat) (A:Option Addr) (n c:Nat) (xs:List α) (U:Pc→List Pc) (ok:Nat→Prop):Prop where
  below:Below b0.heap.size b0 w
  own:d.R e w b0.heap.size ok (.slice A n c) xs
  fd:∀ W,Kept w W ok→Fb D W
  fg:∀ W,Kept w W ok→∀ (j:Nat) (p:Pc),G[j]? = some p→j ≠ i→p.F W
  back:∀ w1 ys,d.R e w1 b0.heap.size (fun k=>ok k∨w.heap.size ≤ k) (.slice A n c) ys→Below b0.heap.size b0 w1→Kept w w1 ok→St b0 w0 P D w1 (U (Sl.row at_ e A n c ys))
  /-- beside a row of another element type -/
  back1:∀ {β:Type} {d':Kd β} (at':At d') {e':Nat} {v:Value} {zs:List β} {w1:World} {ys:List α},d'.R e' w1 b0.heap.size (fun k=>ok k∨w.heap.size ≤ k) v zs→d.R e w1 b0.heap.size (fun k=>ok k∨w.heap.size ≤ k) (.slice A n c) ys→Below b0.heap.size b0 w1→Kept w w1 ok →
    (∀ q,q ∈ e :: d.E→∀ q',q' ∈ e' :: d'.E→q ≠ q')→∃ A' c',v = .slice A' zs.length c'∧St b0 w0 P D w1 (Sl.row at' e' A' zs.length c' zs :: U (Sl.row at_ e A n c ys))
theorem Lent.c {β:Type} {d':Kd β} {i:Nat} {at_:At d} {e n c:Nat} {A:Option Addr} {xs:List α} {U:Pc→List Pc} {ok:Nat→Prop} (k:Lent b0 w0 P D w G i at_ e A n c xs U ok) {ys:List β} {A':Option Addr} {c':Nat} [h:RdL D G i d' ys A' c']:∀ W,Kept w W ok→d'.C W A' ys.length ys:=fun W hW=>(h.out W (k.fd W hW) (k.fg W hW)).1
theorem Lent.n {β:Type} {d':Kd β} {i:Nat} {at_:At d} {e n c:Nat} {A:Option Addr} {xs:List α} {U:Pc→List Pc} {ok:Nat→Prop} (k:Lent b0 w0 P D w G i at_ e A n c xs U ok) {ys:List β} {A':Option Addr} {c':Nat} [h:RdL D G i d' ys A' c']:ys.length ≤ c':=(h.out w (k.fd w (Kept.refl _ _)) (k.fg w (Kept.refl _ _))).2
theorem St.lendv (S:St b0 w0 P D w G) {A:Option Addr} {n c:Nat} {at_:At d} {e:Nat} {xs:List α} {i:Nat} {U:Pc→List Pc} [hG:HasRow G A n c at_ e xs i U]:∃ ok:Nat→Prop,Below b0.heap.size b0 w∧d.R e w b0.heap.size ok (.slice A n c) xs∧∀ (w1:World) (v:Value) (ys:List α),d.R e w1 b0.heap.size (fun k=>ok k∨w.heap.size ≤ k) v ys→Below b0.heap.size b0 w1→Kept w w1 ok→∃ A' c',v = .slice A' ys.length c'∧St b0 w0 P D w1 (U (Sl.row at_ e A' ys.length c' ys)):=by
  obtain ⟨f,hf,hD⟩:=S.all
  have hle:w0.heap.size ≤ w.heap.size:=S.kept.1
  have HO:=hf i _ hG.out
  have hilt:i < G.length:=(List.getElem?_eq_some_iff.1 hG.out).1
  have hzn:∀ k,Zn w0 P f G.length k→¬ ((f k = i∧(P k∨w0.heap.size ≤ k))∧b0.heap.size ≤ k):=fun k hz h=>by
    rcases hz with hz | hz
    · exact h.1.2.elim hz.2 (fun h=>by omega)
    · have:=h.1.1;omega
  refine ⟨fun k=>(f k = i∧(P k∨w0.heap.size ≤ k))∧b0.heap.size ≤ k,S.below,Kd.R_mono (Kd.R_bound HO) (fun k hk=>⟨hk.1,hk.2.1⟩),fun w1 v ys ho hb hkp=>?_⟩
  obtain ⟨A',c',rfl⟩:=Kd.R_slice ho
  refine ⟨A',c',rfl,?_⟩
  refine hG.set _ ▸ ⟨hb,S.kept.then_ hkp (fun k hk=>hk.1.2),fun k=>if w.heap.size ≤ k then i else f k,?_,fun q hq=>(hD q hq).step hkp.1 (fun k hz hlt=>hkp.2 k hlt (hzn k hz)) (fun k hz hlt=>hz.imp id (fun h=>⟨h.1,?_⟩))⟩
  rotate_left
  · show _ ≤ (if w.heap.size ≤ k then i else f k)
    rw [if_neg (by omega),List.length_set]
    exact h.2
  intro j q hj
  by_cases hji:j = i
  · subst hji
    rw [List.getElem?_set_self hilt] at hj
    injection hj with hj
    subst hj
    refine Kd.R_mono ho (fun k hk=>?_)
    show (if w.heap.size ≤ k then j else f k) = j∧_
    by_cases hk2:w.heap.size ≤ k
    · rw [if_pos hk2];exact ⟨rfl,.inr (by omega)⟩
    · rw [if_neg hk2];exact hk.elim (fun h=>h.1) (fun h=>absurd h hk2)
  · rw [List.getElem?_set_ne (Ne.symm hji)] at hj
    refine q.mono (fun k hk=>?_) (q.step (q.bound (hf j q hj)) (fun k hq hlt=>hkp.2 k hq.2.2 (fun h=>hji (hq.1.1.symm.trans h.1.1))))
    show (if w.heap.size ≤ k then i else f k) = j∧_
    rw [if_neg (by omega)];exact hk.1
open Classical in
end
class Dz {α:Type} (d:Kd α) (z:outParam α):Prop where out:True
class MkM {α:Type} (d:Kd α) (cs:List Value) (p:outParam α):Prop where out:∀ W base,d.M W base (fun _=>False) p cs
class WrC {α:Type} (d:Kd α) (x:α) (j:Nat) (vs:List Value) (x':outParam α):Prop where out:Wr d x j vs x'
class Ea (p:Addr) (A:outParam (Option Addr)) (q:outParam Int) (m:outParam Nat) (j:outParam Nat):Prop where out:p = ea A m q j
instance {A:Option Addr} {q:Int}:Ea ((adr A).add q.toNat) A q 1 0:=⟨by simp [ea]⟩
instance {A:Option Addr}:Ea (adr A) A 0 1 0:=⟨by simp [ea,Addr.add]⟩
instance {A:Option Addr} {q:Int} {m:Nat}:Ea ((adr A).add (q.toNat * m)) A q m 0:=⟨rfl⟩
instance {A:Option Addr} {q:Int} {m j:Nat}:Ea ⟨((adr A).add (q.toNat * m)).block,((adr A).add (q.toNat * m)).off + (j + 1),none⟩ A q m (j + 1):=⟨rfl⟩
instance (priority:=high) {A:Option Addr} {q:Int} {m:Nat}:Ea ⟨((adr A).add (q.toNat * m)).block,((adr A).add (q.toNat * m)).off + 1,none⟩ A q m 1:=⟨rfl⟩
instance (priority:=high) {A:Option Addr} {q:Int} {m:Nat}:Ea ⟨((adr A).add (q.toNat * m)).block,((adr A).add (q.toNat * m)).off + 2,none⟩ A q m 2:=⟨rfl⟩
instance (priority:=high) {A:Option Addr} {q:Int} {m:Nat}:Ea ⟨((adr A).add (q.toNat * m)).block,((adr A).add (q.toNat * m)).off + 3,none⟩ A q m 3:=⟨rfl⟩
instance (priority:=high) {A:Option Addr} {q:Int} {m:Nat}:Ea ⟨((adr A).add (q.toNat * m)).block,((adr A).add (q.toNat * m)).off + 4,none⟩ A q m 4:=⟨rfl⟩
instance (priority:=low) {A:Option Addr} {n:Nat}:Ea ((adr A).add n) A (n:Int) 1 0:=⟨by simp [ea]⟩
class Zr {α:Type} (d:Kd α) (cs:List Value) (z:outParam α):Prop where out:∀ W base,d.M W base (fun _=>False) z cs
instance {k:IntKind}:Zr (Kd.int k) [.int k 0] 0:=⟨fun _ _=>rfl⟩
instance:Zr Kd.bool [.bool false] false:=⟨fun _ _=>rfl⟩
instance {k:IntKind}:Dz (Kd.int k) 0:=⟨trivial⟩
instance {k:IntKind} {x:Int}:MkM (Kd.int k) [.int k x] x:=⟨fun _ _=>rfl⟩
instance {k:IntKind} {x y:Int}:WrC (Kd.int k) x 0 [.int k y] y:=⟨Wr_int k x y⟩
instance:Dz Kd.bool false:=⟨trivial⟩
instance {x:Bool}:MkM Kd.bool [.bool x] x:=⟨fun _ _=>rfl⟩
instance {x y:Bool}:WrC Kd.bool x 0 [.bool y] y:=⟨fun W base ok c h=>by obtain rfl:c = [.bool x]:=h;exact ⟨Nat.le_of_ble_eq_true rfl,rfl⟩⟩
def atB:At Kd.bool where
  F w A xs:=∀ i:Int,0 ≤ i→i < xs.length→w.cell? ((adr A).add i.toNat) = some (.bool (rdOf false xs i))
  h hC i h0 h1:=by
    obtain ⟨ad,e,h⟩:=Kd.at_bool hC i h0 h1
    rw [e];exact h
instance {w:World} {A:Option Addr} {xs:List Bool}:AtF atB w A xs (∀ i:Int,0 ≤ i→i < xs.length→w.cell? ((adr A).add i.toNat) = some (.bool (rdOf false xs i))):=⟨id⟩
section
variable {Pg:Program} {o:Oper} {a:Act} {Q:Exit→Act→World→Prop} {K:Act→World→Prop} {b0 w0 w w1:World} {P:Nat→Prop} {D:List (World→Prop)} {G:List Pc} {α:Type} {d:Kd α}
theorem ro (v:Value) (S:St b0 w0 P D w G) {t:TypeId} {x y:Operand} {p:Addr} {A:Option Addr} {n c:Nat} {at_:At d} {e:Nat} {xs:List α} {i:Nat} {U:Pc→List Pc} {q:Int} {m j:Nat} {z x':α} {vs:List Value}
    [hE:Ea p A q m j] [hG:HasRow G A n c at_ e xs i U] [hv:Cells v vs] [hz:Dz d z] [hW:WrC d (xs.getD q.toNat z) j vs x'] (hi:(Pg.info? t).map (·.size) = some vs.length)
    (h:∀ w1,St b0 w0 P D w1 (U (row at_ e A n c (xs.set q.toNat x')))→K a w1)
    (ho:o.op = .store t x y:=by with_reducible rfl) (hN:o.dst = none:=by with_reducible rfl) (hx:a.eval x = .pointer (some p):=by rfl) (hy:a.eval y = v:=by rfl) (hm:m = d.sz:=by rfl) (h1:vs.all (·.oneCell') = true:=by rfl) (h0:0 ≤ q:=by first | assumption | omega) (hq:q < n:=by first | assumption | omega):Oper.wp Pg o a w K Q :=
  sr v A z q j S hi hW.out (fun ys hys w1 S=>h w1 (hys ▸ S)) ho hN (by rw [hx,hE.out,hm]) hy h1 h0 hq
theorem mka (N:Tmp) (at_:At d) (S:St b0 w0 P D w G) {t e:TypeId} (ht:Pg.underlying t = some (.slice e)) {z:Value} {bytes:Nat} (hinfo:(Pg.info? e).map (fun i=>(i.zero,i.size,i.bytes)) = some (some z,d.sz,bytes)) {x y:Operand} {n:Int} {cs:List Value} {z0:α} [hc:Cells z cs] [hz0:Zr d cs z0]
    (h:∀ A c w1,St b0 w0 P D w1 (row at_ e A (List.replicate n.toNat z0).length c (List.replicate n.toNat z0) :: G)→K (a.put (some N) (.slice A (List.replicate n.toNat z0).length c)) w1)
    (hgd:o.guard = none:=by with_reducible rfl) (hd:o.dst = some N:=by with_reducible rfl) (ho:o.op = .makeSlice t x y:=by with_reducible rfl) (hx:a.eval x = .int .i64 n:=by rfl) (hy:a.eval y = .int .i64 n:=by rfl)
    (hz:z.cells.size = d.sz:=by rfl) (hs0:0 < d.sz:=by exact Nat.le_of_ble_eq_true rfl) (hb0:0 < bytes:=by decide) (h0:0 ≤ n:=by first | assumption | omega) (hl:n.toNat * bytes ≤ 281474976710656:=by omega):Oper.wp Pg o a w K Q :=
  mk at_ e S hgd hd ho hx hy ht hinfo hz hs0 hb0 z0 (fun W base=>by rw [hc.out];exact hz0.out W base) h0 hl (fun xs hxs A c w1 S=>by subst hxs;rw [hd];exact h A c w1 S)
theorem lia (N:Tmp) (at_:At d) (e:Nat) (S:St b0 w0 P D w G) (xs:List α) {inner:List Value} (hrep:∀ W base,Reps (d.M W base (fun _=>False)) d.sz xs inner)
    (hr:(execOp a.eval o).run Pg w = .ok (.value (.slice (some ⟨w.heap.size,0,none⟩) xs.length xs.length)) (w.alloc (.cells inner.toArray e)))
    (h:∀ A c w1,St b0 w0 P D w1 (row at_ e A xs.length c xs :: G)→K (a.put (some N) (.slice A xs.length c)) w1)
    {t:TypeId} {n:Nat} {ps:Array (Nat × Operand)} (hgd:o.guard = none:=by with_reducible rfl) (hd:o.dst = some N:=by with_reducible rfl) (ho:o.op = .buildSlice t n ps:=by with_reducible rfl) (hm:xs.length ≤ 9223372036854775807:=by simp):Oper.wp Pg o a w K Q :=
  lit at_ e S hgd hd ho xs hrep hm hr (fun ys hys A c w1 S=>by subst hys;rw [hd];exact h A c w1 S)
theorem apa (N:Tmp) (S:St b0 w0 P D w G) {t e:TypeId} (ht:Pg.underlying t = some (.slice e)) {z:Value} {bytes:Nat} {A:Option Addr} {n c:Nat} {at_:At d} {xs:List α} {i:Nat} {U:Pc→List Pc} {cs:List Value} {p:α} {s x:Operand}
    (hinfo:(Pg.info? e).map (fun i=>(i.zero,i.size,i.bytes)) = some (some z,d.sz,bytes)) [hG:HasRow G A n c at_ e xs i U] [hp:MkM d cs p]
    (h:∀ A' c' w1,St b0 w0 P D w1 (U (row at_ e A' (xs ++ [p]).length c' (xs ++ [p])))→K (a.put (some N) (.slice A' (xs ++ [p]).length c')) w1)
    (hgd:o.guard = none:=by with_reducible rfl) (hd:o.dst = some N:=by with_reducible rfl) (ho:o.op = .call { callee:=.builtin .append,args:=#[s,x],argTypes:=#[t,t] }:=by with_reducible rfl)
    (hs:a.eval s = .slice A n c:=by rfl) (hx:a.eval x = .slice (some ⟨w.heap.size,0,none⟩) 1 1:=by rfl) (hz:z.cells.size = d.sz:=by rfl) (hs0:0 < d.sz:=by exact Nat.le_of_ble_eq_true rfl) (hb0:0 < bytes:=by decide) (hl:(xs.length + 1) * bytes ≤ 140737488355328:=by omega):Oper.wp Pg o a (w.alloc (.cells cs.toArray e)) K Q :=
  ap1 S hgd ho hs hx ht hinfo hz hs0 hb0 p hp.out hl (fun ys hys A' c' w1 S=>by subst hys;rw [hd];exact h A' c' w1 S)
theorem St.hb {g t:Nat} {cs:List Value} {i:Nat} {U:Pc→List Pc} (S:St b0 w0 P D w G) [hG:HasBox G g t cs i U]:w.heap[g]? = some (.cells cs.toArray t (0,0)):=by
  obtain ⟨f,hf⟩:=S.own
  exact (hf i _ hG.out).2.2
theorem St.r {A:Option Addr} {n c:Nat} {at_:At d} {e:Nat} {xs:List α} {i:Nat} {U:Pc→List Pc} (S:St b0 w0 P D w G) [hG:HasRow G A n c at_ e xs i U]:d.R e w b0.heap.size (fun _=>True) (.slice A n c) xs:=by
  obtain ⟨f,hf⟩:=S.own
  exact Kd.R_mono (hf i _ hG.out) (fun _ _=>trivial)
theorem St.rp {A:Option Addr} {n c:Nat} {at_:At d} {e:Nat} {xs:List α} {i:Nat} {U:Pc→List Pc} (S:St b0 w0 P D w G) [hG:HasRow G A n c at_ e xs i U]:d.R e w b0.heap.size (fun k=>P k∨w0.heap.size ≤ k) (.slice A n c) xs:=S.rk i hG.out
end
theorem sp_ {α:Type} {c:Prop} [Decidable c] {a b:Option α} {r:α} (H:(if c then a else b) = some r):(c∧a = some r)∨(¬ c∧b = some r):=by
  by_cases h:c
  · rw [if_pos h] at H;exact .inl ⟨h,H⟩
  · rw [if_neg h] at H;exact .inr ⟨h,H⟩
theorem St.gw {b0 w0 w w1:World} {P:Nat→Prop} {D:List (World→Prop)} {G:List Pc} (S:St b0 w0 P D w G) (h:Drawn0 w w1):St b0 w0 P D w1 G:=by
  obtain ⟨n,rfl⟩:=h.out
  exact S.go (pw_below_drewN (Below.refl _ _) n)
section
variable {Pg:Program} {o:Oper} {a:Act} {Q:Exit→Act→World→Prop} {K:Act→World→Prop} {b0 w0 w w1:World} {P:Nat→Prop} {D:List (World→Prop)} {G:List Pc} {α:Type} {d:Kd α}
theorem St.tl {p:Pc} (S:St b0 w0 P D w (p :: G)):St b0 w0 P D w G:=by
  obtain ⟨f,hf,hD⟩:=S.all
  refine ⟨S.below,S.kept,fun k=>f k - 1,fun j q hj=>q.mono (fun k hk=>⟨?_,hk.2⟩) (hf (j + 1) q hj),fun q hq=>(hD q hq).step (Nat.le_refl _) (fun _ _ _=>rfl) (fun k hz hlt=>hz.imp id (fun h=>⟨h.1,?_⟩))⟩
  · have:=hk.1
    show f k - 1 = j
    omega
  · show _ ≤ f k - 1
    rw [List.length_cons] at h
    omega
theorem St.rm (S:St b0 w0 P D w G) (i:Nat):St b0 w0 P D w (G.eraseIdx i):=by
  obtain ⟨f,hf,hD⟩:=S.all
  refine ⟨S.below,S.kept,fun k=>if i < f k then f k - 1 else if f k < i then f k else G.length + 1,fun j q hj=>?_,fun q hq=>(hD q hq).step (Nat.le_refl _) (fun _ _ _=>rfl) (fun k hz hlt=>hz.imp id (fun h=>⟨h.1,?_⟩))⟩
  rotate_left
  · show _ ≤ (if i < f k then f k - 1 else if f k < i then f k else G.length + 1)
    rw [List.length_eraseIdx]
    split <;> split <;> (try split) <;> omega
  have hj':=hj
  rw [List.getElem?_eraseIdx] at hj
  have hlt:j < (G.eraseIdx i).length:=(List.getElem?_eq_some_iff.1 hj').1
  by_cases hji:j < i
  · rw [if_pos hji] at hj
    refine q.mono (fun k hk=>⟨?_,hk.2⟩) (hf j q hj)
    have:=hk.1
    show (if i < f k then f k - 1 else if f k < i then f k else G.length + 1) = j
    rw [if_neg (by omega),if_pos (by omega)]
    omega
  · rw [if_neg hji] at hj
    refine q.mono (fun k hk=>⟨?_,hk.2⟩) (hf (j + 1) q hj)
    have:=hk.1
    show (if i < f k then f k - 1 else if f k < i then f k else G.length + 1) = j
    rw [if_pos (by omega)]
    omega
class KM {α:Type} (d:Kd α):Prop where out:∀ (w:World) (x:α) (cs:List Value),d.K w x cs→∀ W base,d.M W base (fun _=>False) x cs
instance {k:IntKind}:KM (Kd.int k):=⟨fun w x cs h W base=>h⟩
instance:KM Kd.bool:=⟨fun w x cs h W base=>h⟩
theorem apr (N:Tmp) (S:St b0 w0 P D w G) {t e:TypeId} (ht:Pg.underlying t = some (.slice e)) {z:Value} {bytes:Nat} {A:Option Addr} {n c:Nat} {at_:At d} {xs:List α} {i:Nat} {U:Pc→List Pc} {ys:List α} {A2:Option Addr} {c3:Nat} {s x:Operand}
    (hinfo:(Pg.info? e).map (fun i=>(i.zero,i.size,i.bytes)) = some (some z,d.sz,bytes)) (hys:d.C w A2 ys.length ys) [hkm:KM d] [hG:HasRow G A n c at_ e xs i U]
    (h:∀ A' c' w1,St b0 w0 P D w1 (U (row at_ e A' (xs ++ ys).length c' (xs ++ ys)))→K (a.put (some N) (.slice A' (xs ++ ys).length c')) w1)
    (hgd:o.guard = none:=by with_reducible rfl) (hd:o.dst = some N:=by with_reducible rfl) (ho:o.op = .call { callee:=.builtin .append,args:=#[s,x],argTypes:=#[t,t] }:=by with_reducible rfl)
    (hs:a.eval s = .slice A n c:=by rfl) (hx:a.eval x = .slice A2 ys.length c3:=by rfl) (hz:z.cells.size = d.sz:=by rfl) (hs0:0 < d.sz:=by exact Nat.le_of_ble_eq_true rfl) (hb0:0 < bytes:=by decide) (hl:(xs.length + ys.length) * bytes ≤ 140737488355328:=by omega):Oper.wp Pg o a w K Q:=by
  have hw:=wanted_none (o:=o) (a:=a) #[] hgd
  obtain ⟨f,hf,hD⟩:=S.all
  have HO:=hf i _ hG.out
  have:=Kd.R_append_rows_step (P:=Pg) (ops:=#[]) (Q:=Q) (Kc:=K) (w0:=b0) (Rr:=d.K w) d b0.heap.size hw s x t e z bytes ho ht hinfo hz hs0 hb0 (.slice A n c) xs ys A2 ys.length c3 (fun k=>(f k = i∧(P k∨w0.heap.size ≤ k))∨w.heap.size ≤ k) (fun _=>False) hs hx (Kd.R_mono HO (fun k hk=>.inl hk)) hys (fun x cs hk=>hkm.out _ x cs hk _ _) (fun _ hk=>hk.elim) (fun k hk=>.inr hk) S.below S.below.size hl
    (fun v1 w1 ho hb hg hat=>by
      obtain ⟨A',c',rfl⟩:=Kd.R_slice ho
      have h1:=h A' c' w1 (hG.set _ ▸ S.updf f hf hD i hG.out hg (fun k hk=>⟨HO.1 k hk,by obtain ⟨_,_,hown,_⟩:=HO;exact own_base hown k hk⟩) ho)
      rw [hd];exact h1)
  rwa [if_pos hw] at this
open Classical in
end
section
variable {b0 w0 w w1:World} {P:Nat→Prop} {D:List (World→Prop)} {G:List Pc} {α:Type} {d:Kd α}
theorem St.nl (S:St b0 w0 P D w G) {e:Nat} (at_:At d):St b0 w0 P D w (row at_ e none ([]:List α).length 0 [] :: G) :=
  S.new (gn (Below.refl _ _)) (fun ok _=>Kd.R_nil d e w _ ok)
open Classical in
end
section
variable {b0 w0 w:World} {P:Nat→Prop} {D:List (World→Prop)} {G:List Pc}
def p0_:Pc where
  A _ _ _:=True
  F _:=True
  facts _:=trivial
  step _ _:=trivial
  mono _ _:=trivial
  bound _:=trivial
class Nth (G:List Pc) (i:Nat) (p:outParam Pc):Prop where
  out:G.getD i p0_ = p
  lt:i < G.length
instance {G:List Pc} {p:Pc}:Nth (p :: G) 0 p:=⟨rfl,Nat.succ_pos _⟩
instance {G:List Pc} {p q:Pc} {i:Nat} [h:Nth G i p]:Nth (q :: G) (i + 1) p:=⟨h.out,Nat.succ_lt_succ h.lt⟩
class Pk (l:List Nat) (G:List Pc) (G':outParam (List Pc)):Prop where
  out:(l.map fun i=>G.getD i p0_) = G'
  lt:∀ i,i ∈ l→i < G.length
instance {G:List Pc}:Pk [] G []:=⟨rfl,fun _ h=>by cases h⟩
instance {G G':List Pc} {i:Nat} {p:Pc} {l:List Nat} [h:Nth G i p] [k:Pk l G G']:Pk (i :: l) G (p :: G'):=⟨by rw [List.map_cons,h.out,k.out],fun j hj=>(List.mem_cons.1 hj).elim (fun e=>e ▸ h.lt) (k.lt j)⟩
theorem St.pm {G':List Pc} (S:St b0 w0 P D w G) (l:List Nat) [hl:Pk l G G'] (hn:l.Nodup:=by decide):St b0 w0 P D w G':=by
  rw [← hl.out]
  obtain ⟨f,hf,hD⟩:=S.all
  refine ⟨S.below,S.kept,fun k=>l.idxOf (f k),fun j q hj=>?_,fun q hq=>(hD q hq).step (Nat.le_refl _) (fun _ _ _=>rfl) (fun k hz hlt=>hz.imp id (fun h=>⟨h.1,?_⟩))⟩
  rotate_left
  · show _ ≤ l.idxOf (f k)
    rw [List.length_map,List.idxOf_eq_length (fun hm=>by have:=hl.lt _ hm;omega)]
    exact Nat.le_refl _
  rw [List.getElem?_map] at hj
  obtain ⟨i,hi,e⟩:=Option.map_eq_some_iff.1 hj
  by_cases hlt:i < G.length
  · rw [List.getD_eq_getElem?_getD,List.getElem?_eq_getElem hlt] at e
    refine q.mono (fun k hk=>⟨?_,hk.2⟩) (hf i q (by rw [List.getElem?_eq_getElem hlt];exact congrArg some e))
    show l.idxOf (f k) = j
    rw [hk.1]
    obtain ⟨hjl,hi⟩:=List.getElem?_eq_some_iff.1 hi
    rw [← hi]
    exact hn.idxOf_getElem j hjl
  · rw [List.getD_eq_getElem?_getD,List.getElem?_eq_none (by omega)] at e
    subst e
    trivial
end
theorem w6_ {x:Int} (h:-9223372036854775808 ≤ x) (h':x ≤ 9223372036854775807):wrap64 x = x:=by unfold wrap64;omega
section
variable {Pg:Program} {ops:Array Oper} {Q:Exit→Act→World→Prop} {a:Act} {b0 w0 w:World} {P:Nat→Prop} {D:List (World→Prop)} {G G':List Pc}
theorem rgP (S:St b0 w0 P D w G) (f:∀ W,St b0 w0 P D W G→St b0 w0 P D W G') {id:Nat} (ord:List (Nat × Nat)) (ds:List Nat) (hm:Pg.follows .mixedOrders = true) (hc:(chkO (rtab .any ops) ds (List.replicate ops.size false) ord && ord.length == ops.size) = true) (hQ:∀ c d v a w,Q (.panic c) (a.put d v) w→Q (.panic c) a w)
    (h:∀ W,St b0 w0 P D W G→wpO Pg ops Q (fun W=>St b0 w0 P D W G') ord a W):(Code.region id ops true).wp Pg Q a w :=
  rg ord ds (fun W=>St b0 w0 P D W G') hm hc hQ (f _ S.drew) (fun _=>h _ S.drew)
end
class NeC (i j:Nat):Prop where out:i ≠ j
instance {j:Nat}:NeC 0 (j + 1):=⟨by omega⟩
instance {i:Nat}:NeC (i + 1) 0:=⟨by omega⟩
instance {i j:Nat} [h:NeC i j]:NeC (i + 1) (j + 1):=⟨by have:=h.out;omega⟩
section
variable {b0 w0 w:World} {P:Nat→Prop} {D:List (World→Prop)} {G:List Pc} {α β:Type} {d:Kd α} {d':Kd β}
theorem St.rn {A A':Option Addr} {n c n' c':Nat} {at_:At d} {at':At d'} {e e':Nat} {xs:List α} {ys:List β} {i j:Nat} {U U':Pc→List Pc} (S:St b0 w0 P D w G) [hG:HasRow G A n c at_ e xs i U] [hG':HasRow G A' n' c' at' e' ys j U'] [hn:NeC i j]:d.R e w b0.heap.size (fun k=>some k ≠ (Value.slice A' n' c').ownBlock) (.slice A n c) xs:=by
  obtain ⟨f,hf⟩:=S.own
  refine Kd.R_mono (hf i _ hG.out) (fun k hk h=>hn.out ?_)
  exact hk.1.symm.trans ((hf j _ hG'.out).1 k h.symm).1
end
theorem gL_ {P : Program} {ops : Array Oper} {Q : Exit → Act → World → Prop} {rest : List Oper} {oi : Oper} {a : Act} {w : World} (N : Option Tmp) {f : FuncId} {fn : Func} {as : Array Operand} {ts : Array TypeId} (hf : P.funcs[f]? = some fn) (args : Array Value) (hd : oi.dst = N := by rfl) (hg : oi.guard = none := by rfl) (hname : (fn.name == "runtime.NumGoroutine") = false := by kernel_rfl) (hb : fn.body.isSome = true := by rfl)
    (hop:oi.op = .call { callee:=.value (.func f),args:=as,argTypes:=ts }:=by rfl) (hargs:as.map a.eval = args:=by (try simp only [ma_,mb_,mc_]);first | done | rfl | (simp only [List.length_drop,List.length_take];rfl))
    (h:Calls P f args w fun e w'=>∃ v,e = .returned v∧wpList P ops Q rest (a.put N v) w'):wpList P ops Q (oi :: rest) a w:=goesL_ N hd hg hf hname hb args hop hargs h
theorem ob_ {α β:Type} {a:α} {f:α→Option β} {r:β} (H:(some a).bind f = some r):∃ y,y = a∧f y = some r:=⟨a,rfl,H⟩
theorem ie2_ {x y x' y':Int} {W:World}:(if x = y then if x' = y' then Result.ok (Next.value (Value.bool true)) W else Result.ok (Next.value (Value.bool false)) W else Result.ok (Next.value (Value.bool false)) W) = Result.ok (Next.value (Value.bool (x == y && x' == y'))) W:=by
  by_cases h:x = y <;> by_cases h':x' = y' <;> simp [h,h']
theorem ie3_ {x y x' y' x'' y'':Int} {W:World}:(if x = y then if x' = y' then if x'' = y'' then Result.ok (Next.value (Value.bool true)) W else Result.ok (Next.value (Value.bool false)) W else Result.ok (Next.value (Value.bool false)) W else Result.ok (Next.value (Value.bool false)) W) = Result.ok (Next.value (Value.bool (x == y && (x' == y' && x'' == y'')))) W:=by
  by_cases h:x = y <;> by_cases h':x' = y' <;> by_cases h'':x'' = y'' <;> simp [h,h',h'']
theorem ne2_ {x y x' y':Int} {W:World}:(if x = y then if x' = y' then Result.ok (Next.value (Value.bool false)) W else Result.ok (Next.value (Value.bool true)) W else Result.ok (Next.value (Value.bool true)) W) = Result.ok (Next.value (Value.bool (!(x == y) || !(x' == y')))) W:=by
  by_cases h:x = y <;> by_cases h':x' = y' <;> simp [h,h']
theorem ne3_ {x y x' y' x'' y'':Int} {W:World}:(if x = y then if x' = y' then if x'' = y'' then Result.ok (Next.value (Value.bool false)) W else Result.ok (Next.value (Value.bool true)) W else Result.ok (Next.value (Value.bool true)) W else Result.ok (Next.value (Value.bool true)) W) = Result.ok (Next.value (Value.bool (!(x == y) || (!(x' == y') || !(x'' == y''))))) W:=by
  by_cases h:x = y <;> by_cases h':x' = y' <;> by_cases h'':x'' = y'' <;> simp [h,h',h'']
section
variable {Pg:Program} {ops:Array Oper} {Q:Exit→Act→World→Prop} {a:Act} {b0 w0 w:World} {P:Nat→Prop} {D:List (World→Prop)} {G:List Pc}
theorem rq (S:St b0 w0 P D w G) {id:Nat} (ord:List (Nat × Nat)) (ds:List Nat) (hm:Pg.follows .mixedOrders = true:=by kernel_rfl) (hc:(chkO (rtab .any ops) ds (List.replicate ops.size false) ord && ord.length == ops.size) = true:=by kernel_rfl) (hQ:∀ c d v a w,Q (.panic c) (a.put d v) w→Q (.panic c) a w:=by intro _ d _ _ _ h;cases d <;> exact h)
    (h:∀ W,St b0 w0 P D W G→wpO Pg ops Q (fun W=>St b0 w0 P D W G) ord a W):(Code.region id ops true).wp Pg Q a w:=rgS S ord ds hm hc hQ h
end
section
variable {Pg:Program} {ops:Array Oper} {Q:Exit→Act→World→Prop} {S:World→Prop} {r:List (Nat × Nat)} {i:Nat} {oi:Oper} {v:Value} {a a':Act} {w:World} {tl:List Oper}
theorem q0 (hi:ops.toList.drop i = oi :: tl:=by rfl) (hb:Region.wanted oi (yielded ops a.tmps) = true:=by exact (Eq.refl true)) (hv:∀ w,(execOp a.eval oi).run Pg w = .ok (.value v) w:=by intro W;go_simp;first | with_reducible rfl | exact ie2_ | exact ie3_ | exact ne2_ | exact ne3_ | (refine if_pos ?_;omega)) (ha:a.put oi.dst v = a':=by simp only [Act.put,za_,zb_,zc_,i64_w,i32_w];rfl) (h:wpO Pg ops Q S r a' w):wpO Pg ops Q S ((0,i) :: r) a w:=o0 hi hb hv ha h
theorem q1 (hS:S w) (hi:ops.toList.drop i = oi :: tl:=by rfl) (hb:Region.wanted oi (yielded ops a.tmps) = true:=by exact (Eq.refl true)) (hv:∀ w,S w→(execOp a.eval oi).run Pg w = .ok (.value v) w:=by intro W S;have F:=S.fc;go_simp;first | with_reducible rfl | exact ie2_ | exact ie3_ | exact ne2_ | exact ne3_ | (refine if_pos ?_;omega)) (ha:a.put oi.dst v = a':=by simp only [Act.put,za_,zb_,zc_,i64_w,i32_w];rfl) (h:wpO Pg ops Q S r a' w):wpO Pg ops Q S ((1,i) :: r) a w:=o1 hS hi hb hv ha h
theorem q0n (hi:ops.toList.drop i = oi :: tl:=by rfl) (hb:Region.wanted oi (yielded ops a.tmps) = false:=by exact (Eq.refl false)) (ha:a.put oi.dst undef = a':=by simp only [Act.put,za_,zb_,zc_,i64_w,i32_w];rfl) (h:wpO Pg ops Q S r a' w):wpO Pg ops Q S ((0,i) :: r) a w:=o0n hi hb ha h
theorem q1n (hS:S w) (hi:ops.toList.drop i = oi :: tl:=by rfl) (hb:Region.wanted oi (yielded ops a.tmps) = false:=by exact (Eq.refl false)) (ha:a.put oi.dst undef = a':=by simp only [Act.put,za_,zb_,zc_,i64_w,i32_w];rfl) (h:wpO Pg ops Q S r a' w):wpO Pg ops Q S ((1,i) :: r) a w:=o1n hS hi hb ha h
theorem q2 (hS:S w) (hi:ops.toList.drop i = oi :: tl:=by rfl) (hb:Region.wanted oi (yielded ops a.tmps) = true:=by exact (Eq.refl true)) (hv:(execOp a.eval oi).run Pg w = .ok (.value v) w:=by go_simp;first | with_reducible rfl | exact ie2_ | exact ie3_ | exact ne2_ | exact ne3_ | (refine if_pos ?_;omega)) (ha:a.put oi.dst v = a':=by simp only [Act.put,za_,zb_,zc_,i64_w,i32_w];rfl) (h:wpO Pg ops Q S r a' w):wpO Pg ops Q S ((2,i) :: r) a w:=l2r hS hi hb hv ha h
end
section
def mixf (u:Nat→Value) (v0 v1:Value):List (Option Nat)→List Value→List Value
  | _,[]=>[]
  | [],T=>T
  | some 0 :: m,_ :: T=>v0 :: mixf u v0 v1 m T
  | some 1 :: m,_ :: T=>v1 :: mixf u v0 v1 m T
  | some (i + 2) :: m,_ :: T=>u (i + 2) :: mixf u v0 v1 m T
  | none :: m,v :: T=>v :: mixf u v0 v1 m T
theorem wp_cutu {P:Program} {s:Code} {K:Act→World→Prop} {Q':Exit→Act→World→Prop} {T:List Value} {D} {w:World} (m:List (Option Nat)) (R:Value→Value→World→Prop)
    (first:∀ (J K':Act→World→Prop),(∀ u v0 v1 w' a',a' = ⟨(mixf u v0 v1 m T).toArray,D⟩→R v0 v1 w'→J a' w')→(∀ a' w',Met J a' w'→K' a' w')→s.wp P (Exit.then K' Q') ⟨T.toArray,D⟩ w)
    (rest:∀ u v0 v1 w',R v0 v1 w'→K ⟨(mixf u v0 v1 m T).toArray,D⟩ w'):s.wp P (Exit.then K Q') ⟨T.toArray,D⟩ w :=
  wp_cut (fun a' w'=>∃ u v0 v1,R v0 v1 w'∧a' = ⟨(mixf u v0 v1 m T).toArray,D⟩) (by rintro a' w' ⟨u,v0,v1,h,rfl⟩;exact rest u v0 v1 w' h) (fun J K' h1 h2=>first J K' (fun u v0 v1 w' a' e h=>h1 a' w' ⟨u,v0,v1,h,e⟩) h2)
theorem met_u (n0 n1:Nat) {J:Act→World→Prop} {m:List (Option Nat)} {T L:List Value} {D} {R:Value→Value→World→Prop} {w':World} {v0 v1:Value} (hJ:∀ u v0 v1 w' a',a' = ⟨(mixf u v0 v1 m T).toArray,D⟩→R v0 v1 w'→J a' w')
    (h:R v0 v1 w') (h0:L[n0]? = some v0:=by rfl) (h1:L[n1]? = some v1:=by rfl) (e:mixf (fun i=>L.getD i undef) v0 v1 m T = L:=by kernel_rfl):Met J ⟨L.toArray,D⟩ w':=Met.intro (hJ _ v0 v1 _ _ (by rw [e]) h)
end
end Go.Proofs.YtbbhacpahnnlcaaV.Sl
