/- Words of the print, as this seat's own text. No conditions. -/
/- A region in which variables are made at any time among calls: walked in one order, the rest of memory left open. No conditions. -/
import Derived.Test.YtnmffpfiichjgaaVSl
namespace Go.Proofs.YtnmffpfiichjgaaV.Sl
open Go.RowKit Go.Proofs.YtnmffpfiichjgaaV.PrintWords Go.Proofs.YtnmffpfiichjgaaV.PrintLast Go.Proofs.YtnmffpfiichjgaaV.PrintMore
set_option linter.unusedVariables false
set_option linter.unusedSimpArgs false
abbrev Flt:=Nat × Nat × Nat × List Value
def ptr (g:Nat):Value:=.pointer (some ⟨g,0,none⟩)
def fbox (f:Flt × Nat):Pc:=box f.2 f.1.2.2.1 f.1.2.2.2
def bxs:List Flt→List Nat→List Pc
  | f :: r,g :: q=>fbox (f,g) :: bxs r q
  | _,_=>[]
def putF:Act→List Flt→List Value→Act
  | a,f :: r,v :: q=>putF (a.put (some f.2.1) v) r q
  | a,_,_=>a
def All {α:Type}:List Flt→(List α→Prop)→Prop
  | [],p=>p []
  | _ :: r,p=>∀ x,All r (fun l=>p (x :: l))
theorem All.at {α:Type}:∀ {fs:List Flt} {p:List α→Prop},All fs p→∀ l:List α,l.length = fs.length→p l
  | [],p,h,[],_=>h
  | _ :: r,p,h,x :: l,e=>All.at (h x) l (by simpa using e)
section
variable {b0 w0 w:World} {P:Nat→Prop} {D:List (World→Prop)} {G G':List Pc}
theorem eraseIdx_perm {α:Type}:∀ (l:List α) (q:Nat) (x:α),l[q]? = some x→l.Perm (x :: l.eraseIdx q)
  | [],q,x,h=>by simp at h
  | y :: l,0,x,h=>by
    simp only [List.getElem?_cons_zero,Option.some.injEq] at h
    subst h
    exact .refl _
  | y :: l,q + 1,x,h=>((eraseIdx_perm l q x (by simpa using h)).cons y).trans (.swap _ _ _)
theorem perm_at {G G':List Pc} (h:G.Perm G'):∃ s t:Nat→Nat,(∀ (j:Nat) (p:Pc),G'[j]? = some p→G[t j]? = some p∧s (t j) = j)∧∀ k,G.length ≤ k→G'.length ≤ s k:=by
  induction h with
  | nil=>exact ⟨id,id,fun j p h=>by simp at h,fun k h=>h⟩
  | cons x _ ih =>
    obtain ⟨s,t,h,h'⟩:=ih
    refine ⟨fun k=>match k with | 0=>0 | k + 1=>s k + 1,fun k=>match k with | 0=>0 | k + 1=>t k + 1,fun j p hj=>?_,fun k hk=>?_⟩
    · cases j with
      | zero=>exact ⟨by simpa using hj,rfl⟩
      | succ j =>
        obtain ⟨h1,h2⟩:=h j p (by simpa using hj)
        exact ⟨by simpa using h1,congrArg (· + 1) h2⟩
    · cases k with
      | zero=>simp at hk
      | succ k=>exact Nat.succ_le_succ (h' k (by simpa using hk))
  | swap x y l =>
    refine ⟨fun k=>match k with | 0=>1 | 1=>0 | k=>k,fun k=>match k with | 0=>1 | 1=>0 | k=>k,fun j p hj=>?_,fun k hk=>?_⟩
    · match j with
      | 0=>exact ⟨by simpa using hj,rfl⟩
      | 1=>exact ⟨by simpa using hj,rfl⟩
      | j + 2=>exact ⟨by simpa using hj,rfl⟩
    · match k,hk with
      | 0,hk=>simp at hk
      | 1,hk=>simp at hk
      | k + 2,hk=>exact hk
  | trans _ _ ih1 ih2 =>
    obtain ⟨s1,t1,h1,h1'⟩:=ih1
    obtain ⟨s2,t2,h2,h2'⟩:=ih2
    refine ⟨fun k=>s2 (s1 k),fun k=>t1 (t2 k),fun j p hj=>?_,fun k hk=>h2' _ (h1' _ hk)⟩
    obtain ⟨h3,h4⟩:=h2 j p hj
    obtain ⟨h5,h6⟩:=h1 _ p h3
    exact ⟨h5,by show s2 (s1 (t1 (t2 j))) = j;rw [h6,h4]⟩
theorem St.perm (S:St b0 w0 P D w G) (h:G.Perm G'):St b0 w0 P D w G':=by
  obtain ⟨f,hf,hD⟩:=S.all
  obtain ⟨s,t,hst,hs⟩:=perm_at h
  refine ⟨S.below,S.kept,fun k=>s (f k),fun j p hj=>?_,fun q hq=>(hD q hq).step (Nat.le_refl _) (fun _ _ _=>rfl) (fun k hz hlt=>hz.imp id (fun h=>⟨h.1,hs _ h.2⟩))⟩
  obtain ⟨h1,h2⟩:=hst j p hj
  refine p.mono (fun k hk=>⟨?_,hk.2⟩) (hf _ p h1)
  show s (f k) = j
  rw [hk.1,h2]
end
theorem put_tmps (a:Act) (n:Nat) (v:Value):(a.put (some n) v).tmps = a.tmps.setIfInBounds n v:=rfl
theorem put_comm (a:Act) {m n:Nat} (h:m ≠ n) (u v:Value):(a.put (some m) u).put (some n) v = (a.put (some n) v).put (some m) u:=by
  simp only [Act.put]
  congr 1
  exact Array.setIfInBounds_comm _ _ h
theorem put_same (a:Act) (n:Nat) (u v:Value):(a.put (some n) u).put (some n) v = a.put (some n) v:=by
  simp only [Act.put]
  congr 1
  exact Array.setIfInBounds_setIfInBounds _
theorem put_self (a:Act) (n:Nat):a.put (some n) (a.tmps.getD n undef) = a:=by
  cases a with
  | mk t d =>
    simp only [Act.put]
    congr 1
    apply Array.ext (by simp)
    intro i h1 h2
    rw [Array.getElem_setIfInBounds h2]
    split
    · rename_i h;subst h;simp [Array.getD,h2]
    · rfl
theorem putF_over:∀ (fs:List Flt) (vs:List Value) (a:Act) (n:Nat) (v:Value),vs.length = fs.length→(∃ f ∈ fs,f.2.1 = n)→putF (a.put (some n) v) fs vs = putF a fs vs
  | [],_,_,_,_,_,⟨f,hf,_⟩=>by cases hf
  | f :: r,[],_,_,_,h,_=>by simp at h
  | f :: r,u :: q,a,n,v,h,hn=>by
    simp only [putF]
    by_cases e:f.2.1 = n
    · rw [e,put_same]
    · rw [put_comm _ (Ne.symm e)]
      refine putF_over r q _ n v (by simpa using h) ?_
      obtain ⟨g,hg,h2⟩:=hn
      rcases List.mem_cons.1 hg with rfl | hg
      · exact absurd h2 e
      · exact ⟨g,hg,h2⟩
theorem putF_id:∀ (fs:List Flt) (a:Act),(fs.map (fun f=>f.2.1)).Nodup→putF a fs (fs.map fun f=>a.tmps.getD f.2.1 undef) = a
  | [],_,_=>rfl
  | f :: r,a,h=>by
    simp only [List.map_cons,putF,put_self]
    exact putF_id r a (List.nodup_cons.1 h).2
theorem Oper.wp_act {Pg:Program} {o:Oper} {a:Act} {w:World} {K:Act→World→Prop} {Q:Exit→Act→World→Prop} (h:Oper.wp Pg o a w K Q) :
    Oper.wp Pg o a w (fun a' w'=>(∃ v,a'.tmps = (a.put o.dst v).tmps)∧K a' w') Q:=by
  unfold Oper.wp at *
  generalize (execOp a.eval o).run Pg w = r at *
  cases r with
  | ok n w' =>
    cases n <;> simp only [Oper.upon] at h ⊢ <;>
      first
        | exact ⟨⟨_,rfl⟩,h⟩
        | exact ⟨⟨_,by cases o.dst <;> rfl⟩,h⟩
        | exact Calls.mono h (fun e w'' he=>by cases e <;> first | exact ⟨⟨_,rfl⟩,he⟩ | exact he)
        | exact Rows.mono h (fun _ _ he=>⟨⟨_,rfl⟩,he⟩)
  | halt x w'=>cases x <;> simp only [Oper.upon] at h ⊢ <;> exact h
section
variable (Pg:Program) (ops:Array Oper) (Q:Exit→Act→World→Prop) (b0 w0:World) (P:Nat→Prop) (D:List (World→Prop)) (S:World→Prop) (fs:List Flt) (r2:List (Nat × Nat))
def wpF:List (Nat × Nat)→List Pc→Act→World→Prop
  | [],X,a,w=>∃ G,St b0 w0 P D w (G ++ X)∧All fs (fun gs=>∀ w1,St b0 w0 P D w1 (bxs fs gs ++ G)→wpO Pg ops Q S r2 (putF a fs (gs.map ptr)) w1)
  | (0,i) :: r,X,a,w=>∃ oi v,ops[i]? = some oi∧Yields Pg ops oi v a∧wpF r X (a.put oi.dst v) w
  | (1,i) :: r,X,a,w=>S w∧∃ oi v,ops[i]? = some oi∧YieldsIf Pg ops S oi v a∧wpF r X (a.put oi.dst v) w
  | (2,i) :: r,X,a,w=>∃ G oi,St b0 w0 P D w (G ++ X)∧ops[i]? = some oi∧All fs (fun vs=>∀ X1 w1,St b0 w0 P D w1 (G ++ X1)→Region.wanted oi (yielded ops (putF a fs vs).tmps) = true∧Oper.wp Pg oi (putF a fs vs) w1 (fun a' w'=>S w'∧wpF r X1 a' w') Q)
  | (_,i) :: r,X,a,w=>∃ G oi,St b0 w0 P D w (G ++ X)∧ops[i]? = some oi∧All fs (fun vs=>∀ X1 w1,St b0 w0 P D w1 (G ++ X1)→Region.wanted oi (yielded ops (putF a fs vs).tmps) = true∧Oper.wp Pg oi (putF a fs vs) w1 (fun a' w'=>wpF r X1 a' w') Q)
end
def chkF (T:Bool × List (List Nat × List Nat)) (ds:List Nat) (r2:List (Nat × Nat)):Nat→List Flt→List Bool→List (Nat × Nat)→Bool
  | 0,u,l,r=>u.isEmpty && r.isEmpty && chkO T ds l r2
  | n + 1,u,l,(0,i) :: r=>anyT T l (l.set i true) i && chkF T ds r2 n u (l.set i true) r
  | n + 1,u,l,(1,i) :: r=>takeT T ds l (l.set i true) i && chkF T ds r2 n u (l.set i true) r
  | n + 1,u,l,(k + 2,i) :: r=>!(readyT T.2 l).isEmpty && (readyT T.2 l).all (fun j=>j == i || u.any (fun f=>f.1 == j)) && ds.contains i == (k != 0) && chkF T ds r2 n u (l.set i true) r &&
      (List.range u.length).all (fun q=>match u[q]? with | some f=>chkF T ds r2 n (u.eraseIdx q) (l.set f.1 true) ((k + 2,i) :: r) | none=>true)
  | n + 1,[],l,[]=>chkO T ds l r2
  | n + 1,f :: u,l,[]=>!(readyT T.2 l).isEmpty && (readyT T.2 l).all (fun j=>(f :: u).any (fun f=>f.1 == j)) &&
      (List.range (u.length + 1)).all (fun q=>match (f :: u)[q]? with | some f'=>chkF T ds r2 n ((f :: u).eraseIdx q) (l.set f'.1 true) [] | none=>true)
def FOk (Pg:Program) (ops:Array Oper) (fs:List Flt):Prop :=
  ∀ f,f ∈ fs→∃ oi,ops[f.1]? = some oi∧oi.guard = none∧oi.dst = some f.2.1∧∀ (a:Act) (w:World),(execOp a.eval oi).run Pg w = .ok (.value (ptr w.heap.size)) (w.alloc (.cells f.2.2.2.toArray f.2.2.1 (0,0)))
def dstOk (ops:Array Oper) (fs:List Flt):Bool :=
  (List.range ops.size).all fun j=>fs.any (fun f=>f.1 == j) || match ops[j]? with
    | some o=>match o.dst with | some d=>!fs.any (fun f=>f.2.1 == d) | none=>true
    | none=>true
def nodupB:List Nat→Bool
  | []=>true
  | x :: r=>!r.contains x && nodupB r
theorem nodup_of:∀ {l:List Nat},nodupB l = true→l.Nodup
  | [],_=>List.nodup_nil
  | x :: r,h=>by
    simp only [nodupB,Bool.and_eq_true,Bool.not_eq_true'] at h
    exact List.nodup_cons.2 ⟨by simpa using h.1,nodup_of h.2⟩
section
variable {Pg:Program} {ops:Array Oper} {Q:Exit→Act→World→Prop} {b0 w0:World} {P:Nat→Prop} {D:List (World→Prop)} {S:World→Prop} {fs:List Flt} {r2:List (Nat × Nat)} {ds:List Nat}
theorem perm_map {α β:Type} {f:α→β} {l:List α} {m:List β} (h:(l.map f).Perm m):∃ l',l.Perm l'∧l'.map f = m:=by
  generalize hk:l.map f = k at h
  induction h generalizing l with
  | nil=>exact ⟨l,.refl _,hk⟩
  | cons x _ ih =>
    cases l with
    | nil=>simp at hk
    | cons y l =>
      simp only [List.map_cons,List.cons.injEq] at hk
      obtain ⟨l',h1,h2⟩:=ih hk.2
      exact ⟨y :: l',h1.cons y,by simp [hk.1,h2]⟩
  | swap x y m =>
    match l,hk with
    | a :: b :: l,hk =>
      simp only [List.map_cons,List.cons.injEq] at hk
      exact ⟨b :: a :: l,.swap _ _ _,by simp [hk.1,hk.2.1,hk.2.2]⟩
  | trans _ _ ih1 ih2 =>
    obtain ⟨l1,h1,h2⟩:=ih1 hk
    obtain ⟨l2,h3,h4⟩:=ih2 h2
    exact ⟨l2,h1.trans h3,h4⟩
theorem wpF_float {f:Flt} (hf:f ∈ fs) {X:List Pc} {a:Act} {w w':World} (hS:∀ G,St b0 w0 P D w (G ++ X)→St b0 w0 P D w' (G ++ fbox (f,w.heap.size) :: X)) (o:List (Nat × Nat)) (ho:o = []∨∃ k i r,o = (k + 2,i) :: r)
    (h:wpF Pg ops Q b0 w0 P D S fs r2 o X a w):wpF Pg ops Q b0 w0 P D S fs r2 o (fbox (f,w.heap.size) :: X) (a.put (some f.2.1) (ptr w.heap.size)) w':=by
  have hn:∀ vs:List Value,vs.length = fs.length→putF (a.put (some f.2.1) (ptr w.heap.size)) fs vs = putF a fs vs:=fun vs e=>putF_over fs vs a _ _ e ⟨f,hf,rfl⟩
  have all:∀ {α:Type} (q:List Flt) (p p':List α→Prop),(∀ l,l.length = q.length→p l→p' l)→All q p→All q p':=by
    intro α q
    induction q with
    | nil=>exact fun p p' hp h=>hp [] rfl h
    | cons x q ih=>exact fun p p' hp h y=>ih _ _ (fun l e hl=>hp (y :: l) (by simp [e]) hl) (h y)
  rcases ho with rfl | ⟨k,i,r,rfl⟩
  · obtain ⟨G,h1,h2⟩:=h
    exact ⟨G,hS G h1,all fs _ _ (fun l e hl w1=>by rw [hn _ (by simp [e])];exact hl w1) h2⟩
  · cases k with
    | zero =>
      obtain ⟨G,oi,h1,hi,h2⟩:=h
      exact ⟨G,oi,hS G h1,hi,all fs _ _ (fun l e hl=>by rw [hn _ e];exact hl) h2⟩
    | succ k =>
      obtain ⟨G,oi,h1,hi,h2⟩:=h
      exact ⟨G,oi,hS G h1,hi,all fs _ _ (fun l e hl=>by rw [hn _ e];exact hl) h2⟩
end
section
variable {Pg:Program} {ops:Array Oper} {Q:Exit→Act→World→Prop} {b0 w0:World} {P:Nat→Prop} {D:List (World→Prop)} {S:World→Prop} {fs:List Flt} {r2:List (Nat × Nat)} {ds:List Nat} {T:Bool × List (List Nat × List Nat)}
def Okp (a:Act) (Y:List (Flt × Nat)):Prop:=∀ y,y ∈ Y→a.tmps.setIfInBounds y.1.2.1 (ptr y.2) = a.tmps
theorem Okp.act {a a':Act} {Y:List (Flt × Nat)} (h:Okp a Y) {d:Option Nat} {v:Value} (e:a'.tmps = (a.put d v).tmps) (hd:∀ n,d = some n→∀ y,y ∈ Y→y.1.2.1 ≠ n):Okp a' Y:=by
  intro y hy
  rw [e]
  cases d with
  | none=>exact h y hy
  | some n =>
    rw [put_tmps,Array.setIfInBounds_comm _ _ (Ne.symm (hd n rfl y hy)),h y hy]
theorem putF_ok:∀ (Y:List (Flt × Nat)) (a:Act),Okp a Y→putF a (Y.map (·.1)) ((Y.map (·.2)).map ptr) = a
  | [],_,_=>rfl
  | y :: Y,a,h=>by
    have e:a.put (some y.1.2.1) (ptr y.2) = a:=by
      cases a with
      | mk t d=>simp only [Act.put];congr 1;exact h y List.mem_cons_self
    simp only [List.map_cons,putF,e]
    exact putF_ok Y a (fun z hz=>h z (List.mem_cons_of_mem _ hz))
theorem bxs_map:∀ (Y:List (Flt × Nat)),bxs (Y.map (·.1)) (Y.map (·.2)) = Y.map fbox
  | []=>rfl
  | y :: Y=>by simp only [List.map_cons,bxs,bxs_map Y]
theorem dst_of (hD:dstOk ops fs = true) {i:Nat} {oi:Oper} (hi:ops[i]? = some oi) (hn:fs.any (fun f=>f.1 == i) = false) {f:Flt} (hf:f ∈ fs):∀ n,oi.dst = some n→f.2.1 ≠ n:=by
  intro n hd e
  have h:=List.all_eq_true.1 hD i (List.mem_range.2 (Array.getElem?_eq_some_iff.1 hi).1)
  rw [hn,Bool.false_or,hi] at h
  simp only [hd] at h
  simp only [Bool.not_eq_true',List.any_eq_false,beq_iff_eq] at h
  exact h f hf e
theorem flo_any (hT:rtab .any ops = T) (hQ:∀ c d v a w,Q (.panic c) (a.put d v) w→Q (.panic c) a w) (hF:FOk Pg ops fs) (hD:dstOk ops fs = true) (hN:(fs.map (fun f=>f.2.1)).Nodup)
    (hS:∀ f,f ∈ fs→∀ w:World,S w→S (w.alloc (.cells f.2.2.2.toArray f.2.2.1 (0,0)))) :
    ∀ (n:Nat) (u:List Flt) (l:List Bool) (r:List (Nat × Nat)) (fuel:Nat) (a:Act) (w:World) (Y:List (Flt × Nat)),chkF T ds r2 n u l r = true→u.length + r.length + r2.length ≤ fuel→u.length + r.length ≤ n→(∀ x,x ∈ r→fs.any (fun f=>f.1 == x.2) = false) →
      (Y.map (·.1) ++ u).Perm fs→Okp a Y→wpF Pg ops Q b0 w0 P D S fs r2 r (Y.map fbox) a w→wpAnyLast Pg .any ops Q S ds fuel l.toArray a w:=by
  have hYf:∀ {Y:List (Flt × Nat)} {u:List Flt},(Y.map (·.1) ++ u).Perm fs→∀ y,y ∈ Y→y.1 ∈ fs:=fun hP y hy=>hP.subset (List.mem_append_left _ (List.mem_map_of_mem hy))
  have huf:∀ {Y:List (Flt × Nat)} {u:List Flt},(Y.map (·.1) ++ u).Perm fs→∀ f,f ∈ u→f ∈ fs:=fun hP f hf=>hP.subset (List.mem_append_right _ hf)
  have done:∀ (l:List Bool) (fuel:Nat) (a:Act) (w:World) (Y:List (Flt × Nat)),chkO T ds l r2 = true→r2.length ≤ fuel→(Y.map (·.1)).Perm fs→Okp a Y→wpF Pg ops Q b0 w0 P D S fs r2 [] (Y.map fbox) a w→wpAnyLast Pg .any ops Q S ds fuel l.toArray a w:=by
    intro l fuel a w Y hc hl hP hY h
    obtain ⟨G,h1,h2⟩:=h
    obtain ⟨Y',hp,e⟩:=perm_map hP
    have h3:=h2.at (Y'.map (·.2)) (by rw [← e];simp) w (by
      rw [← e,bxs_map]
      exact h1.perm ((List.perm_append_comm).trans ((hp.map fbox).append_right G)))
    rw [← e,putF_ok Y' a (fun y hy=>hY y (hp.symm.subset hy))] at h3
    exact ord_any hT hQ r2 l fuel a w hc hl h3
  intro n
  induction n with
  | zero =>
    intro u l r fuel a w Y hc hl hn hr hP hY h
    simp only [chkF,Bool.and_eq_true,List.isEmpty_iff] at hc
    obtain ⟨⟨rfl,rfl⟩,hc⟩:=hc
    exact done l fuel a w Y hc (by simpa using hl) (by simpa using hP) hY h
  | succ n ih =>
    -- a variable is made
    have float:∀ (u:List Flt) (l:List Bool) (r:List (Nat × Nat)) (fuel:Nat) (a:Act) (w:World) (Y:List (Flt × Nat)) (q:Nat) (f:Flt),u[q]? = some f→chkF T ds r2 n (u.eraseIdx q) (l.set f.1 true) r = true→u.length + r.length + r2.length ≤ fuel + 1→u.length + r.length ≤ n + 1→(∀ x,x ∈ r→fs.any (fun f=>f.1 == x.2) = false) →
        (Y.map (·.1) ++ u).Perm fs→Okp a Y→(r = []∨∃ k i r',r = (k + 2,i) :: r')→wpF Pg ops Q b0 w0 P D S fs r2 r (Y.map fbox) a w →
        wpOp Pg ops Q f.1 (fun a' w'=>(f.1 ∉ ds→S w→S w')∧wpAnyLast Pg .any ops Q S ds fuel (l.toArray.setIfInBounds f.1 true) a' w') a w:=by
      intro u l r fuel a w Y q f hq hc hl hn hr hP hY ho h
      have hlt:q < u.length:=(List.getElem?_eq_some_iff.1 hq).1
      have hfu:f ∈ u:=List.mem_of_getElem? hq
      obtain ⟨oi,hi,hg,hd,hrun⟩:=hF f (huf hP f hfu)
      unfold wpOp
      rw [hi]
      show (if Region.wanted oi (yielded ops a.tmps) = true then _ else _)
      rw [if_pos (by simp [Region.wanted,hg])]
      refine .inl ?_
      unfold Oper.wp
      rw [hrun a w,Oper.upon_value,hd]
      refine ⟨fun _=>hS f (huf hP f hfu) w,?_⟩
      have hpu:u.Perm (f :: u.eraseIdx q):=eraseIdx_perm u q f hq
      have hlen:(u.eraseIdx q).length + 1 = u.length:=by rw [List.length_eraseIdx,if_pos hlt];omega
      have hnd:((Y.map (·.1) ++ u).map (fun f=>f.2.1)).Nodup:=((hP.map _).nodup_iff).2 hN
      suffices key:wpAnyLast Pg .any ops Q S ds fuel (l.set f.1 true).toArray (a.put (some f.2.1) (ptr w.heap.size)) (w.alloc (.cells f.2.2.2.toArray f.2.2.1 (0,0))) by simpa using key
      refine ih (u.eraseIdx q) (l.set f.1 true) r fuel _ _ ((f,w.heap.size) :: Y) hc (by omega) (by omega) hr ?_ ?_ ?_
      · refine List.Perm.trans ?_ hP
        simp only [List.map_cons,List.cons_append]
        exact (List.perm_middle.symm).trans (hpu.symm.append_left _)
      · intro y hy
        rcases List.mem_cons.1 hy with rfl | hy
        · simp only [put_tmps];exact Array.setIfInBounds_setIfInBounds _
        · refine Okp.act (d:=some f.2.1) hY rfl (fun n hn y hy=>?_) y hy
          injection hn with hn
          subst hn
          rw [List.map_append,List.nodup_append] at hnd
          exact hnd.2.2 _ (List.mem_map_of_mem (List.mem_map_of_mem hy)) _ (List.mem_map_of_mem hfu)
      · refine wpF_float (huf hP f hfu) (fun G hG=>?_) r ho h
        have:=hG.new (p:=fbox (f,w.heap.size)) (World.grownBy_alloc w _ none) (fun ok hk=>⟨hk _ (Nat.le_refl _),hG.below.size,blk_new w _⟩)
        exact this.perm (by rw [← List.cons_append];exact (List.perm_middle.symm))
    intro u l r fuel a w Y hc hl hn hr hP hY h
    match r,hr,hc,h with
    | (0,i) :: r,hr,hc,h =>
      cases fuel with
      | zero=>simp at hl
      | succ fuel =>
        simp only [chkF,Bool.and_eq_true] at hc
        obtain ⟨oi,v,hi,hy,h⟩:=h
        have hni:=hr _ List.mem_cons_self
        exact pure_ (l.set i true).toArray hi rfl (any_of hT hc.1) (fun c a w h=>hQ c _ _ a w h) hy rfl (ih u _ r fuel _ _ Y hc.2 (by simp at hl;omega) (by simp at hn;omega) (fun x hx=>hr x (List.mem_cons_of_mem _ hx)) hP (hY.act rfl (fun n hd y hy=>dst_of hD hi hni (hYf hP y hy) n hd)) h)
    | (1,i) :: r,hr,hc,h =>
      cases fuel with
      | zero=>simp at hl
      | succ fuel =>
        simp only [chkF,Bool.and_eq_true] at hc
        obtain ⟨hs,oi,v,hi,hy,h⟩:=h
        have hni:=hr _ List.mem_cons_self
        exact take_ (l.set i true).toArray hi rfl (take_of hT hc.1) (fun c a w h=>hQ c _ _ a w h) hy hs rfl (ih u _ r fuel _ _ Y hc.2 (by simp at hl;omega) (by simp at hn;omega) (fun x hx=>hr x (List.mem_cons_of_mem _ hx)) hP (hY.act rfl (fun n hd y hy=>dst_of hD hi hni (hYf hP y hy) n hd)) h)
    | (k + 2,i) :: r,hr,hc,h =>
      cases fuel with
      | zero=>simp at hl
      | succ fuel =>
        have hni:=hr _ List.mem_cons_self
        simp only [chkF,Bool.and_eq_true,Bool.not_eq_true',beq_iff_eq] at hc
        obtain ⟨⟨⟨⟨h1,h2⟩,h3⟩,h4⟩,h5⟩:=hc
        refine wpAnyLast_all (by rw [ready_eq,hT]) (by intro e;rw [e] at h1;simp at h1) (fun j hj=>?_)
        have hj2:=List.all_eq_true.1 h2 j (by simpa using hj)
        by_cases hji:j = i
        · subst hji
          have main:∃ G oi,St b0 w0 P D w (G ++ Y.map fbox)∧ops[j]? = some oi∧All fs (fun vs=>∀ X1 w1,St b0 w0 P D w1 (G ++ X1)→Region.wanted oi (yielded ops (putF a fs vs).tmps) = true∧Oper.wp Pg oi (putF a fs vs) w1 (fun a' w'=>(k = 0→S w')∧wpF Pg ops Q b0 w0 P D S fs r2 r X1 a' w') Q):=by
            have all:∀ (q:List Flt) (p p':List Value→Prop),(∀ l,p l→p' l)→All q p→All q p':=by
              intro q
              induction q with
              | nil=>exact fun p p' hp h=>hp [] h
              | cons x q ih=>exact fun p p' hp h y=>ih _ _ (fun l hl=>hp (y :: l) hl) (h y)
            cases k with
            | zero =>
              obtain ⟨G,oi,a1,a2,a3⟩:=h
              exact ⟨G,oi,a1,a2,all _ _ _ (fun vs hv X1 w1 hs=>⟨(hv X1 w1 hs).1,Oper.wp_mono (fun a' w' h=>⟨fun _=>h.1,h.2⟩) (hv X1 w1 hs).2⟩) a3⟩
            | succ k =>
              obtain ⟨G,oi,a1,a2,a3⟩:=h
              exact ⟨G,oi,a1,a2,all _ _ _ (fun vs hv X1 w1 hs=>⟨(hv X1 w1 hs).1,Oper.wp_mono (fun a' w' h=>⟨fun e=>absurd e (Nat.succ_ne_zero _),h⟩) (hv X1 w1 hs).2⟩) a3⟩
          obtain ⟨G,oi,a1,hi,a3⟩:=main
          obtain ⟨b1,b2⟩:=a3.at (fs.map fun f=>a.tmps.getD f.2.1 undef) (by simp) (Y.map fbox) w a1
          rw [putF_id fs a hN] at b1 b2
          unfold wpOp
          rw [hi]
          show (if Region.wanted oi (yielded ops a.tmps) = true then _ else _)
          rw [if_pos b1]
          refine .inl (Oper.wp_mono (fun a' w' h=>?_) (Oper.wp_act b2))
          obtain ⟨⟨v,hv⟩,hs,h⟩:=h
          refine ⟨fun hd _=>hs (Nat.eq_zero_of_not_pos (fun hk=>hd ?_)),?_⟩
          · have:(k != 0) = true:=by simp;omega
            rw [this] at h3
            simpa using h3
          · exact (by simpa using ih u (l.set j true) r fuel _ _ Y h4 (by simp at hl;omega) (by simp at hn;omega) (fun x hx=>hr x (List.mem_cons_of_mem _ hx)) hP (hY.act hv (fun n hd y hy=>dst_of hD hi hni (hYf hP y hy) n hd)) h)
        · have hj3:u.any (fun f=>f.1 == j) = true:=by simpa [hji] using hj2
          obtain ⟨f,hfu,hfj⟩:=List.any_eq_true.1 hj3
          have hfj:f.1 = j:=by simpa using hfj
          subst hfj
          obtain ⟨q,hq⟩:=List.mem_iff_getElem?.1 hfu
          have h6:=List.all_eq_true.1 h5 q (List.mem_range.2 (List.getElem?_eq_some_iff.1 hq).1)
          rw [hq] at h6
          exact float u l _ fuel a w Y q f hq h6 (by simp at hl ⊢;omega) (by simp at hn ⊢;omega) hr hP hY (.inr ⟨k,i,r,rfl⟩) h
    | [],hr,hc,h =>
      cases u with
      | nil =>
        simp only [chkF] at hc
        exact done l fuel a w Y hc (by simpa using hl) (by simpa using hP) hY h
      | cons f0 u =>
        cases fuel with
        | zero=>simp at hl
        | succ fuel =>
          simp only [chkF,Bool.and_eq_true,Bool.not_eq_true'] at hc
          obtain ⟨⟨h1,h2⟩,h5⟩:=hc
          refine wpAnyLast_all (by rw [ready_eq,hT]) (by intro e;rw [e] at h1;simp at h1) (fun j hj=>?_)
          have hj2:=List.all_eq_true.1 h2 j (by simpa using hj)
          obtain ⟨f,hfu,hfj⟩:=List.any_eq_true.1 hj2
          have hfj:f.1 = j:=by simpa using hfj
          subst hfj
          obtain ⟨q,hq⟩:=List.mem_iff_getElem?.1 hfu
          have h6:=List.all_eq_true.1 h5 q (List.mem_range.2 (by simpa using (List.getElem?_eq_some_iff.1 hq).1))
          rw [hq] at h6
          exact float _ l _ fuel a w Y q f hq h6 (by simp at hl ⊢;omega) (by simp at hn ⊢;omega) hr hP hY (.inl rfl) h
end

theorem fk0 {Pg:Program} {ops:Array Oper}:FOk Pg ops []:=fun f h=>by cases h
theorem fkc {Pg:Program} {ops:Array Oper} {fs:List Flt} (i N:Nat) {t:TypeId} {z:Value} {m b:Nat} (hz:(Pg.info? t).map (fun i=>(i.zero,i.size,i.bytes)) = some (some z,m,b)) (r:FOk Pg ops fs) {cs:List Value} [hc:Cells z cs] {oi:Oper} {tl:List Oper} (hi:ops.toList.drop i = oi :: tl:=by rfl)
    (hg:oi.guard = none:=by rfl) (hd:oi.dst = some N:=by rfl) (ho:oi.op = .alloc t:=by rfl):FOk Pg ops ((i,N,t,cs) :: fs):=by
  intro f hf
  rcases List.mem_cons.1 hf with rfl | hf
  · refine ⟨oi,gi hi,hg,hd,fun a w=>?_⟩
    obtain ⟨i,hi,e⟩:=Option.map_eq_some_iff.1 hz
    simp only [Prod.mk.injEq] at e
    obtain ⟨e1,_,_⟩:=e
    have hzv:(zeroValue t).run Pg w = .ok z w:=by simp [zeroValue,typeInfo,hi,e1]
    have:=hc.out
    unfold execOp
    simp only [ho,Sem.run_bind,Sem.run_pure,hzv,Result.andThen_ok,run_nv]
    simp [Instr.alloc,hzv,run_nv,← this,ptr]
  · exact r f hf
class Spl (L X:List Pc) (G:outParam (List Pc)):Prop where out:L = G ++ X
instance {X:List Pc}:Spl X X []:=⟨rfl⟩
instance {L X G:List Pc} {p:Pc} [h:Spl L X G]:Spl (p :: L) X (p :: G):=⟨by rw [h.out];rfl⟩
instance (priority:=low) {w:World} {G:List Pc}:Fx G w True:=⟨fun _=>trivial⟩
section
variable {Pg:Program} {ops:Array Oper} {Q:Exit→Act→World→Prop} {a:Act} {b0 w0 w:World} {P:Nat→Prop} {D:List (World→Prop)} {G G0:List Pc} {fs:List Flt}
theorem rgF (S:St b0 w0 P D w G) (f:∀ W,St b0 w0 P D W G→St b0 w0 P D W G0) (hF:FOk Pg ops fs) (ord r2:List (Nat × Nat)) (ds:List Nat) {id:Nat} (hm:Pg.follows .mixedOrders = true:=by kernel_rfl)
    (hc:(chkF (rtab .any ops) ds r2 (fs.length + ord.length) fs (List.replicate ops.size false) ord && decide (fs.length + ord.length + r2.length = ops.size) && dstOk ops fs && nodupB (fs.map (fun f=>f.2.1)) && ord.all (fun x=>!fs.any (fun f=>f.1 == x.2))) = true:=by kernel_rfl)
    (hQ:∀ c d v a w,Q (.panic c) (a.put d v) w→Q (.panic c) a w:=by intro _ d _ _ _ h;cases d <;> exact h)
    (h:∀ W,St b0 w0 P D W G→wpF Pg ops Q b0 w0 P D (fun W=>St b0 w0 P D W G0) fs r2 ord [] a W):(Code.region id ops true).wp Pg Q a w:=by
  simp only [Bool.and_eq_true,decide_eq_true_eq] at hc
  obtain ⟨⟨⟨⟨h1,h2⟩,h3⟩,h4⟩,h5⟩:=hc
  refine wp_region_last_drew (ds:=ds) (S:=fun W=>St b0 w0 P D W G0) hm (f _ S.drew) (fun _=>?_)
  have:=flo_any (ds:=ds) rfl hQ hF h3 (nodup_of h4) (S:=fun W=>St b0 w0 P D W G0) (fun f _ w S=>S.go (below_alloc (Below.refl _ _) _)) (fs.length + ord.length) fs (List.replicate ops.size false) ord ops.size a w.drew []
    h1 (by omega) (Nat.le_refl _) (fun x hx=>by simpa using List.all_eq_true.1 h5 x hx) (.refl _) (fun y hy=>by cases hy) (h _ S.drew)
  simpa using this
end
section
variable {Pg:Program} {ops:Array Oper} {Q:Exit→Act→World→Prop} {a a':Act} {b0 w0 w:World} {P:Nat→Prop} {D:List (World→Prop)} {G X L:List Pc} {fs:List Flt} {S:World→Prop} {r r2:List (Nat × Nat)} {i:Nat} {oi:Oper} {v:Value} {tl:List Oper}
theorem f0 (hi:ops.toList.drop i = oi :: tl:=by rfl) (hb:Region.wanted oi (yielded ops a.tmps) = true:=by exact (Eq.refl true)) (hv:∀ w,(execOp a.eval oi).run Pg w = .ok (.value v) w:=by intro W;go_simp;first | with_reducible rfl | exact ie2_ | exact ie3_ | exact ne2_ | exact ne3_ | (refine if_pos ?_;omega)) (ha:a.put oi.dst v = a':=by simp only [Act.put,za_,zb_,zc_,i64_w,i32_w];rfl)
    (h:wpF Pg ops Q b0 w0 P D S fs r2 r X a' w):wpF Pg ops Q b0 w0 P D S fs r2 ((0,i) :: r) X a w:=⟨oi,v,gi hi,.inl ⟨hb,hv⟩,ha ▸ h⟩
theorem f0n (hi:ops.toList.drop i = oi :: tl:=by rfl) (hb:Region.wanted oi (yielded ops a.tmps) = false:=by exact (Eq.refl false)) (ha:a.put oi.dst undef = a':=by simp only [Act.put,za_,zb_,zc_,i64_w,i32_w];rfl)
    (h:wpF Pg ops Q b0 w0 P D S fs r2 r X a' w):wpF Pg ops Q b0 w0 P D S fs r2 ((0,i) :: r) X a w:=⟨oi,undef,gi hi,.inr ⟨hb,rfl⟩,ha ▸ h⟩
theorem f1 (hS:S w) (hi:ops.toList.drop i = oi :: tl:=by rfl) (hb:Region.wanted oi (yielded ops a.tmps) = true:=by exact (Eq.refl true)) (hv:∀ w,S w→(execOp a.eval oi).run Pg w = .ok (.value v) w:=by intro W S;have F:=S.fc;go_simp;first | with_reducible rfl | exact ie2_ | exact ie3_ | exact ne2_ | exact ne3_ | (refine if_pos ?_;omega)) (ha:a.put oi.dst v = a':=by simp only [Act.put,za_,zb_,zc_,i64_w,i32_w];rfl)
    (h:wpF Pg ops Q b0 w0 P D S fs r2 r X a' w):wpF Pg ops Q b0 w0 P D S fs r2 ((1,i) :: r) X a w:=⟨hS,oi,v,gi hi,.inl ⟨hb,hv⟩,ha ▸ h⟩
theorem f1n (hS:S w) (hi:ops.toList.drop i = oi :: tl:=by rfl) (hb:Region.wanted oi (yielded ops a.tmps) = false:=by exact (Eq.refl false)) (ha:a.put oi.dst undef = a':=by simp only [Act.put,za_,zb_,zc_,i64_w,i32_w];rfl)
    (h:wpF Pg ops Q b0 w0 P D S fs r2 r X a' w):wpF Pg ops Q b0 w0 P D S fs r2 ((1,i) :: r) X a w:=⟨hS,oi,undef,gi hi,.inr ⟨hb,rfl⟩,ha ▸ h⟩
theorem fe2 [hL:Spl L X G] (hS:St b0 w0 P D w L) (hi:ops.toList.drop i = oi :: tl:=by rfl)
    (h:All fs (fun vs=>∀ X1 w1,St b0 w0 P D w1 (G ++ X1)→Region.wanted oi (yielded ops (putF a fs vs).tmps) = true∧Oper.wp Pg oi (putF a fs vs) w1 (fun a' w'=>S w'∧wpF Pg ops Q b0 w0 P D S fs r2 r X1 a' w') Q)):wpF Pg ops Q b0 w0 P D S fs r2 ((2,i) :: r) X a w:=⟨G,oi,hL.out ▸ hS,gi hi,h⟩
theorem fz [hL:Spl L X G] (hS:St b0 w0 P D w L) (h:All fs (fun gs=>∀ w1,St b0 w0 P D w1 (bxs fs gs ++ G)→wpO Pg ops Q S r2 (putF a fs (gs.map ptr)) w1)):wpF Pg ops Q b0 w0 P D S fs r2 [] X a w:=⟨G,hL.out ▸ hS,h⟩
end

def atU {α:Type} {d:Kd α}:At d where
  F _ _ _:=True
  h _:=trivial
instance {α:Type} {d:Kd α} {w:World} {A:Option Addr} {xs:List α}:AtF (atU (d:=d)) w A xs True:=⟨id⟩
instance {w:World} {G:List Pc} {p:Prop} [h:Fx G w p]:Fx (p0_ :: G) w p:=⟨fun k=>h.out k.2⟩
section
variable {Pg:Program} {o:Oper} {a:Act} {Q:Exit→Act→World→Prop} {K:Act→World→Prop} {b0 w0 w w1:World} {P:Nat→Prop} {D:List (World→Prop)} {G:List Pc} {α:Type} {d:Kd α}
theorem apm (N:Tmp) {e':Nat} {d':Kd α} {at_:At (Kd.slice e' d')} {at2:At d'} {A A2:Option Addr} {n c n2 c2 i1 i2 e:Nat} {xs:List (List α)} {ys:List α} {U1 U2 U3:Pc→List Pc} (S:St b0 w0 P D w G) {t:TypeId} (ht:Pg.underlying t = some (.slice e)) {z:Value} {bytes:Nat} {s x:Operand}
    (hinfo:(Pg.info? e).map (fun i=>(i.zero,i.size,i.bytes)) = some (some z,(Kd.slice e' d').sz,bytes)) [hG1:HasRow G A n c at_ e xs i1 U1] [hG2:HasRow G A2 n2 c2 at2 e' ys i2 U2] [hn:NeC i1 i2] [hG3:HasRow (U2 p0_) A n c at_ e xs i1 U3]
    (h:∀ A' c' w1,St b0 w0 P D w1 (U3 (row at_ e A' (xs ++ [ys]).length c' (xs ++ [ys])))→K (a.put (some N) (.slice A' (xs ++ [ys]).length c')) w1)
    (hgd:o.guard = none:=by with_reducible rfl) (hd:o.dst = some N:=by with_reducible rfl) (ho:o.op = .call { callee:=.builtin .append,args:=#[s,x],argTypes:=#[t,t] }:=by with_reducible rfl)
    (hs:a.eval s = .slice A n c:=by rfl) (hx:a.eval x = .slice (some ⟨w.heap.size,0,none⟩) 1 1:=by rfl) (hz:z.cells.size = 1:=by rfl) (hb0:0 < bytes:=by decide) (hl:(xs.length + 1) * bytes ≤ 140737488355328:=by omega):Oper.wp Pg o a (w.alloc (.cells #[.slice A2 n2 c2] e)) K Q:=by
  have hw:=wanted_none (o:=o) (a:=a) #[] hgd
  obtain ⟨f,hf,hD⟩:=S.all
  have hne:=hn.out
  obtain ⟨f2,hf2⟩:∃ f2:Nat→Nat,f2 = fun k=>if f k = i2 then i1 else f k:=⟨_,rfl⟩
  have own2:∀ (j:Nat) (p:Pc),(U2 p0_)[j]? = some p→p.A w b0.heap.size (fun k=>f2 k = j∧(P k∨w0.heap.size ≤ k)):=by
    intro j p hj
    rw [hG2.set] at hj
    by_cases e:j = i2
    · subst e
      rw [List.getElem?_set_self (List.getElem?_eq_some_iff.1 hG2.out).1] at hj
      injection hj with hj
      subst hj
      trivial
    · rw [List.getElem?_set_ne (Ne.symm e)] at hj
      refine p.mono (fun k hk=>⟨?_,hk.2⟩) (hf j p hj)
      rw [hf2,← hk.1]
      exact if_neg (fun h=>e (hk.1.symm.trans h))
  have hi2:i2 < G.length:=(List.getElem?_eq_some_iff.1 hG2.out).1
  have hD2:∀ q,q ∈ D→Ft q w (Zn w0 P f2 (U2 p0_).length):=fun q hq=>(hD q hq).step (Nat.le_refl _) (fun _ _ _=>rfl) (fun k hz hlt=>hz.imp id (fun h=>⟨h.1,by
    rw [hG2.set,List.length_set,hf2]
    show _ ≤ (if f k = i2 then i1 else f k)
    rw [if_neg (by omega)]
    exact h.2⟩))
  have S2:St b0 w0 P D w (U2 p0_):=⟨S.below,S.kept,f2,own2,hD2⟩
  have H1:=hf i1 _ hG1.out
  have H2:=hf i2 _ hG2.out
  have HO:=own2 i1 _ hG3.out
  have hle:w0.heap.size ≤ w.heap.size:=S.kept.1
  have:=Kd.R_append_step (P:=Pg) (ops:=#[]) (Q:=Q) (Kc:=K) (w0:=b0) (Kd.slice e' d') b0.heap.size hw s x t e z bytes ho ht hinfo hz (Nat.le_refl 1) hb0 (.slice A n c) xs ys [.slice A2 n2 c2] (fun k=>(f2 k = i1∧(P k∨w0.heap.size ≤ k))∨w.heap.size ≤ k) (fun k=>f k = i2∧(P k∨w0.heap.size ≤ k)) hs hx ⟨_,rfl,H2⟩
    (fun k hk=>⟨.inl ⟨by rw [hf2];exact if_pos hk.1,hk.2⟩,fun h=>hne ((H1.1 k h.symm).1.symm.trans hk.1)⟩) (fun k hk=>.inr hk) (Kd.R_mono HO (fun k hk=>.inl hk)) S.below S.below.size hl
    (fun v1 w1 ho hb hg hat=>by
      obtain ⟨A',c',rfl⟩:=Kd.R_slice ho
      rw [hd]
      refine h A' c' w1 (hG3.set _ ▸ S2.updf f2 own2 hD2 i1 hG3.out hg (fun k hk=>⟨HO.1 k hk,?_⟩) ho)
      obtain ⟨_,_,hown,_⟩:=HO
      exact own_base hown k hk)
  rwa [if_pos hw] at this
end

def bcell (a:Addr) (v:Value) (w:World):Prop:=w.cell? a = some v
instance {w:World} {D:List (World→Prop)} {a:Addr} {v:Value} {p:Prop} [h:Fy D w p]:Fy (bcell a v :: D) w (w.cell? a = some v∧p):=⟨fun k=>⟨k.1,h.out k.2⟩⟩
section
variable {b0 w0 w:World} {P:Nat→Prop} {D:List (World→Prop)} {G:List Pc} {q:World→Prop} {α:Type} {d:Kd α}
theorem St.ad (S:St b0 w0 P D w G) (h:∀ W,Kept w0 W P→q W):St b0 w0 P (q :: D) w G:=by
  obtain ⟨f,hf,hD⟩:=S.all
  refine ⟨S.below,S.kept,f,hf,fun p hp=>(List.mem_cons.1 hp).elim (fun e=>?_) (hD p)⟩
  subst e
  exact fun W hs hW=>h W ⟨Nat.le_trans S.kept.1 hs,fun k hk hP=>(hW k (.inl ⟨hk,hP⟩) (Nat.lt_of_lt_of_le hk S.kept.1)).trans (S.kept.2 k hk hP)⟩
theorem St.dr (S:St b0 w0 P D w G) {q0:World→Prop} (h0:q0 ∈ D) (h:∀ z,Ft q0 w z→Ft q w z):St b0 w0 P (q :: D) w G:=by
  obtain ⟨f,hf,hD⟩:=S.all
  exact ⟨S.below,S.kept,f,hf,fun p hp=>(List.mem_cons.1 hp).elim (fun e=>by subst e;exact h _ (hD q0 h0)) (hD p)⟩
theorem Ft.mono {z z':Nat→Prop} (h:Ft q w z) (hz:∀ k,z k→z' k):Ft q w z':=fun W hs hW=>h W hs (fun k hk hlt=>hW k (hz k hk) hlt)
theorem zblk {z:Nat→Prop} (h:Ft q w z) {k:Nat} (hk:k < w.heap.size) (hc:∀ W,q W→W.heap[k]? ≠ some (.deferred none)):z k:=by
  refine Classical.byContradiction fun hz=>?_
  refine hc { w with heap:=w.heap.setIfInBounds k (.deferred none) } (h _ (by simp) (fun j hj hlt=>?_)) (by simp [hk])
  have:k ≠ j:=fun e=>hz (e ▸ hj)
  simp [Array.getElem?_setIfInBounds,this]
theorem add_block (a:Addr) (n:Nat):(a.add n).block = a.block:=by
  unfold Addr.add
  split <;> rfl
theorem add_add (a:Addr) (m n:Nat):(a.add m).add n = a.add (m + n):=by
  unfold Addr.add
  by_cases hm:m = 0 <;> by_cases hn:n = 0 <;> simp [hm,hn,Nat.add_assoc]
class HasBor (D:List (World→Prop)) {α:Type} {d:outParam (Kd α)} (at_:outParam (At d)) (xs:List α) (A:outParam (Option Addr)) (c:outParam Nat):Prop where out:bor at_ A c xs ∈ D
instance {α:Type} {d:Kd α} {at_:At d} {xs:List α} {A:Option Addr} {c:Nat} {D:List (World→Prop)}:HasBor (bor at_ A c xs :: D) at_ xs A c:=⟨List.mem_cons_self⟩
instance (priority:=low) {α:Type} {d:Kd α} {at_:At d} {xs:List α} {A:Option Addr} {c:Nat} {q:World→Prop} {D:List (World→Prop)} [h:HasBor D at_ xs A c]:HasBor (q :: D) at_ xs A c:=⟨List.mem_cons_of_mem _ h.out⟩
theorem cell_cells {W:World} {a:Addr} {v:Value} (h:W.cell? a = some v):W.heap[a.block]? ≠ some (.deferred none):=fun e=>by
  unfold World.cell? at h
  rw [e] at h
  cases h
theorem cell_blk {W w:World} {a:Addr} (h:W.heap[a.block]? = w.heap[a.block]?):W.cell? a = w.cell? a:=by
  unfold World.cell?
  rw [h]
theorem ft_block {at_:At d} {A:Option Addr} {c:Nat} {xs:List α} {z:Nat→Prop} {ad:Addr} (hs:0 < d.sz) (h:Ft (bor at_ A c xs) w z) (hA:A = some ad) (hx:0 < xs.length):z ad.block:=by
  have hc:∀ W,bor at_ A c xs W→∃ v,W.cell? ad = some v:=fun W hW=>by
    cases xs with
    | nil=>simp at hx
    | cons x r =>
      obtain ⟨ad',cs,e,hl,_,hcell⟩:=Kd.C_get hW.2.2.2 x 0 (by omega) (by simp)
      rw [hA] at e
      injection e with e
      subst e
      have:=hcell 0 cs[0] (List.getElem?_eq_getElem (by omega))
      simp only [Int.toNat_zero,Nat.zero_mul,Nat.add_zero] at this
      exact ⟨_,by rw [← this];simp [Addr.add]⟩
  obtain ⟨v,hv⟩:=hc w h.now
  exact zblk h (World.block_lt_of_cell? w _ hv) (fun W hW=>by obtain ⟨v,hv⟩:=hc W hW;exact cell_cells hv)
def bel (d:Kd α) (x:α) (a:Addr) (cs:List Value) (W:World):Prop:=d.K W x cs∧∀ j u,cs[j]? = some u→W.cell? (a.add j) = some u
theorem ft_el {at_:At d} {A:Option Addr} {c:Nat} {xs:List α} {z:Nat→Prop} (hs:0 < d.sz) (h:Ft (bor at_ A c xs) w z) (z0:α) (i:Int) (h0:0 ≤ i) (h1:i < xs.length):∃ cs,cs.length = d.sz∧Ft (bel d (xs.getD i.toNat z0) ((adr A).add (i.toNat * d.sz)) cs) w z:=by
  obtain ⟨ad,cs,hA,hl,hK,hcell⟩:=Kd.C_get h.now.2.2.2 z0 i h0 h1
  have hzb:=ft_block hs h hA (by omega)
  have hlt:ad.block < w.heap.size:=by
    have:=hcell 0 cs[0] (List.getElem?_eq_getElem (by omega))
    have:=World.block_lt_of_cell? w _ this
    rwa [add_block] at this
  refine ⟨cs,hl,fun W hs hW=>?_⟩
  have hb:=hW _ hzb hlt
  obtain ⟨ad',cs',hA',hl',hK',hcell'⟩:=Kd.C_get (h W hs hW).2.2.2 z0 i h0 h1
  rw [hA] at hA'
  injection hA' with e
  subst e
  have ecs:cs' = cs:=by
    apply List.ext_getElem?
    intro j
    by_cases hj:j < d.sz
    · have a1:=hcell j cs[j] (List.getElem?_eq_getElem (by omega))
      have a2:=hcell' j cs'[j] (List.getElem?_eq_getElem (by omega))
      rw [cell_blk (show W.heap[(ad.add (i.toNat * d.sz + j)).block]? = w.heap[(ad.add (i.toNat * d.sz + j)).block]? by rw [add_block];exact hb),a1] at a2
      rw [List.getElem?_eq_getElem (by omega),List.getElem?_eq_getElem (by omega)]
      exact a2.symm
    · rw [List.getElem?_eq_none (by omega),List.getElem?_eq_none (by omega)]
  subst ecs
  refine ⟨hK',fun j u hu=>?_⟩
  rw [hA]
  have:=hcell' j u hu
  rw [show adr (some ad) = ad from rfl,add_add]
  exact this
theorem St.rf {b0:World} {A:Option Addr} {n c i e:Nat} {at_:At d} {xs:List α} {U:Pc→List Pc} (S:St b0 w0 P D w G) (A_:Option Addr) (hA_:A_ = A) [hG:HasRow G A n c at_ e xs i U]:at_.F w A xs:=by
  obtain ⟨f,hf⟩:=S.own
  exact ((row at_ e A n c xs).facts (hf i _ hG.out)).2.2.2.1
theorem St.fzr {A:Option Addr} {n c i e:Nat} {at_:At d} {xs:List α} {U:Pc→List Pc} (S:St w0 w0 P D w G) (A_:Option Addr) (hA_:A_ = A) [hG:HasRow G A n c at_ e xs i U]:St w0 w0 P (Sl.bor at_ A c xs :: D) w (U p0_):=by
  obtain ⟨f,hf,hD⟩:=S.all
  have hi:i < G.length:=(List.getElem?_eq_some_iff.1 hG.out).1
  have hlen:(U p0_).length = G.length:=by rw [hG.set,List.length_set]
  have HO:=hf i _ hG.out
  obtain ⟨f1,hf1⟩:∃ f1:Nat→Nat,f1 = fun k=>if f k = i then G.length else f k:=⟨_,rfl⟩
  refine ⟨S.below,S.kept,f1,fun j p hj=>?_,fun q hq=>?_⟩
  · rw [hG.set] at hj
    by_cases ej:j = i
    · subst ej
      rw [List.getElem?_set_self hi] at hj
      injection hj with hj
      subst hj
      trivial
    · rw [List.getElem?_set_ne (Ne.symm ej)] at hj
      refine p.mono (fun k hk=>⟨?_,hk.2⟩) (hf j p hj)
      rw [hf1,← hk.1]
      exact if_neg (fun h=>ej (hk.1.symm.trans h))
  · rcases List.mem_cons.1 hq with rfl | hq
    · intro W hs hW
      have h2:=Kd.R_reads' (Kd.R_move (Kd.R_bound HO) (w1:=W) (fun k hk=>hW k (.inr ⟨hk.2.1,by rw [hlen,hf1];show _ ≤ (if f k = i then _ else _);rw [if_pos hk.1.1];exact Nat.le_refl _⟩) hk.2.2.1))
      exact bor_C at_ h2.2.2 (by have:=h2.1;have:=h2.2.1;omega)
    · refine (hD q hq).step (Nat.le_refl _) (fun _ _ _=>rfl) (fun k hz hlt=>hz.imp id (fun h=>⟨h.1,?_⟩))
      rw [hlen,hf1]
      show _ ≤ (if f k = i then _ else _)
      rw [if_neg (by omega)]
      exact h.2
theorem St.fzrg {b0:World} {g t j:Nat} {cs:List Value} {V:Pc→List Pc} {A:Option Addr} {n c i e:Nat} {at_:At d} {xs:List α} {U:Pc→List Pc} (S:St b0 w0 (fun k=>k = g) D w G) (A_:Option Addr) (hA_:A_ = A) [hG:HasRow G A n c at_ e xs i U] [hX:HasBox G g t cs j V] (hne:(i == j) = false:=by rfl):St b0 w0 (fun k=>k = g) (Sl.bor at_ A c xs :: D) w (U p0_):=by
  obtain ⟨f,hf,hD⟩:=S.all
  have hi:i < G.length:=(List.getElem?_eq_some_iff.1 hG.out).1
  have hlen:(U p0_).length = G.length:=by rw [hG.set,List.length_set]
  have HO:=hf i _ hG.out
  have hg:f g = j:=(hf j _ hX.out).1.1
  have hij:i ≠ j:=by simpa using hne
  obtain ⟨f1,hf1⟩:∃ f1:Nat→Nat,f1 = fun k=>if f k = i then G.length else f k:=⟨_,rfl⟩
  refine ⟨S.below,S.kept,f1,fun j p hj=>?_,fun q hq=>?_⟩
  · rw [hG.set] at hj
    by_cases ej:j = i
    · subst ej
      rw [List.getElem?_set_self hi] at hj
      injection hj with hj
      subst hj
      trivial
    · rw [List.getElem?_set_ne (Ne.symm ej)] at hj
      refine p.mono (fun k hk=>⟨?_,hk.2⟩) (hf j p hj)
      rw [hf1,← hk.1]
      exact if_neg (fun h=>ej (hk.1.symm.trans h))
  · rcases List.mem_cons.1 hq with rfl | hq
    · intro W hs hW
      have h2:=Kd.R_reads' (Kd.R_move (Kd.R_bound HO) (w1:=W) (fun k hk=>hW k (.inr ⟨hk.1.2.resolve_left (fun e_=>hij (by rw [← hk.1.1,e_,hg])),by rw [hlen,hf1];show _ ≤ (if f k = i then _ else _);rw [if_pos hk.1.1];exact Nat.le_refl _⟩) hk.2.2.1))
      exact bor_C at_ h2.2.2 (by have:=h2.1;have:=h2.2.1;omega)
    · refine (hD q hq).step (Nat.le_refl _) (fun _ _ _=>rfl) (fun k hz hlt=>hz.imp id (fun h=>⟨h.1,?_⟩))
      rw [hlen,hf1]
      show _ ≤ (if f k = i then _ else _)
      rw [if_neg (by omega)]
      exact h.2
end

section
def atZ (k:IntKind):At (Kd.int k) where
  F w A xs:=(∀ i:Int,0 ≤ i→i < xs.length→w.cell? ((adr A).add i.toNat) = some (.int k (rd xs i)))∧(0 < xs.length→w.cell? (adr A) = some (.int k (rd xs 0))∧w.cell? ((adr A).add 0) = some (.int k (rd xs 0)))
  h hC:=by
    have h:=(atI k).h hC
    refine ⟨h,fun h0=>?_⟩
    have h1:=h 0 (by omega) (by omega)
    refine ⟨?_,h1⟩
    rw [show ((0:Int)).toNat = 0 from rfl,Addr.add_zero'] at h1
    exact h1
instance {k:IntKind} {w:World} {A:Option Addr} {xs:List Int}:AtF (atZ k) w A xs ((∀ i:Int,0 ≤ i→i < xs.length→w.cell? ((adr A).add i.toNat) = some (.int k (rd xs i)))∧(0 < xs.length→w.cell? (adr A) = some (.int k (rd xs 0))∧w.cell? ((adr A).add 0) = some (.int k (rd xs 0)))):=⟨id⟩
end
class Nd (D:List (World→Prop)) (i:Nat) (q:outParam (World→Prop)):Prop where out:q ∈ D
instance {D:List (World→Prop)} {q:World→Prop}:Nd (q :: D) 0 q:=⟨List.mem_cons_self⟩
instance {D:List (World→Prop)} {q r:World→Prop} {i:Nat} [h:Nd D i q]:Nd (r :: D) (i + 1) q:=⟨List.mem_cons_of_mem _ h.out⟩
class Dk (l:List Nat) (D:List (World→Prop)) (D':outParam (List (World→Prop))):Prop where out:∀ q,q ∈ D'→q ∈ D
instance {D:List (World→Prop)}:Dk [] D []:=⟨fun _ h=>by cases h⟩
instance {D D':List (World→Prop)} {i:Nat} {q:World→Prop} {l:List Nat} [h:Nd D i q] [k:Dk l D D']:Dk (i :: l) D (q :: D'):=⟨fun p hp=>(List.mem_cons.1 hp).elim (fun e=>e ▸ h.out) (k.out p)⟩
section
variable {b0 w0 w w1:World} {P:Nat→Prop} {D D':List (World→Prop)} {G:List Pc} {q:World→Prop} {α:Type} {d:Kd α}
theorem St.dk (S:St b0 w0 P D w G) (l:List Nat) [h:Dk l D D']:St b0 w0 P D' w G:=⟨S.below,S.kept,S.all.imp fun _ k=>⟨k.1,fun q hq=>k.2 q (h.out q hq)⟩⟩
theorem St.ex (S:St b0 w0 P D w G) (L:List (World→Prop)) (h:∀ z,(∀ q,q ∈ D→Ft q w z)→∀ q,q ∈ L→Ft q w z):St b0 w0 P (L ++ D) w G:=by
  obtain ⟨f,hf,hD⟩:=S.all
  exact ⟨S.below,S.kept,f,hf,fun q hq=>(List.mem_append.1 hq).elim (h _ hD q) (hD q)⟩
theorem St.el {at0:At d} {A:Option Addr} {c:Nat} (S:St b0 w0 P D w G) (xs:List α) [hB:HasBor D at0 xs A c] (hs:0 < d.sz) (z0:α) (i:Int) (h0:0 ≤ i) (h1:i < xs.length):∃ cs,d.K w (xs.getD i.toNat z0) cs ∧
    ∀ L:List (World→Prop),(∀ q,q ∈ L→∀ W,bel d (xs.getD i.toNat z0) ((adr A).add (i.toNat * d.sz)) cs W→q W)→St b0 w0 P (L ++ D) w G:=by
  obtain ⟨f,hf,hD⟩:=S.all
  obtain ⟨cs,hl,hF⟩:=ft_el hs (hD _ hB.out) z0 i h0 h1
  exact ⟨cs,hF.now.1,fun L hL=>⟨S.below,S.kept,f,hf,fun q hq=>(List.mem_append.1 hq).elim (fun hq W hs hW=>hL q hq W (hF W hs hW)) (hD q)⟩⟩
theorem St.ct {at_:At d} {A:Option Addr} {c:Nat} (S:St b0 w0 P D w G) (xs:List α) [hB:HasBor D at_ xs A c] (m:Nat) (hm:m ≤ xs.length) (y:List α) (hy:y = xs.take m):St b0 w0 P (Sl.bor at_ A c y :: D) w G :=
  S.dr hB.out (fun z h W hs hW=>by
    have h2:=h W hs hW
    subst hy
    exact bor_C at_ (Kd.C_take h2.2.2.2 hm) (by rw [List.length_take];have:=h2.2.1;omega))
def Vr (d:Kd α) (w:World) (Z:Nat→Prop) (A:Option Addr) (c:Nat) (xs:List α):Prop:=xs.length ≤ c∧Ft (fun W=>d.C W A xs.length xs) w Z
theorem Vr.bor {Z:Nat→Prop} {A:Option Addr} {c:Nat} {xs:List α} (h:Vr d w Z A c xs) (at_:At d):Ft (Sl.bor at_ A c xs) w Z:=fun W hs hW=>bor_C at_ (h.2 W hs hW) h.1
theorem St.v {Z:Nat→Prop} {at_:At d} {A:Option Addr} {c:Nat} {xs:List α} (S:St w0 w0 (fun k=>¬ Z k) D w G) [h:HasBor D at_ xs A c]:Vr d w (fun k=>Z k∨w0.heap.size ≤ k) A c xs:=by
  obtain ⟨f,hf,hD⟩:=S.all
  exact ⟨(hD _ h.out).now.2.1,fun W hs hW=>((hD _ h.out).step (Nat.le_refl _) (fun _ _ _=>rfl) (z1:=fun k=>Z k∨w0.heap.size ≤ k) (fun k hz hlt=>hz.imp (fun h=>Classical.byContradiction h.2) (fun h=>h.1)) W hs hW).2.2.2⟩
structure VL (b0 w0:World) (P:Nat→Prop) (D:List (World→Prop)) (w:World) (G:List Pc) (z:Nat→Prop):Prop where
  ft:∀ q,q ∈ D→Ft q w z
  back:∀ {w1:World} {q:World→Prop},Below w.heap.size w w1→Ft q w1 (fun k=>z k∨w.heap.size ≤ k)→St b0 w0 P (q :: D) w1 G
theorem VL.v {z:Nat→Prop} (k:VL b0 w0 P D w G z) {at_:At d} {A:Option Addr} {c:Nat} {xs:List α} [h:HasBor D at_ xs A c]:Vr d w z A c xs:=⟨(k.ft _ h.out).now.2.1,fun W hs hW=>(k.ft _ h.out W hs hW).2.2.2⟩
end

theorem lv {Pg:Program} {o:Oper} {a:Act} {Q:Exit→Act→World→Prop} {K:Act→World→Prop} {w:World} (N:Nat) {cs:List Value} {e:Nat} (hr:(execOp a.eval o).run Pg w = .ok (.value (.slice (some ⟨w.heap.size,0,none⟩) 1 1)) (w.alloc (.cells cs.toArray e)))
    (h:K (a.put (some N) (.slice (some ⟨w.heap.size,0,none⟩) 1 1)) (w.alloc (.cells cs.toArray e))) (hd:o.dst = some N:=by rfl):Oper.wp Pg o a w K Q:=by
  unfold Oper.wp
  rw [hr,Oper.upon_value,hd]
  exact h
theorem St.al1 {b0 w0 w:World} {P:Nat→Prop} {D:List (World→Prop)} {G:List Pc} (S:St b0 w0 P D w G) (o:Obj):St b0 w0 P D (w.alloc o) G:=S.go (below_alloc (Below.refl _ _) o)

theorem vc {w:World} {Z:Nat→Prop} {D:List (World→Prop)} {α:Type} {d:Kd α} (at_:At d) {A:Option Addr} {c:Nat} {xs:List α} (h:Vr d w Z A c xs) (k:∀ q,q ∈ D→Ft q w Z):∀ q,q ∈ bor at_ A c xs :: D→Ft q w Z:=fun q hq=>(List.mem_cons.1 hq).elim (fun e=>e ▸ h.bor at_) (k q)
section
variable {b0 w0 w w1:World} {P P1 P2 P3:Nat→Prop} {D:List (World→Prop)} {G:List Pc} {α β γ:Type} {d:Kd α} {d2:Kd β} {d3:Kd γ}
open Classical in
structure Lent3 (b0 w0:World) (P:Nat→Prop) (D:List (World→Prop)) (w:World) (G:List Pc) (i j l:Nat) (at_:At d) (at2:At d2) (at3:At d3) (e n c e2 n2 c2 e3 n3 c3:Nat) (A A2 A3:Option Addr) (xs:List α) (ys:List β) (zs:List γ) (o1 o2 o3:Nat→Prop):Prop where
  below:Below b0.heap.size b0 w
  r1:d.R e w b0.heap.size o1 (.slice A n c) xs
  r2:d2.R e2 w b0.heap.size o2 (.slice A2 n2 c2) ys
  r3:d3.R e3 w b0.heap.size o3 (.slice A3 n3 c3) zs
  hp:∀ k,o2 k→¬ o3 k
  hq:∀ k,o3 k→¬ o2 k
  back:∀ {w1:World} {xs':List α} {ys':List β} {zs':List γ} {z1 z2 z3:Nat→Prop},d.R e w1 b0.heap.size z1 (.slice A n c) xs'→d2.R e2 w1 b0.heap.size z2 (.slice A2 n2 c2) ys'→d3.R e3 w1 b0.heap.size z3 (.slice A3 n3 c3) zs'→Below b0.heap.size b0 w1→Kept w w1 (fun k=>o1 k∨o2 k∨o3 k) →
    St b0 w0 P D w1 (((G.set i (row at_ e A n c xs')).set j (row at2 e2 A2 n2 c2 ys')).set l (row at3 e3 A3 n3 c3 zs'))
end

class Ms (l:List Nat) (G:List Pc) (G':outParam (List Pc)):Prop where out:∀ (pre:List Pc) {b0 w0 w:World} {P:Nat→Prop} {D:List (World→Prop)},St b0 w0 P D w (pre ++ G)→St b0 w0 P D w (pre ++ G')
instance {G:List Pc}:Ms [] G G:=⟨fun _ _ _ _ _ _ S=>S⟩
instance {G G':List Pc} {p:Pc} {l:List Nat} [h:Ms l G G']:Ms (0 :: l) (p :: G) G':=⟨fun pre _ _ _ _ _ S=>h.out pre (by
  have:=S.rm pre.length
  rwa [List.eraseIdx_append_of_length_le (Nat.le_refl _),Nat.sub_self] at this)⟩
instance {G G':List Pc} {p:Pc} {l:List Nat} [h:Ms l G G']:Ms (1 :: l) (p :: G) (p :: G'):=⟨fun pre _ _ _ _ _ S=>by
  have:=h.out (pre ++ [p]) (by simpa using S)
  simpa using this⟩
theorem St.ms {b0 w0 w:World} {P:Nat→Prop} {D:List (World→Prop)} {G G':List Pc} (S:St b0 w0 P D w G) (l:List Nat) [h:Ms l G G']:St b0 w0 P D w G':=h.out [] S

theorem St.nx {b0 w0 w:World} {P:Nat→Prop} {D:List (World→Prop)} {L G:List Pc} (S:St b0 w0 P D w L) (X:List Pc) [h:Spl L X G]:St b0 w0 P D w G:=by
  obtain ⟨f,hf,hD⟩:=S.all
  rw [h.out] at hf hD
  refine ⟨S.below,S.kept,fun k=>if f k < G.length then f k else G.length,fun i p hi=>?_,fun q hq=>(hD q hq).step (Nat.le_refl _) (fun _ _ _=>rfl) (fun k hz hlt=>hz.imp id (fun h=>⟨h.1,?_⟩))⟩
  · have hlt:i < G.length:=(List.getElem?_eq_some_iff.1 hi).1
    refine p.mono (fun k hk=>⟨?_,hk.2⟩) (hf i p (by rw [List.getElem?_append_left hlt];exact hi))
    show (if f k < G.length then f k else G.length) = i
    rw [hk.1,if_pos hlt]
  · show _ ≤ (if f k < G.length then f k else G.length)
    rw [List.length_append] at h
    rw [if_neg (by omega)]
    exact Nat.le_refl _

section
variable {b0 w0 w w1:World} {P:Nat→Prop} {D:List (World→Prop)} {G:List Pc} {α:Type} {d:Kd α} {g t i:Nat} {cs:List Value} {U:Pc→List Pc}
theorem St.hge (S:St b0 w0 P D w G) (g:Nat) [hG:HasBox G g t cs i U]:b0.heap.size ≤ g:=by
  obtain ⟨f,hf⟩:=S.own
  exact (hf i _ hG.out).2.1
theorem St.boxed (hB:Below b0.heap.size b0 w) (hg:b0.heap.size ≤ g) (h:w.heap[g]? = some (.cells cs.toArray t (0,0))) (hD:Dok w (fun k=>k = g) D):St b0 w (fun k=>k = g) D w [box g t cs] :=
  ⟨hB,Kept.refl _ _,fun _=>0,(fun i p hi=>by
    cases i with
    | zero=>injection hi with hi;subst hi;exact ⟨⟨rfl,.inl rfl⟩,hg,h⟩
    | succ i=>cases hi),dft hD⟩
theorem dg {A:Option Addr} {xs:List α} (hd:Kd.Heap d) (at_:At d) (h:d.C b0 A xs.length xs) (hB:Below b0.heap.size b0 w) (hg:b0.heap.size ≤ g) (k:Dok w (fun k=>k = g) D):Dok w (fun k=>k = g) (bor at_ A xs.length xs :: D):=fun q hq W hk=>by
  rcases List.mem_cons.1 hq with rfl | hq
  · exact bor_C at_ (hd.C (fun k hlt=>(hk.2 k (Nat.lt_of_lt_of_le hlt hB.size) (by omega)).trans (hB.block k hlt)) h) (Nat.le_refl _)
  · exact k q hq W hk
theorem St.mid (S:St b0 w0 P D w G) (g:Nat) [hG:HasBox G g t cs i U] {cs':List Value} (hi:w1.heap[g]? = some (.cells cs'.toArray t (0,0))) (hb:Below b0.heap.size b0 w1) (hk:Kept w w1 (fun k=>k = g)) :
    ∃ W,W.heap.size = w.heap.size∧Below W.heap.size W w1∧St b0 w0 P D W (U (box g t cs')):=by
  obtain ⟨f,hf,hD⟩:=S.all
  have HO:=hf i _ hG.out
  have hgl:g < w.heap.size:=blk_lt HO.2.2
  have hil:i < G.length:=(List.getElem?_eq_some_iff.1 hG.out).1
  have key:∀ k,k < w.heap.size→(w.heap.setIfInBounds g (.cells cs'.toArray t (0,0)))[k]? = w1.heap[k]?:=fun k hlt=>by
    by_cases e:k = g
    · subst e
      rw [hi]
      simp [hlt]
    · rw [hk.2 k hlt e]
      simp [Array.getElem?_setIfInBounds,Ne.symm e]
  have far:∀ k,k ≠ g→(w.heap.setIfInBounds g (.cells cs'.toArray t (0,0)))[k]? = w.heap[k]?:=fun k e=>by simp [Array.getElem?_setIfInBounds,Ne.symm e]
  obtain ⟨W,hW⟩:∃ W:World,W = { w1 with heap:=w.heap.setIfInBounds g (.cells cs'.toArray t (0,0)) }:=⟨_,rfl⟩
  have hh:W.heap = w.heap.setIfInBounds g (.cells cs'.toArray t (0,0)):=by rw [hW]
  have hs:W.heap.size = w.heap.size:=by rw [hh];simp
  have hwle:w0.heap.size ≤ w.heap.size:=S.kept.1
  have hzn:∀ k,Zn w0 P f G.length k→k ≠ g:=fun k hz e=>by
    subst e
    rcases hz with hz | hz
    · exact HO.1.2.elim hz.2 (fun h=>by omega)
    · have:=HO.1.1;omega
  refine ⟨W,hs,?_,?_,?_,f,fun j p hj=>?_,fun q hq=>(hD q hq).step (by omega) (fun k hz hlt=>by rw [hh];exact far k (hzn k hz)) (fun k hz _=>by rw [hG.set,List.length_set];exact hz)⟩
  · refine ⟨by rw [hW],by rw [hW],by rw [hW],by rw [hs];exact hk.1,fun k hlt=>?_⟩
    rw [hh]
    exact (key k (by omega)).symm
  · refine ⟨by rw [hW];exact hb.os,by rw [hW];exact hb.tape,by rw [hW];exact hb.output,by rw [hs];exact S.below.size,fun k hlt=>?_⟩
    rw [hh,far k (fun e=>by have:=HO.2.1;omega)]
    exact S.below.block k hlt
  · refine ⟨by omega,fun k hlt hP=>?_⟩
    rw [hh]
    by_cases e:k = g
    · subst e
      exact (HO.1.2.elim (fun h=>hP h) (fun h=>by omega)).elim
    · rw [far k e]
      exact S.kept.2 k hlt hP
  · rw [hG.set] at hj
    by_cases e:j = i
    · subst e
      rw [List.getElem?_set_self hil] at hj
      injection hj with hj
      subst hj
      exact ⟨HO.1,HO.2.1,by rw [hh];simp [hgl]⟩
    · rw [List.getElem?_set_ne (Ne.symm e)] at hj
      refine p.step (hf j p hj) (fun k hk2 hlt=>?_)
      rw [hh]
      exact far k (fun h=>e (hk2.1.symm.trans (by subst h;exact HO.1.1)))
theorem R_up [hkm:KM d] {e base base':Nat} {ok:Nat→Prop} {v:Value} {xs:List α} (h:d.R e w base ok v xs) (hb:∀ k,v.ownBlock = some k→base' ≤ k) (hE:d.E = []:=by rfl):d.R e w base' (fun _=>True) v xs:=by
  obtain ⟨h0,inner,ho,hr⟩:=h
  exact ⟨fun _ _=>trivial,inner,Kd.own_raise ho hb,hr.imp_ (fun x c hp=>d.M_mono (fun _ h=>h.elim) (hkm.out w x c (d.K_of_M hp) w base'))⟩
theorem St.ru [hkm:KM d] {A:Option Addr} {n c e j:Nat} {at_:At d} {xs:List α} {U2:Pc→List Pc} (S:St b0 w0 (fun k=>k = g) D w G) [hB:HasBox G g t cs i U] [hR:HasRow G A n c at_ e xs j U2] [hn:NeC j i] (hE:d.E = []:=by rfl):d.R e w w0.heap.size (fun _=>True) (.slice A n c) xs:=by
  obtain ⟨f,hf⟩:=S.own
  have hb:=hf i _ hB.out
  have hr:=hf j _ hR.out
  refine R_up hr (fun k hk=>?_) hE
  have h1:=hr.1 k hk
  exact h1.2.elim (fun e=>absurd (h1.1.symm.trans (by rw [e];exact hb.1.1)) hn.out) id
theorem R_upn [hkm:KM d] {e base base':Nat} {ok ok':Nat→Prop} {v:Value} {xs:List α} (h:d.R e w base ok v xs) (hb:∀ k,v.ownBlock = some k→base' ≤ k) (hk:∀ k,v.ownBlock = some k→ok' k) (hE:d.E = []:=by rfl):d.R e w base' ok' v xs:=by
  obtain ⟨h0,inner,ho,hr⟩:=h
  exact ⟨hk,inner,Kd.own_raise ho hb,hr.imp_ (fun x c hp=>d.M_mono (fun _ h=>h.elim) (hkm.out w x c (d.K_of_M hp) w base'))⟩
theorem St.run {β:Type} {d':Kd β} [hkm:KM d] {A A':Option Addr} {n c e j n' c' e' j':Nat} {at_:At d} {at':At d'} {xs:List α} {ys:List β} {U2 U3:Pc→List Pc} (S:St b0 w0 (fun k=>k = g) D w G) [hB:HasBox G g t cs i U] [hR:HasRow G A n c at_ e xs j U2] [hR':HasRow G A' n' c' at' e' ys j' U3] [hn:NeC j i] [hm:NeC j j'] (hE:d.E = []:=by rfl):d.R e w w0.heap.size (fun k=>some k ≠ (Value.slice A' n' c').ownBlock) (.slice A n c) xs:=by
  obtain ⟨f,hf⟩:=S.own
  have hb:=hf i _ hB.out
  have hr:=hf j _ hR.out
  refine R_upn hr (fun k hk=>?_) (fun k hk h=>hm.out ((hr.1 k hk).1.symm.trans ((hf j' _ hR'.out).1 k h.symm).1)) hE
  have h1:=hr.1 k hk
  exact h1.2.elim (fun e=>absurd (h1.1.symm.trans (by rw [e];exact hb.1.1)) hn.out) id
theorem St.cg {β:Type} {d':Kd β} (S:St b0 w0 P D w G) [hG:HasBox G g t cs i U] {ys:List β} {A':Option Addr} {c':Nat} [h:RdL D G i d' ys A' c']:∀ W,Kept w W (fun k=>k = g)→d'.C W A' ys.length ys:=fun W hW=>by
  obtain ⟨f,hf,hD⟩:=S.all
  have HO:=hf i _ hG.out
  have hil:i < G.length:=(List.getElem?_eq_some_iff.1 hG.out).1
  have hwle:w0.heap.size ≤ w.heap.size:=S.kept.1
  have hzn:∀ k,Zn w0 P f G.length k→¬ k = g:=fun k hz e=>by
    subst e
    rcases hz with hz | hz
    · exact HO.1.2.elim hz.2 (fun h=>by omega)
    · have:=HO.1.1;omega
  exact (h.out W (fb_of fun q hq=>hD q hq W hW.1 (fun k hz hlt=>hW.2 k hlt (hzn k hz))) (fun j p hj hn=>p.facts (p.step (p.bound (hf j p hj)) (fun k hk hlt=>hW.2 k hlt (fun e=>hn (hk.1.1.symm.trans (by rw [e];exact HO.1.1))))))).1
end

theorem okk_Q {α:Type} {d:Kd α} {e:Nat} {w:World} {b:Nat} {ok:Nat→Prop} {A:Option Addr} {n c:Nat} {xs:List α} (h:d.Q e w b ok (.slice A n c) xs):Okk A n:=by
  have h1:=Kd.Q_reads' h
  rw [h1.1]
  exact okk_C h1.2.2
def qrow {α:Type} {d:Kd α} (at_:At d) (e:Nat) (A:Option Addr) (n c:Nat) (xs:List α):Pc where
  A w b ok:=d.Q e w b ok (.slice A n c) xs
  F w:=xs.length = n∧Okk A n∧n ≤ c∧at_.F w A xs∧d.C w A xs.length xs
  facts h:=by
    have h1:=Kd.Q_reads' h
    exact ⟨h1.1.symm,okk_Q h,h1.2.1,at_.h h1.2.2,h1.2.2⟩
  step h hm:=Kd.Q_step h hm
  mono hm h:=Kd.Q_mono h hm
  bound h:=Kd.Q_mono (Kd.Q_bound h) (fun _ hk=>⟨hk.1,hk.2.1,hk.2.2.1⟩)
instance {w:World} {G:List Pc} {α:Type} {d:Kd α} {at_:At d} {e n c:Nat} {A:Option Addr} {xs:List α} {q p:Prop} [hq:AtF at_ w A xs q] [h:Fx G w p]:Fx (qrow at_ e A n c xs :: G) w (xs.length = n∧Okk A n∧n ≤ c∧q∧d.C w A xs.length xs∧p):=⟨fun k=>⟨k.1.1,k.1.2.1,k.1.2.2.1,hq.out k.1.2.2.2.1,k.1.2.2.2.2,h.out k.2⟩⟩
instance {G:List Pc} {α:Type} {d:Kd α} {at_:At d} {e n c:Nat} {A:Option Addr} {xs:List α}:RdG (qrow at_ e A n c xs :: G) d xs A c:=⟨fun w h=>⟨h.1.2.2.2.2,by have:=h.1.1;have:=h.1.2.2.1;omega⟩⟩
instance {G:List Pc} {i:Nat} {α:Type} {d:Kd α} {at_:At d} {e n c:Nat} {A:Option Addr} {xs:List α}:RdK (qrow at_ e A n c xs :: G) (i + 1) d xs A c:=⟨fun w h=>by
  have h:=h 0 _ rfl (by omega)
  exact ⟨h.2.2.2.2,by have:=h.1;have:=h.2.2.1;omega⟩⟩
class HasQ (G:List Pc) (A:Option Addr) (n c:outParam Nat) {α:outParam Type} {d:outParam (Kd α)} (at_:outParam (At d)) (e:outParam Nat) (xs:outParam (List α)) (i:outParam Nat) (U:outParam (Pc→List Pc)):Prop where
  out:G[i]? = some (qrow at_ e A n c xs)
  set:∀ p,U p = G.set i p
section
variable {b0 w0 w w1:World} {P:Nat→Prop} {D:List (World→Prop)} {G:List Pc} {α:Type} {d:Kd α}
instance {A:Option Addr} {n c:Nat} {at_:At d} {e:Nat} {xs:List α}:HasQ (qrow at_ e A n c xs :: G) A n c at_ e xs 0 (fun p=>p :: G):=⟨rfl,fun _=>rfl⟩
instance {p:Pc} {A:Option Addr} {n c:Nat} {at_:At d} {e:Nat} {xs:List α} {i:Nat} {U:Pc→List Pc} [h:HasQ G A n c at_ e xs i U]:HasQ (p :: G) A n c at_ e xs (i + 1) (fun q=>p :: U q):=⟨h.out,fun q=>congrArg _ (h.set q)⟩
theorem St.tq (S:St b0 w0 P D w G) (A:Option Addr) {n c:Nat} {at_:At d} {e:Nat} {xs:List α} {i:Nat} {U:Pc→List Pc} [hG:HasRow G A n c at_ e xs i U]:St b0 w0 P D w (U (qrow at_ e A n c xs)):=by
  obtain ⟨f,hf,hD⟩:=S.all
  exact hG.set _ ▸ S.updf f hf hD i hG.out (gn (Below.refl _ _)) (fun k hk=>by cases hk) (Kd.Q_mono (Kd.Q_of_R (hf i _ hG.out)) (fun k hk=>.inl hk))
theorem St.q {A:Option Addr} {n c:Nat} {at_:At d} {e:Nat} {xs:List α} {i:Nat} {U:Pc→List Pc} (S:St b0 w0 P D w G) [hG:HasQ G A n c at_ e xs i U]:d.Q e w b0.heap.size (fun _=>True) (.slice A n c) xs:=by
  obtain ⟨f,hf⟩:=S.own
  exact Kd.Q_mono (hf i _ hG.out) (fun _ _=>trivial)
theorem St.gotq (S:St b0 w0 P D w G) (at_:At d) {e:Nat} {ok:Nat→Prop} {v:Value} {xs:List α} (hb:Below w.heap.size w w1) (ho:d.Q e w1 w.heap.size ok v xs):∃ A c,v = .slice A xs.length c∧St b0 w0 P D w1 (qrow at_ e A xs.length c xs :: G):=by
  obtain ⟨A,c,rfl,_⟩:=Kd.Q_slice ho
  refine ⟨A,c,rfl,S.new (gn hb) (fun ok hk=>?_)⟩
  exact Kd.Q_mono (Kd.Q_lower (Kd.Q_bound ho) S.below.size) (fun k h=>hk k h.2.1)
theorem Q_up [hkm:KM d] {e base base':Nat} {ok:Nat→Prop} {v:Value} {xs:List α} (h:d.Q e w base ok v xs) (hb:∀ k,v.ownBlock = some k→base' ≤ k):d.Q e w base' (fun _=>True) v xs:=by
  obtain ⟨h0,inner,⟨h1,h2⟩,hr⟩:=h
  refine ⟨fun _ _=>trivial,inner,⟨h1,?_⟩,hr.imp_ (fun x c hp=>d.M_mono (fun _ h=>h.elim) (hkm.out w x c (d.K_of_M hp) w base'))⟩
  rcases h2 with ⟨hz,A,rfl,hA⟩ | ⟨g,off,cap,cur,rfl,hg,r⟩
  · exact .inl ⟨hz,A,rfl,fun a ha=>⟨hb a.block (by subst ha;rfl),(hA a ha).2⟩⟩
  · exact .inr ⟨g,off,cap,cur,rfl,hb g rfl,r⟩
theorem St.qu [hkm:KM d] {g t i:Nat} {cs:List Value} {U:Pc→List Pc} {A:Option Addr} {n c e j:Nat} {at_:At d} {xs:List α} {U2:Pc→List Pc} (S:St b0 w0 (fun k=>k = g) D w G) [hB:HasBox G g t cs i U] [hR:HasQ G A n c at_ e xs j U2] [hn:NeC j i]:d.Q e w w0.heap.size (fun _=>True) (.slice A n c) xs:=by
  obtain ⟨f,hf⟩:=S.own
  have hb:=hf i _ hB.out
  have hr:=hf j _ hR.out
  refine Q_up hr (fun k hk=>?_)
  have h1:=hr.1 k hk
  exact h1.2.elim (fun e=>absurd (h1.1.symm.trans (by rw [e];exact hb.1.1)) hn.out) id
theorem row_ft {e n c:Nat} {A:Option Addr} {at_:At d} {xs:List α} {base:Nat} {ok:Nat→Prop} (h:(row at_ e A n c xs).A w base ok):Ft (Sl.bor at_ A c xs) w (fun k=>base ≤ k):=fun W hs hW=>by
  have h2:=(row at_ e A n c xs).facts ((row at_ e A n c xs).step ((row at_ e A n c xs).bound h) (fun k hk hlt=>hW k hk.2.1 hlt))
  exact bor_C at_ h2.2.2.2.2 (by have:=h2.1;have:=h2.2.2.1;omega)
theorem qrow_ft {e n c:Nat} {A:Option Addr} {at_:At d} {xs:List α} {base:Nat} {ok:Nat→Prop} (h:(qrow at_ e A n c xs).A w base ok):Ft (Sl.bor at_ A c xs) w (fun k=>base ≤ k):=fun W hs hW=>by
  have h2:=(qrow at_ e A n c xs).facts ((qrow at_ e A n c xs).step ((qrow at_ e A n c xs).bound h) (fun k hk hlt=>hW k hk.2.1 hlt))
  exact bor_C at_ h2.2.2.2.2 (by have:=h2.1;have:=h2.2.2.1;omega)
theorem St.frz (S:St b0 w0 P D w G) (hb:Below w.heap.size w w1) (Q:List (World→Prop)) (hQ:∀ q,q ∈ Q→Ft q w1 (fun k=>w.heap.size ≤ k)):St b0 w0 P (Q ++ D) w1 G:=by
  obtain ⟨f,hf,hD⟩:=S.all
  have hle:w0.heap.size ≤ w.heap.size:=S.kept.1
  refine ⟨below_step S.below hb,S.kept.below hb,fun k=>if w.heap.size ≤ k then G.length else f k,fun i p hi=>?_,fun p hp=>?_⟩
  · refine p.mono (fun k hk=>⟨?_,hk.1.2⟩) (p.step (p.bound (hf i p hi)) (fun k hk hlt=>hb.block k hk.2.2))
    show (if w.heap.size ≤ k then _ else f k) = i
    rw [if_neg (by omega)]
    exact hk.1.1
  · rcases List.mem_append.1 hp with hp | hp
    · refine (hQ p hp).step (Nat.le_refl _) (fun _ _ _=>rfl) (fun k hz _=>.inr ⟨Nat.le_trans hle hz,?_⟩)
      show _ ≤ (if w.heap.size ≤ k then _ else f k)
      rw [if_pos hz]
      exact Nat.le_refl _
    · refine (hD p hp).step hb.size (fun k _ hlt=>hb.block k hlt) (fun k hz hlt=>hz.imp id (fun h=>⟨h.1,?_⟩))
      show _ ≤ (if w.heap.size ≤ k then _ else f k)
      rw [if_neg (by omega)]
      exact h.2
theorem St.g4 {β γ δ:Type} {d1:Kd β} {d2:Kd γ} {d3:Kd δ} (S:St b0 w0 P D w G) (at_:At d) (at1:At d1) (at2:At d2) (at3:At d3) {e e1 e2 e3:Nat} {ok ok1 ok2 ok3:Nat→Prop} {v v1 v2 v3:Value} {xs:List α} {ys:List β} {zs:List γ} {us:List δ} (hb:Below w.heap.size w w1) (h0:d.R e w1 w.heap.size ok v xs) (h1:d1.R e1 w1 w.heap.size ok1 v1 ys) (h2:d2.R e2 w1 w.heap.size ok2 v2 zs) (h3:d3.Q e3 w1 w.heap.size ok3 v3 us):∃ A c A1 c1 A2 c2 A3 c3,v = .slice A xs.length c∧v1 = .slice A1 ys.length c1∧v2 = .slice A2 zs.length c2∧v3 = .slice A3 us.length c3∧St b0 w0 P (Sl.bor at3 A3 c3 us :: Sl.bor at2 A2 c2 zs :: Sl.bor at1 A1 c1 ys :: Sl.bor at_ A c xs :: D) w1 G:=by
  obtain ⟨A,c,rfl⟩:=Kd.R_slice h0
  obtain ⟨A1,c1,rfl⟩:=Kd.R_slice h1
  obtain ⟨A2,c2,rfl⟩:=Kd.R_slice h2
  obtain ⟨A3,c3,rfl,_⟩:=Kd.Q_slice h3
  refine ⟨A,c,A1,c1,A2,c2,A3,c3,rfl,rfl,rfl,rfl,S.frz hb [_,_,_,_] (fun q hq=>?_)⟩
  simp only [List.mem_cons,List.not_mem_nil,or_false] at hq
  rcases hq with rfl | rfl | rfl | rfl
  · exact qrow_ft h3
  · exact row_ft h2
  · exact row_ft h1
  · exact row_ft h0
theorem St.rq {β:Type} {d':Kd β} {A A':Option Addr} {n c n' c':Nat} {at_:At d} {at':At d'} {e e':Nat} {xs:List α} {ys:List β} {i j:Nat} {U U':Pc→List Pc} (S:St b0 w0 P D w G) [hG:HasRow G A n c at_ e xs i U] [hG':HasQ G A' n' c' at' e' ys j U'] [hn:NeC i j]:d.R e w b0.heap.size (fun k=>some k ≠ (Value.slice A' n' c').ownBlock) (.slice A n c) xs:=by
  obtain ⟨f,hf⟩:=S.own
  exact Kd.R_mono (hf i _ hG.out) (fun k hk h=>hn.out (hk.1.symm.trans ((hf j _ hG'.out).1 k h.symm).1))
theorem St.qr {β:Type} {d':Kd β} {A A':Option Addr} {n c n' c':Nat} {at_:At d} {at':At d'} {e e':Nat} {xs:List α} {ys:List β} {i j:Nat} {U U':Pc→List Pc} (S:St b0 w0 P D w G) [hG:HasQ G A n c at_ e xs i U] [hG':HasRow G A' n' c' at' e' ys j U'] [hn:NeC i j]:d.Q e w b0.heap.size (fun k=>some k ≠ (Value.slice A' n' c').ownBlock) (.slice A n c) xs:=by
  obtain ⟨f,hf⟩:=S.own
  exact Kd.Q_mono (hf i _ hG.out) (fun k hk h=>hn.out (hk.1.symm.trans ((hf j _ hG'.out).1 k h.symm).1))
theorem St.dq (S:St b0 w0 P D w G) (A:Option Addr) (k:Nat) {n c:Nat} {at_:At d} {e:Nat} {xs:List α} {i:Nat} {U:Pc→List Pc} [hG:HasQ G A n c at_ e xs i U] (hk:k ≤ xs.length) (m:Nat) (hm:m = d.sz) (y:List α) (hy:y = xs.drop k):∃ A' c',(Value.slice (if c = k then A else A.map (·.add (k * m))) (n - k) (c - k)) = .slice A' y.length c'∧St b0 w0 P D w (U (qrow at_ e A' y.length c' y)):=by
  obtain ⟨f,hf,hD⟩:=S.all
  have HO:=hf i _ hG.out
  have h1:=Kd.Q_drop HO hk
  have h2:=(Kd.Q_reads' HO).1
  subst hm;subst hy
  have hl:(xs.drop k).length = n - k:=by rw [List.length_drop,h2]
  refine ⟨_,_,by rw [hl],hG.set _ ▸ S.updf f hf hD i hG.out (gn (Below.refl _ _)) (fun k hk=>by cases hk) ?_⟩
  rw [hl]
  exact Kd.Q_mono h1 (fun k hk=>.inl hk)
end
section
end
end Go.Proofs.YtnmffpfiichjgaaV.Sl
