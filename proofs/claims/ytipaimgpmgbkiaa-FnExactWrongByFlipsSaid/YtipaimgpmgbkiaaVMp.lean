/- Words of the print, as this seat's own text. No conditions. -/
/- Words for maps of the call's own, as pieces. No conditions. -/
import Derived.Test.YtipaimgpmgbkiaaVFl
import Derived.Maps.OwnOps
import Derived.Maps.Views
import Derived.Maps.OwnSet
namespace Go.Proofs.YtipaimgpmgbkiaaV.Sl
open Go.RowKit Go.Proofs.YtipaimgpmgbkiaaV.PrintWords Go.Proofs.YtipaimgpmgbkiaaV.PrintLast Go.Proofs.YtipaimgpmgbkiaaV.PrintMore
open Go.Maps (Keyed int_keyed keyOf_int_mk atKey_put_same atKey_put_other has_put_same has_put_other IsMap)
set_option linter.unusedVariables false
set_option linter.unusedSimpArgs false
def mpc (Pg:Program) (T k e g:Nat) (rel:DataW Unit→Nat→Prop):Pc where
  A w b ok:=ok g∧b ≤ g∧∃ D n,w.ownsMap Pg k (plainElem Pg e) g n D∧rel D n
  F w:=∃ D n,w.ownsMap Pg k (plainElem Pg e) g n D∧rel D n
  facts h:=h.2.2
  step h hm:=by
    obtain ⟨h1,h2,D,n,⟨es,cl,hb,r⟩,h4⟩:=h
    exact ⟨h1,h2,D,n,⟨es,cl,(hm _ h1 (Array.getElem?_eq_some_iff.1 hb).1).trans hb,r⟩,h4⟩
  mono hm h:=⟨hm _ h.1,h.2⟩
  bound h:=by
    obtain ⟨h1,h2,D,n,h3,h4⟩:=h
    exact ⟨⟨h1,h2,h3.lt⟩,h2,D,n,h3,h4⟩
def lk (i:Int):Lit:=.int .i64 i
def rdB (xs:List Bool) (i:Int):Bool:=xs.getD i.toNat false
def setR (N:Nat) (xs:List Bool) (D:DataW Unit) (n:Nat):Prop:=N ≤ 9223372036854775807∧xs.length = N∧IsMap D∧n ≤ xs.countP id∧∀ i:Nat,i < N→D.atKey (lk i) (.lit (.bool false)) = .lit (.bool (xs.getD i false))
def numR (N:Nat) (xs:List Int) (D:DataW Unit) (n:Nat):Prop:=N ≤ 9223372036854775807∧xs.length = N∧IsMap D∧n ≤ xs.countP (fun x=>decide (0 ≤ x))∧∀ i:Nat,i < N→Maps.has D (lk i) = decide (0 ≤ xs.getD i (-1))∧D.atKey (lk i) (.lit (.int .i64 0)) = .lit (.int .i64 (if 0 ≤ xs.getD i (-1) then xs.getD i (-1) else 0))
abbrev bmap (Pg:Program) (T k e g N:Nat) (xs:List Bool):Pc:=mpc Pg T k e g (setR N xs)
abbrev imap (Pg:Program) (T k e g N:Nat) (xs:List Int):Pc:=mpc Pg T k e g (numR N xs)
class HasMap (G:List Pc) (g:Nat) (Pg:outParam Program) (T k e:outParam Nat) (rel:outParam (DataW Unit→Nat→Prop)) (i:outParam Nat) (U:outParam (Pc→List Pc)):Prop where
  out:G[i]? = some (mpc Pg T k e g rel)
  set:∀ p,U p = G.set i p
instance {G:List Pc} {Pg:Program} {T k e g:Nat} {rel:DataW Unit→Nat→Prop}:HasMap (mpc Pg T k e g rel :: G) g Pg T k e rel 0 (fun p=>p :: G):=⟨rfl,fun _=>rfl⟩
instance {G:List Pc} {p:Pc} {Pg:Program} {T k e g i:Nat} {rel:DataW Unit→Nat→Prop} {U:Pc→List Pc} [h:HasMap G g Pg T k e rel i U]:HasMap (p :: G) g Pg T k e rel (i + 1) (fun q=>p :: U q):=⟨h.out,fun q=>congrArg _ (h.set q)⟩
class TyIs (Pg:Program) (t:Nat) (d:TypeDesc):Prop where out:Pg.underlying t = some d
class MapT (Pg:Program) (T k e:Nat) (z:outParam Value):Prop where
  t:Pg.underlying T = some (.map k e)
  k:Pg.underlying k = some (.int .i64)
  z:∀ w,(zeroValue e).run Pg w = .ok z w
theorem wf_lk {i:Int} (h0:0 ≤ i) (h1:i < 9223372036854775808):(Lit.int .i64 i).wf = true:=by
  simp [Lit.wf,IntKind.min,IntKind.max,IntKind.signed,IntKind.bits]
  omega
theorem key_lk {Pg:Program} {k:Nat} (hk:Pg.underlying k = some (.int .i64)) {i:Int} (h0:0 ≤ i) (h1:i < 9223372036854775808):keyOf Pg k (.int .i64 i) = some (lk i):=keyOf_int_mk hk (wf_lk h0 h1)
theorem plain_bool_inv {P:Program} {e:TypeId} (he:P.underlying e = some .bool) {v:Value} {b:Bool} {ps:List MemPlace} (h:plainElem (H:=Unit) P e v = some (.lit (.bool b),ps)):v = .bool b:=by
  unfold plainElem at h
  rw [he] at h
  cases v <;> simp at h
  exact congrArg _ h.1
section
variable {Pg:Program} {o:Oper} {a:Act} {Q:Exit→Act→World→Prop} {K:Act→World→Prop} {b0 w0 w:World} {P:Nat→Prop} {D:List (World→Prop)} {G:List Pc}
theorem bm_look {T k e g N:Nat} {xs:List Bool} [hT:MapT Pg T k e (.bool false)] [he:TyIs Pg e .bool] (h:(bmap Pg T k e g N xs).F w) (i:Int) (h0:0 ≤ i) (h1:i < N) :
    (Instr.lookup T (.map (some g)) (.int .i64 i) false).run Pg w = .ok (.bool (rdB xs i)) w:=by
  obtain ⟨Dm,n,ho,hN,_,hM,_,hr⟩:=h
  obtain ⟨v,ps,hrun,hv⟩:=ho.lookup (int_keyed hT.k) hT.t (hT.z w) (plainElem_bool he.out false) (key_lk hT.k h0 (by omega))
  have:=hr i.toNat (by omega)
  rw [Int.toNat_of_nonneg h0] at this
  rw [this] at hv
  rw [hrun,plain_bool_inv he.out hv];rfl
theorem im_look {T k e g N:Nat} {xs:List Int} [hT:MapT Pg T k e (.int .i64 0)] [he:TyIs Pg e (.int .i64)] (h:(imap Pg T k e g N xs).F w) (i:Int) (h0:0 ≤ i) (h1:i < N) :
    (Instr.lookup T (.map (some g)) (.int .i64 i) true).run Pg w = .ok (.tuple #[.int .i64 (if 0 ≤ rd xs i then rd xs i else 0),.bool (decide (0 ≤ rd xs i))]) w:=by
  obtain ⟨Dm,n,ho,hN,hl,hM,_,hr⟩:=h
  obtain ⟨v,ps,hrun,hv⟩:=ho.look_ok (int_keyed hT.k) hT.t (hT.z w) (plainElem_int he.out (by decide)) (key_lk hT.k h0 (by omega))
  obtain ⟨h3,h4⟩:=hr i.toNat (by omega)
  rw [Int.toNat_of_nonneg h0] at h3 h4
  rw [h4] at hv
  obtain ⟨c,rfl,hc,_⟩:=plainElem_int_inv he.out hv
  simp only [Prod.mk.injEq,DataW.lit.injEq,Lit.int.injEq,true_and] at hc
  have e:xs.getD i.toNat (-1) = rd xs i:=by
    have:i.toNat < xs.length:=by omega
    simp [rd,List.getD_eq_getElem?_getD,this]
  rw [hrun,h3,← hc.1,e]
theorem mkm (N:Tmp) (S:St b0 w0 P D w G) {t:TypeId} (k e:Nat) (rel:DataW Unit→Nat→Prop) (h0:rel (.map []) 0) (h:∀ g w1,St b0 w0 P D w1 (mpc Pg t k e g rel :: G)→K (a.put (some N) (.map (some g))) w1) (hd:o.dst = some N:=by with_reducible rfl) (ho:o.op = .makeMap t none:=by with_reducible rfl):Oper.wp Pg o a w K Q:=by
  unfold Oper.wp execOp
  simp only [ho]
  have hr:=run_makeMap (P:=Pg) t w
  simp [hr,Result.andThen]
  show K (a.put o.dst _) _
  rw [hd]
  exact h _ _ (S.new (World.grownBy_alloc w _ none) (fun ok hk=>⟨hk _ (Nat.le_refl _),S.below.size,_,_,World.ownsMap_made w Pg k _,h0⟩))
theorem mu (rel':DataW Unit→Nat→Prop) {g T k e i:Nat} {rel:DataW Unit→Nat→Prop} {U:Pc→List Pc} (S:St b0 w0 P D w G) {m x v:Operand} {q:Int} {z val:Value} [hG:HasMap G g Pg T k e rel i U] [hT:MapT Pg T k e z] {d:DataW Unit}
    (hval:plainElem Pg e val = some (d,[])) (hrel:∀ D n,rel D n→n < maxLen∧rel' (D.put (lk q) d) (n + 1)) (h:∀ w1,St b0 w0 P D w1 (U (mpc Pg T k e g rel'))→K a w1)
    (ho:o.op = .mapUpdate T m x v:=by with_reducible rfl) (hN:o.dst = none:=by with_reducible rfl) (hm:a.eval m = .map (some g):=by rfl) (hx:a.eval x = .int .i64 q:=by rfl) (hv:a.eval v = val:=by rfl) (h0:0 ≤ q:=by first | assumption | omega) (h1:q < 9223372036854775808:=by omega):Oper.wp Pg o a w K Q:=by
  obtain ⟨f,hf,hD⟩:=S.all
  obtain ⟨k1,k2,Dm,n,hown,hr⟩:=hf i _ hG.out
  obtain ⟨hn,hr'⟩:=hrel _ _ hr
  obtain ⟨w1,hrun,hown1,hg⟩:=hown.update (int_keyed hT.k) hT.t hn (key_lk hT.k h0 h1) hval
  unfold Oper.wp execOp
  simp [ho,hm,hx,hv,hrun,Result.andThen]
  show K (a.put o.dst undef) _
  rw [hN]
  exact h _ (hG.set _ ▸ S.updf f hf hD i hG.out hg (fun j hj=>by injection hj with hj;subst hj;exact ⟨k1,k2⟩) ⟨.inl k1,k2,_,_,hown1,hr'⟩)
end
theorem setR_nil {N:Nat} (hN:N ≤ 9223372036854775807):setR N (List.replicate N false) (.map []) 0:=⟨hN,by simp,⟨_,rfl⟩,Nat.zero_le _,fun i hi=>by simp [DataW.atKey,List.getD_eq_getElem?_getD,List.getElem?_replicate,hi]⟩
theorem lk_ne {i j:Nat} (h:i ≠ j):lk i ≠ lk j:=fun e=>h (by have:=(Lit.int.inj e).2;omega)
theorem countP_set' {α:Type} (p:α→Bool):∀ (xs:List α) (i:Nat) (y:α),i < xs.length→p y = true→(∀ h:i < xs.length,p xs[i] = false)→(xs.set i y).countP p = xs.countP p + 1
  | [],i,y,h,_,_=>by simp at h
  | x :: xs,0,y,_,h1,h2=>by
    have:=h2 (by simp)
    simp at this
    simp [List.countP_cons,h1,this]
  | x :: xs,i + 1,y,h,h1,h2=>by
    have:=countP_set' p xs i y (by simpa using h) h1 (fun h'=>h2 (Nat.succ_lt_succ h'))
    simp [List.countP_cons,this]
    omega
theorem countP_lt' {α:Type} (p:α→Bool):∀ (xs:List α) (i:Nat) (h:i < xs.length),p xs[i] = false→xs.countP p < xs.length
  | [],i,h,_=>by simp at h
  | x :: xs,0,_,h2=>by
    simp at h2
    have:=List.countP_le_length (p:=p) (l:=xs)
    simp [List.countP_cons,h2]
    omega
  | x :: xs,i + 1,h,h2=>by
    have:=countP_lt' p xs i (Nat.lt_of_succ_lt_succ h) h2
    simp [List.countP_cons]
    split <;> omega
theorem setR_put {N:Nat} {xs:List Bool} {q:Int} (h0:0 ≤ q) (h1:q < N) (hq:rdB xs q = false):∀ D n,setR N xs D n→n < maxLen∧setR N (xs.set q.toNat true) (D.put (lk q) (.lit (.bool true))) (n + 1):=by
  rintro D n ⟨hN,hl,hM,hn,hr⟩
  have hlt:q.toNat < xs.length:=by omega
  have hq':∀ h:q.toNat < xs.length,id xs[q.toNat] = false:=fun h=>by unfold rdB at hq;rw [List.getD_eq_getElem?_getD,List.getElem?_eq_getElem h] at hq;exact hq
  have hc:=countP_lt' id xs q.toNat hlt (hq' hlt)
  refine ⟨by unfold maxLen;omega,hN,by simp [hl],hM.put _ _,by rw [countP_set' id xs q.toNat true hlt rfl hq'];omega,fun i hi=>?_⟩
  by_cases e:i = q.toNat
  · have e2:lk i = lk q:=by rw [e,Int.toNat_of_nonneg h0]
    rw [e2,atKey_put_same hM (by simp [lk,WideAt.IsKeyLit])]
    simp [e,List.getD_eq_getElem?_getD,hlt]
  · have e2:lk i ≠ lk q:=by rw [← Int.toNat_of_nonneg h0];exact lk_ne e
    rw [atKey_put_other e2,hr i hi]
    simp only [List.getD_eq_getElem?_getD,List.getElem?_set_ne (Ne.symm e)]
instance {w:World} {G:List Pc} {Pg:Program} {T k e g N:Nat} {xs:List Bool} [hT:MapT Pg T k e (.bool false)] [he:TyIs Pg e .bool] {p:Prop} [h:Fx G w p]:Fx (mpc Pg T k e g (setR N xs) :: G) w (xs.length = N∧(∀ i:Int,0 ≤ i→i < N→(Instr.lookup T (.map (some g)) (.int .i64 i) false).run Pg w = .ok (.bool (rdB xs i)) w)∧p):=⟨fun k=>⟨by obtain ⟨_,_,_,_,h,_⟩:=k.1;exact h,bm_look k.1,h.out k.2⟩⟩
instance {w:World} {G:List Pc} {Pg:Program} {T k e g N:Nat} {xs:List Int} [hT:MapT Pg T k e (.int .i64 0)] [he:TyIs Pg e (.int .i64)] {p:Prop} [h:Fx G w p]:Fx (mpc Pg T k e g (numR N xs) :: G) w (xs.length = N∧(∀ i:Int,0 ≤ i→i < N→0 ≤ rd xs i→(Instr.lookup T (.map (some g)) (.int .i64 i) true).run Pg w = .ok (.tuple #[.int .i64 (rd xs i),.bool true]) w)∧(∀ i:Int,0 ≤ i→i < N→rd xs i < 0→(Instr.lookup T (.map (some g)) (.int .i64 i) true).run Pg w = .ok (.tuple #[.int .i64 0,.bool false]) w)∧p):=⟨fun k=>⟨by obtain ⟨_,_,_,_,h,_⟩:=k.1;exact h,fun i h0 h1 h2=>by rw [im_look k.1 i h0 h1,if_pos h2,decide_eq_true h2],fun i h0 h1 h2=>by rw [im_look k.1 i h0 h1,if_neg (by omega),decide_eq_false (by omega)],h.out k.2⟩⟩

section
variable {α:Type}
def srow (d:Kd α) (e:Nat) (A:Option Addr) (n c:Nat) (xs:List α):Pc where
  A w b ok:=Kd.S d e w b ok (.slice A n c) xs
  F w:=xs.length = n∧Okk A n∧n ≤ c∧d.C w A xs.length xs
  facts h:=by
    have h1:=Kd.S_reads' h
    refine ⟨h1.1.symm,fun e=>?_,h1.2.1,h1.2.2⟩
    rw [h1.1]
    exact okk_C h1.2.2 e
  step h hm:=Kd.S_step h hm
  mono hm h:=Kd.S_mono h hm
  bound h:=Kd.S_mono (Kd.S_bound h) (fun _ hk=>⟨hk.1,hk.2.1,hk.2.2.1⟩)
def hol (d:Kd α) (e:Nat) (A:Option Addr) (n c:Nat) (xs:List α) (q:Int) (v:Value):Pc where
  A w b ok:=Kd.H d e w b ok (.slice A n c) xs q (fun _=>False) [v]∧0 ≤ q∧q < n∧d.sz = 1∧∃ g,A = some ⟨g,0,none⟩
  F w:=xs.length = n∧Okk A n∧n ≤ c∧w.cell? ((adr A).add q.toNat) = some v
  facts h:=by
    obtain ⟨h,h0,h1,hs,g,rfl⟩:=h
    obtain ⟨_,_,_,_,_,hcc,_⟩:=Kd.H_raw h h0 h1
    obtain ⟨_,f,hR⟩:=h
    have h2:=Kd.R_reads' hR
    rw [List.length_zipIdx] at h2
    refine ⟨h2.1.symm,(by intro e;cases e),h2.2.1,?_⟩
    have:=hcc 0 v rfl
    rw [hs,Nat.mul_one] at this
    simpa [adr,Addr.add_mid] using this
  step h hm:=⟨Kd.H_step h.1 (fun k hk _ hlt=>hm k hk hlt),h.2⟩
  mono hm h:=⟨Kd.H_mono h.1 hm,h.2⟩
  bound h:=by
    obtain ⟨⟨h1,f,hR⟩,h2⟩:=h
    exact ⟨⟨fun _ h=>h.elim,f,Kd.R_mono (Kd.R_bound hR) (fun k hk=>⟨⟨hk.1.1,hk.2.1,hk.2.2.1⟩,hk.1.2⟩)⟩,h2⟩
class HasS (G:List Pc) (A:Option Addr) (n c:outParam Nat) {α:outParam Type} (d:outParam (Kd α)) (e:outParam Nat) (xs:outParam (List α)) (i:outParam Nat) (U:outParam (Pc→List Pc)):Prop where
  out:G[i]? = some (srow d e A n c xs)
  set:∀ p,U p = G.set i p
instance {G:List Pc} {A:Option Addr} {n c:Nat} {d:Kd α} {e:Nat} {xs:List α}:HasS (srow d e A n c xs :: G) A n c d e xs 0 (fun p=>p :: G):=⟨rfl,fun _=>rfl⟩
instance {G:List Pc} {p:Pc} {A:Option Addr} {n c:Nat} {d:Kd α} {e:Nat} {xs:List α} {i:Nat} {U:Pc→List Pc} [h:HasS G A n c d e xs i U]:HasS (p :: G) A n c d e xs (i + 1) (fun q=>p :: U q):=⟨h.out,fun q=>congrArg _ (h.set q)⟩
class HasHol (G:List Pc) (A:Option Addr) (n c:outParam Nat) {α:outParam Type} (d:outParam (Kd α)) (e:outParam Nat) (xs:outParam (List α)) (q:outParam Int) (v:outParam Value) (i:outParam Nat) (U:outParam (Pc→List Pc)):Prop where
  out:G[i]? = some (hol d e A n c xs q v)
  set:∀ p,U p = G.set i p
instance {G:List Pc} {A:Option Addr} {n c:Nat} {d:Kd α} {e:Nat} {xs:List α} {q:Int} {v:Value}:HasHol (hol d e A n c xs q v :: G) A n c d e xs q v 0 (fun p=>p :: G):=⟨rfl,fun _=>rfl⟩
instance {G:List Pc} {p:Pc} {A:Option Addr} {n c:Nat} {d:Kd α} {e:Nat} {xs:List α} {q:Int} {v:Value} {i:Nat} {U:Pc→List Pc} [h:HasHol G A n c d e xs q v i U]:HasHol (p :: G) A n c d e xs q v (i + 1) (fun q=>p :: U q):=⟨h.out,fun q=>congrArg _ (h.set q)⟩
instance {w:World} {G:List Pc} {d:Kd α} {e n c:Nat} {A:Option Addr} {xs:List α} {p:Prop} [h:Fx G w p]:Fx (srow d e A n c xs :: G) w (xs.length = n∧Okk A n∧n ≤ c∧p):=⟨fun k=>⟨k.1.1,k.1.2.1,k.1.2.2.1,h.out k.2⟩⟩
instance {w:World} {G:List Pc} {d:Kd α} {e n c:Nat} {A:Option Addr} {xs:List α} {q:Int} {v:Value} {p:Prop} [h:Fx G w p]:Fx (hol d e A n c xs q v :: G) w (xs.length = n∧Okk A n∧n ≤ c∧w.cell? ((adr A).add q.toNat) = some v∧p):=⟨fun k=>⟨k.1.1,k.1.2.1,k.1.2.2.1,k.1.2.2.2,h.out k.2⟩⟩
end
instance {G:List Pc} {α:Type} {d:Kd α} {e n c:Nat} {A:Option Addr} {xs:List α}:RdG (srow d e A n c xs :: G) d xs A c:=⟨fun w h=>⟨h.1.2.2.2,by have:=h.1.1;have:=h.1.2.2.1;omega⟩⟩
section
variable {Pg:Program} {o:Oper} {a:Act} {Q:Exit→Act→World→Prop} {K:Act→World→Prop} {b0 w0 w w1:World} {P:Nat→Prop} {D:List (World→Prop)} {G:List Pc} {α:Type} {d:Kd α}
theorem St.ns (d:Kd α) (e:Nat) (S:St b0 w0 P D w G):St b0 w0 P D w (srow d e none 0 0 [] :: G) :=
  S.new (w1:=w) ⟨rfl,rfl,rfl,Nat.le_refl _,fun _ _ _=>rfl⟩ (fun ok _=>Kd.S_nil d e w _ ok)
theorem St.sr (S:St b0 w0 P D w G) (A:Option Addr) {n c e i:Nat} {xs:List α} {U:Pc→List Pc} (at_:At d) [hG:HasS G A n c d e xs i U]:St b0 w0 P D w (U (row at_ e A n c xs)):=by
  obtain ⟨f,hf,hD⟩:=S.all
  exact hG.set _ ▸ S.updf f hf hD i hG.out (row:=none) ⟨rfl,rfl,rfl,Nat.le_refl _,fun _ _ _=>rfl⟩ (fun k hk=>by cases hk) (Kd.R_mono (Kd.S_R (hf i _ hG.out)) (fun k hk=>.inl hk))
theorem St.gotS {e:Nat} {ok:Nat→Prop} {v:Value} {xs:List α} (S:St b0 w0 P D w G) (hb:Below w.heap.size w w1) (ho:Kd.S d e w1 w.heap.size ok v xs):∃ A c,v = .slice A xs.length c∧St b0 w0 P D w1 (srow d e A xs.length c xs :: G):=by
  obtain ⟨A,c,rfl⟩:=Kd.S_slice ho
  exact ⟨A,c,rfl,S.new (gn hb) (fun ok hk=>Kd.S_mono (Kd.S_lower (Kd.S_bound ho) S.below.size) (fun k h=>hk k h.2.1))⟩
theorem St.rS (S:St b0 w0 P D w G) (A:Option Addr) {n c e i:Nat} {xs:List α} {U:Pc→List Pc} [hG:HasS G A n c d e xs i U]:Kd.S d e w b0.heap.size (fun _=>True) (.slice A n c) xs:=by
  obtain ⟨f,hf,_⟩:=S.all
  exact Kd.S_mono (hf i _ hG.out) (fun _ _=>trivial)
theorem St.ownS {b0 w:World} {e n c:Nat} {A:Option Addr} {xs:List α} (hB:Below b0.heap.size b0 w) (ho:Kd.S d e w b0.heap.size P (.slice A n c) xs) (hD:Dok w P D):St b0 w P D w [srow d e A n c xs] :=
  ⟨hB,Kept.refl _ _,fun _=>0,(fun i p h=>by
    cases i with
    | zero=>injection h with h;subst h;exact Kd.S_mono ho (fun k hk=>⟨rfl,.inl hk⟩)
    | succ i=>cases h),fun q hq W hs hW=>hD q hq W ⟨hs,fun k hk hP=>hW k (.inl ⟨hk,hP⟩) hk⟩⟩
theorem St.lendS (S:St b0 w0 P D w G) {A:Option Addr} {n c e i:Nat} {xs:List α} {U:Pc→List Pc} [hG:HasS G A n c d e xs i U]:∃ ok:Nat→Prop,Below b0.heap.size b0 w∧Kd.S d e w b0.heap.size ok (.slice A n c) xs∧∀ w1,Below b0.heap.size b0 w1→Kept w w1 ok→St b0 w0 P D w1 (U p0_):=by
  obtain ⟨f,hf,hD⟩:=S.all
  have hle:w0.heap.size ≤ w.heap.size:=S.kept.1
  have HO:=hf i _ hG.out
  have hilt:i < G.length:=(List.getElem?_eq_some_iff.1 hG.out).1
  have hzn:∀ k,Zn w0 P f G.length k→¬ ((f k = i∧(P k∨w0.heap.size ≤ k))∧b0.heap.size ≤ k):=fun k hz h=>by
    rcases hz with hz | hz
    · exact h.1.2.elim hz.2 (fun h=>by omega)
    · have:=h.1.1;omega
  refine ⟨fun k=>(f k = i∧(P k∨w0.heap.size ≤ k))∧b0.heap.size ≤ k,S.below,Kd.S_mono (Kd.S_bound HO) (fun k hk=>⟨hk.1,hk.2.1⟩),fun w1 hb hkp=>?_⟩
  refine hG.set _ ▸ ⟨hb,S.kept.then_ hkp (fun k hk=>hk.1.2),fun k=>if w.heap.size ≤ k then i else f k,?_,fun q hq=>(hD q hq).step hkp.1 (fun k hz hlt=>hkp.2 k hlt (hzn k hz)) (fun k hz hlt=>hz.imp id (fun h=>⟨h.1,?_⟩))⟩
  rotate_left
  · show _ ≤ (if w.heap.size ≤ k then i else f k)
    rw [if_neg (by omega),List.length_set]
    exact h.2
  intro j q hj
  by_cases hji:j = i
  · subst hji
    rw [List.getElem?_set_self hilt] at hj
    injection hj with hj
    subst hj
    trivial
  · rw [List.getElem?_set_ne (Ne.symm hji)] at hj
    refine q.mono (fun k hk=>?_) (q.step (q.bound (hf j q hj)) (fun k hq hlt=>hkp.2 k hq.2.2 (fun h=>hji (hq.1.1.symm.trans h.1.1))))
    show (if w.heap.size ≤ k then i else f k) = j∧_
    rw [if_neg (by omega)];exact hk.1
open Classical in
theorem St.spl {e':Nat} {d':Kd α} (S:St b0 w0 P D w G) (A:Option Addr) (at_:At d') {n c e i:Nat} {xs:List (List α)} {U:Pc→List Pc} (q:Int) (ys:List α) [hG:HasS G A n c (Kd.slice e' d') e xs i U] (hy:xs.getD q.toNat [] = ys:=by rfl) (h0:0 ≤ q:=by first | assumption | omega) (h1:q < n:=by first | assumption | omega) :
    ∃ A2 c2,St b0 w0 P D w (row at_ e' A2 ys.length c2 ys :: U (hol (Kd.slice e' d') e A n c xs q (.slice A2 ys.length c2))):=by
  subst hy
  obtain ⟨f,hf,hD⟩:=S.all
  have hil:i < G.length:=(List.getElem?_eq_some_iff.1 hG.out).1
  have HO:=hf i _ hG.out
  obtain ⟨g,cap,e1,_⟩:=Kd.S_form HO (by have:=(Kd.S_reads' HO).1;omega)
  injection e1 with e1 _ e3
  subst e1;subst e3
  obtain ⟨oki,cs,hcl,hM,hcc,_,hoki,hH⟩:=Kd.S_elem HO [] q h0 h1
  obtain ⟨v,rfl,hR⟩:=hM
  obtain ⟨A2,c2,rfl⟩:=Kd.R_slice hR
  refine ⟨A2,c2,S.below,S.kept,fun k=>if oki k then 0 else f k + 1,?_,fun p hp=>(hD p hp).step (Nat.le_refl _) (fun _ _ _=>rfl) (fun k hz hlt=>hz.imp id (fun h=>⟨h.1,?_⟩))⟩
  rotate_left
  · show _ ≤ (if oki k then 0 else f k + 1)
    rw [if_neg (fun hk=>by have:=(hoki k hk).1.1;omega),List.length_cons,hG.set,List.length_set]
    omega
  intro j p hj
  cases j with
  | zero =>
    injection hj with hj
    subst hj
    exact Kd.R_mono hR (fun k hk=>⟨if_pos hk,(hoki k hk).1.2⟩)
  | succ j =>
    rw [List.getElem?_cons_succ,hG.set] at hj
    by_cases e:j = i
    · subst e
      rw [List.getElem?_set_self hil] at hj
      injection hj with hj
      subst hj
      obtain ⟨_,f2,hR2⟩:=hH
      exact ⟨⟨fun _ h=>h.elim,f2,Kd.R_mono hR2 (fun k hk=>⟨⟨by rw [← hk.1.1];exact if_neg hk.2,hk.1.2⟩,id⟩)⟩,h0,h1,rfl,g,rfl⟩
    · rw [List.getElem?_set_ne (Ne.symm e)] at hj
      refine p.mono (fun k hk=>⟨?_,hk.2⟩) (hf j p hj)
      rw [← hk.1]
      exact if_neg (fun h=>e (hk.1.symm.trans (hoki k h).1.1))
theorem sh (v:Value) {n c e i:Nat} {A:Option Addr} {xs:List α} {q:Int} {v0:Value} {U:Pc→List Pc} (S:St b0 w0 P D w G) {t:TypeId} {x y:Operand} [hG:HasHol G A n c d e xs q v0 i U] (hi:(Pg.info? t).map (·.size) = some 1) (h:∀ w1,St b0 w0 P D w1 (U (hol d e A n c xs q v))→K a w1)
    (ho:o.op = .store t x y:=by with_reducible rfl) (hN:o.dst = none:=by with_reducible rfl) (hx:a.eval x = .pointer (some ((adr A).add q.toNat)):=by rfl) (hy:a.eval y = v:=by rfl) (h1:v.cells.toList = [v]∧v.oneCell' = true:=by exact ⟨rfl,rfl⟩):Oper.wp Pg o a w K Q:=by
  obtain ⟨f,hf,hD⟩:=S.all
  obtain ⟨HO,hq0,hq1,hs,g,rfl⟩:=hf i _ hG.out
  have hsz:v.cells.size = 1:=by rw [← Array.length_toList,h1.1];rfl
  have hea:(adr (some ⟨g,0,none⟩)).add q.toNat = ⟨g,q.toNat,none⟩:=by simp [adr,Addr.add_mid]
  rw [hea] at hx
  obtain ⟨_,_,hraw,_,_,hcc,_⟩:=Kd.H_raw HO hq0 hq1
  obtain ⟨_,f2,hR2⟩:=HO
  obtain ⟨_,_,_,hcc2,hfr⟩:=Kd.R_elem hR2 (xs.zipIdx.getD q.toNat (xs.getD q.toNat (Classical.choice (by
    have:=(Kd.R_reads' hR2).1
    rw [List.length_zipIdx] at this
    exact ⟨xs[q.toNat]'(by omega)⟩)),0)) q hq0 hq1
  have HO:Kd.H d e w b0.heap.size _ (.slice (some ⟨g,0,none⟩) n c) xs q (fun _=>False) [v0]:=⟨fun _ h=>h.elim,f2,hR2⟩
  have hr:=run_stv (Pg:=Pg) w g q.toNat t v (fun m hm=>by
    obtain rfl:m = 0:=by omega
    have e1:=hcc 0 v0 rfl
    have e2:=hfr 0
    rw [hs,Nat.mul_one] at e1
    refine ⟨by rw [e1];rfl,?_⟩
    have e3:((Kd.gap f2 d q.toNat [v0]).sz) = 1:=hs
    rw [e3,Nat.mul_one] at e2
    exact e2) (by rw [hsz];exact hi) (by rw [h1.1];simp [h1.2])
  unfold Oper.wp execOp
  simp only [ho,hx,hy,Sem.run_bind,Sem.run_pure,Result.andThen_ok,hr]
  show K (a.put o.dst undef) _
  rw [hN]
  obtain ⟨h2,h3⟩:=Kd.H_seg HO hq0 hq1 (seg:=[v]) (j:=0) (by rw [hs];exact Nat.le_refl _) (fun u hu=>by rw [List.mem_singleton.1 hu];exact h1.2)
  rw [hs,Nat.mul_one,Nat.add_zero] at h2 h3
  rw [h1.1]
  refine h _ (hG.set _ ▸ S.updf f hf hD i hG.out h3 (fun k hk=>?_) ⟨Kd.H_mono h2 (fun k hk=>.inl hk),hq0,hq1,hs,g,rfl⟩)
  injection hk with hk
  subst hk
  exact ⟨(hR2.1 g (by simp [Value.ownBlock])).1,Kd.R_base hR2 g (by simp [Value.ownBlock])⟩
theorem St.joi {e':Nat} {d':Kd α} {at_:At d'} (S:St b0 w0 P D w G) (A A2:Option Addr) {n c e n2 c2 i i2:Nat} {xs:List (List α)} {ys:List α} {q:Int} {U U2:Pc→List Pc} [h2:HasRow G A2 n2 c2 at_ e' ys i2 U2] [hG:HasHol (U2 p0_) A n c (Kd.slice e' d') e xs q (.slice A2 n2 c2) i U] (hn:(i == i2) = false:=by rfl) :
    St b0 w0 P D w (U (srow (Kd.slice e' d') e A n c (xs.set q.toNat ys))):=by
  have hn:i ≠ i2:=by simpa using hn
  obtain ⟨f,hf,hD⟩:=S.all
  have hi2:i2 < G.length:=(List.getElem?_eq_some_iff.1 h2.out).1
  have hG1:=hG.out
  rw [h2.set,List.getElem?_set_ne (Ne.symm hn)] at hG1
  have hi:i < G.length:=(List.getElem?_eq_some_iff.1 hG1).1
  obtain ⟨HO,hq0,hq1,hs,g,rfl⟩:=hf i _ hG1
  have H2:=hf i2 _ h2.out
  refine ⟨S.below,S.kept,fun k=>if f k = i2 then i else f k,?_,fun p hp=>(hD p hp).step (Nat.le_refl _) (fun _ _ _=>rfl) (fun k hz hlt=>hz.imp id (fun h=>⟨h.1,?_⟩))⟩
  rotate_left
  · show _ ≤ (if f k = i2 then i else f k)
    rw [if_neg (by omega),hG.set,List.length_set,h2.set,List.length_set]
    exact h.2
  intro j p hj
  rw [hG.set] at hj
  by_cases e1:j = i
  · subst e1
    rw [List.getElem?_set_self (by rw [h2.set,List.length_set];exact hi)] at hj
    injection hj with hj
    subst hj
    refine Kd.H_back (Kd.H_more (okg:=fun k=>f k = i2∧(P k∨w0.heap.size ≤ k)) (Kd.H_mono HO (fun k hk=>⟨⟨?_,hk.2⟩,fun h=>hn (hk.1.symm.trans h.1)⟩)) (fun k hk=>⟨if_pos hk.1,hk.2⟩)) (x':=ys) ⟨_,rfl,H2⟩ (fun k hk=>.inr hk)
    show (if f k = i2 then j else f k) = j
    rw [if_neg (fun h=>hn (hk.1.symm.trans h))]
    exact hk.1
  · rw [List.getElem?_set_ne (Ne.symm e1),h2.set] at hj
    by_cases e2:j = i2
    · subst e2
      rw [List.getElem?_set_self hi2] at hj
      injection hj with hj
      subst hj
      trivial
    · rw [List.getElem?_set_ne (Ne.symm e2)] at hj
      refine p.mono (fun k hk=>⟨?_,hk.2⟩) (hf j p hj)
      rw [← hk.1]
      exact if_neg (fun h=>e2 (hk.1.symm.trans h))
theorem mks (N:Tmp) (e e':Nat) (d':Kd α) (S:St b0 w0 P D w G) {t:TypeId} {x y:Operand} {n:Int} {z:Value} {bytes:Nat} (ht:Pg.underlying t = some (.slice e)) (hinfo:(Pg.info? e).map (fun i=>(i.zero,i.size,i.bytes)) = some (some z,(Kd.slice e' d').sz,bytes))
    (h:∀ A c w1,St b0 w0 P D w1 (srow (Kd.slice e' d') e A (List.replicate n.toNat ([]:List α)).length c (List.replicate n.toNat []) :: G)→K (a.put (some N) (.slice A (List.replicate n.toNat ([]:List α)).length c)) w1)
    (hz:z = .slice none 0 0:=by rfl) (hgd:o.guard = none:=by with_reducible rfl) (hd:o.dst = some N:=by with_reducible rfl) (ho:o.op = .makeSlice t x y:=by with_reducible rfl) (hx:a.eval x = .int .i64 n:=by rfl) (hy:a.eval y = .int .i64 n:=by rfl) (hb0:0 < bytes:=by decide) (h0:0 ≤ n:=by omega) (hl:n.toNat * bytes ≤ 281474976710656:=by omega):Oper.wp Pg o a w K Q:=by
  have hw:=wanted_none (o:=o) (a:=a) #[] hgd
  subst hz
  have:=Kd.S_make_step (P:=Pg) (ops:=#[]) (Q:=Q) (Kc:=K) (w0:=b0) (W:=w) (Kd.slice e' d') b0.heap.size e hw hd t x y ho n hx hy ht (.slice none 0 0) bytes hinfo rfl (Nat.le_refl 1) hb0 [] (ok:=fun k=>w.heap.size ≤ k) (okp:=fun _=>False) ⟨_,rfl,Kd.R_nil _ _ _ _ _⟩ (fun _ hk=>hk.elim) (Nat.le_refl _) h0 hl S.below S.below.size
    (fun v1 w1 ho hb hg _=>by
      obtain ⟨A,c,rfl⟩:=Kd.S_slice ho
      rw [hd]
      exact h A c w1 (S.new hg (fun ok hk=>Kd.S_mono ho hk)))
  rwa [if_pos hw] at this
end
end Go.Proofs.YtipaimgpmgbkiaaV.Sl
