/- Words of the print, as this seat's own text. No conditions. -/
/- A range over a function, told as a fold over states: the caller's law; a loop with a number in its relation, inside a fence. No conditions. -/
import Derived.RangeFuncNested
import Derived.RangeFuncCalls
import Derived.RangeFuncLeaves
import Derived.TacticsInMore
import Derived.OwnWalkIn
import Derived.Test.YtnmffpfiichjgaaVSl
namespace Go.Proofs.YtnmffpfiichjgaaV.Rf
open Go.RowKit Go.Proofs.YtnmffpfiichjgaaV.PrintWords Go.Proofs.YtnmffpfiichjgaaV.PrintLast Go.Proofs.YtnmffpfiichjgaaV.PrintMore Go.Proofs.YtnmffpfiichjgaaV.Sl
set_option linter.unusedVariables false
set_option linter.unusedSimpArgs false
variable {F:Fence} {n:Nat} {P:Program}
def Ab {σ:Type} (J:σ→World→Prop):Prop:=∀ s W W',J s W→Below W.heap.size W W'→J s W'
def Folds {σ:Type} (F:Fence) (n:Nat) (P:Program) (gf:Nat) (lb:Array Value) (R:σ→Array Value→World→σ→Bool→Prop) (Kp:World→World→Prop) (s0:σ) (fin:σ→Bool→Prop) (W:World):Prop :=
  ∀ (l:Nat) (J Jx:σ→World→Prop),Ab J→Ab Jx →
    (∀ s args W1 s' go,J s W1→R s args W1 s' go→YieldAt F (n - 1) P l args W1 fun e W'=>e = .returned (.bool go)∧((go = true∧J s' W'∧Kp W1 W')∨(go = false∧Jx s' W'))) →
    J s0 W →
    CallsIn F n P gf (#[.func (.yield l) #[] #[]] ++ lb) W fun e W'=>(∃ v,e = .returned v)∧((∃ s',fin s' true∧J s' W')∨(∃ s',fin s' false∧Jx s' W'))
def fpost {σ:Type} (B:Nat) (Kp:World→World→Prop) (I:σ→World→Prop) (Ix:Code→σ→World→Prop) (s:σ) (go:Bool) (W:World):Exit→Act→World→Prop
  | .normal,_,W'=>go = true∧KeepsFrom B W W'∧Kp W W'∧I s W'
  | .ret,_,W'=>go = false∧KeepsFrom B W W'∧Ix .ret s W'
  | .exit id,_,W'=>go = false∧KeepsFrom B W W'∧Ix (.exit id) s W'
  | .goto t,_,W'=>go = false∧KeepsFrom B W W'∧Ix (.goto t) s W'
  | .panic _,_,_=>False
  | .outgrown,_,_=>False
def Ow {β:Type} (j:Nat) (I:β→World→Prop):Prop:=∀ s W W',I s W→W.grownBy W' (some j)→I s W'
theorem grown_any {W W':World} {j:Nat} (h:W.grownBy W' none):W.grownBy W' (some j):=⟨h.os,h.tape,h.output,h.size,fun k hk _=>h.block k hk (by simp)⟩
theorem Ow.below {β:Type} {j:Nat} {I:β→World→Prop} (h:Ow j I) {s:β} {W W':World} (hs:I s W) (hb:Below W.heap.size W W'):I s W':=h s W W' hs (grown_any (gn hb))
theorem Ow.putObj {β:Type} {j:Nat} {I:β→World→Prop} (h:Ow j I) {s:β} {W:World} (o:Obj) (hs:I s W):I s (W.putObj j o):=h s W _ hs (grownBy_putObj' W j o)
theorem wpIn_folds {σ:Type} {g:Operand} {ps:Array Tmp} {assign body:Code} {Q:Exit→Act→World→Prop} {a:Act} {w:World}
    (hro:F.round = none) (h1:1 ≤ n) {gf:Nat} {lb:Array Value} (hg:a.eval g = .func (.func gf) #[] lb) (hFg:F.fn gf) (eg:∀ args w,(callFunc gf args).run P w = .ok (.enter gf args) w)
    {R:σ→Array Value→World→σ→Bool→Prop} {Kp:World→World→Prop} {s0:σ} {fin:σ→Bool→Prop}
    (hseq:∀ W,Below w.heap.size w W→w.heap.size + 2 ≤ W.heap.size→Folds F (n - 1) P gf lb R Kp s0 fin W)
    (hKt:∀ {A B C:World},Kp A B→Kp B C→Kp A C) (hKb:∀ (W:World) (o':Obj),w.heap.size + 2 ≤ W.heap.size→Kp W (W.putObj (w.heap.size + 1) o'))
    (hRs:∀ s args W s' go,R s args W s' go→args.size = ps.size)
    (I:σ→World→Prop) (Ix:Code→σ→World→Prop) (hI:Ow (w.heap.size + 1) I) (hIx:∀ c,Ow (w.heap.size + 1) (Ix c)) (h0:I s0 w)
    (A:σ→Array Value→Act→σ→Bool→World→Prop) (hA:∀ s args a' s' go,Ow (w.heap.size + 1) (fun (_:Unit) W=>A s args a' s' go W))
    (hassign:∀ (l:Nat) s args (W:World) s' go (K:Act→World→Prop),w.heap.size + 2 ≤ W.heap.size→I s W→R s args W s' go→(∀ a' W',KeepsFrom w.heap.size W W'→Kp W W'→A s args a' s' go W'→K a' W') →
      assign.wpIn (F.inRound l) (n - 1 - 1) P (Exit.then K (fun _ _ _=>False)) { tmps:=(ps.zip args).foldl (fun t (p,v)=>t.setIfInBounds p v) a.tmps,defers:=[] } W)
    (hbody:∀ (l:Nat) s args a' (W:World) s' go,A s args a' s' go W→body.wpIn (F.inRound l) (n - 1 - 1) P (fpost w.heap.size Kp I Ix s' go W) a' W)
    (hdone:∀ s' (W:World),fin s' true→I s' W→W.heap[w.heap.size]? = some (.deferred (some []))→Q .normal { a with defers:={ target:=.collected w.heap.size,args:=#[] } :: a.defers } W)
    (hstop:∀ c s' (W:World),fin s' false→Ix c s' W→W.heap[w.heap.size]? = some (.deferred (some []))→c.wpIn F n P Q { a with defers:={ target:=.collected w.heap.size,args:=#[] } :: a.defers } W) :
    (Code.rangeFunc g ps assign body).wpIn F n P Q a w:=by
  refine wpIn_rangeFunc ?_
  intro fn hfn
  rw [hro]
  obtain ⟨rec,hrec⟩:∃ rec:LoopState→Option Code→Loop,rec = fun st pe=>{ state:=st,pending:=pe,fn,tmps:=a.tmps,params:=ps,assign,body,defers:=w.heap.size }:=⟨_,rfl⟩
  obtain ⟨W1,hW1⟩:∃ W1,(w.alloc (.deferred (some []))).alloc (.loop (rec .ready none)) = W1:=⟨_,rfl⟩
  have hL1:W1.heap[w.heap.size + 1]? = some (.loop (rec .ready none)):=by
    rw [← hW1];have:=World.alloc_heap_new (w.alloc (.deferred (some []))) (.loop (rec .ready none));rwa [World.size_alloc] at this
  have hK1:W1.heap[w.heap.size]? = some (.deferred (some [])):=by
    rw [← hW1];exact (Below.heap_alloc _ _ _ (by simp)).trans (World.alloc_heap_new w _)
  have hb1:Below w.heap.size w W1:=by
    rw [← hW1];exact ((Below.refl _ w).alloc (Nat.le_refl _) _).alloc (by simp) _
  have hz1:w.heap.size + 2 ≤ W1.heap.size:=by rw [← hW1];simp
  have hI1:I s0 W1:=Ow.below hI h0 hb1
  have lt_of:∀ {W:World} {k:Nat} {o:Obj},W.heap[k]? = some o→k < W.heap.size:=fun h=>(Array.getElem?_eq_some_iff.1 h).1
  refine ⟨w.heap.size + 1,[{ target:=.collected w.heap.size,args:=#[] }],W1,{ target:=.fn (.func gf) lb,args:=#[.func (.yield (w.heap.size + 1)) #[] #[]] },W1,gf,
    #[.func (.yield (w.heap.size + 1)) #[] #[]] ++ lb,W1,by rw [← hW1,hrec];exact run_enterLoop_outer _ _ _ _ _,?_,?_,?_,fun _=>h1,?_⟩
  · simp only [resolve,hg]
    simp [go_sem]
  · intro f' hf';simp [Target.leads] at hf';subst hf';exact hFg
  · simp [invoke,go_sem,eg]
  · have keep:∀ {A B:World} {k:Nat} {o:Obj},A.heap[k]? = some o→Below A.heap.size A B→B.heap[k]? = some o:=fun h hb=>(hb.block _ (lt_of h)).trans h
    refine (hseq W1 hb1 hz1 (w.heap.size + 1)
      (fun s W=>I s W∧W.heap[w.heap.size + 1]? = some (.loop (rec .ready none))∧W.heap[w.heap.size]? = some (.deferred (some [])))
      (fun s W=>∃ c,Ix c s W∧W.heap[w.heap.size + 1]? = some (.loop (rec .done (some c)))∧W.heap[w.heap.size]? = some (.deferred (some [])))
      (fun s A B hs hb=>⟨Ow.below hI hs.1 hb,keep hs.2.1 hb,keep hs.2.2 hb⟩)
      (fun s A B hs hb=>by
        obtain ⟨c,hc,hl,hk⟩:=hs
        exact ⟨c,Ow.below (hIx c) hc hb,keep hl hb,keep hk hb⟩)
      ?_ ⟨hI1,hL1,hK1⟩).mono ?_
    · rintro s args W s' go ⟨hi,hl,hk⟩ hR
      have hy:=run_yield (P:=P) (args:=args) hl (by rw [hrec];exact hRs _ _ _ _ _ hR)
      rw [hrec] at hy
      refine ⟨fn,_,assign,body,hy,roundIn_of_wpIn hfn (hassign _ s args W s' go _ (lt_of hl) hi hR ?_)⟩
      clear hy
      intro a' V hkv hpv hav
      have hl':=hkv.same _ _ (Nat.le_succ _) hl rfl
      have hk':=hkv.same _ _ (Nat.le_refl _) hk rfl
      have hlt:=lt_of hl'
      have hvz:w.heap.size + 2 ≤ V.heap.size:=hlt
      refine ⟨_,run_beginRound hl' (by rw [hrec]),?_⟩
      obtain ⟨V2,hV2⟩:∃ V2,V.putObj (w.heap.size + 1) (.loop { rec .ready none with state:=.busy }) = V2:=⟨_,rfl⟩
      have hl2:V2.heap[w.heap.size + 1]? = some (.loop { rec .ready none with state:=.busy }):=by rw [← hV2];exact World.putObj_heap_same hlt
      have hk2:V2.heap[w.heap.size]? = some (.deferred (some [])):=by rw [← hV2];exact (World.putObj_heap_other (by omega)).trans hk'
      have hp2:Kp V V2:=by rw [← hV2];exact hKb _ _ hvz
      have hA2:A s args a' s' go V2:=by rw [← hV2];exact (hA s args a' s' go).putObj (s:=()) _ hav
      rw [hV2]
      refine wpIn_mono (hbody _ s args a' V2 s' go hA2) ?_
      have ends:∀ (jump:Option Code) (V3:World),KeepsFrom w.heap.size V2 V3 →
          ∃ V4,(Instr.endRound (w.heap.size + 1) jump).run P V3 = .ok (.bool jump.isNone) V4∧V4 = V3.putObj (w.heap.size + 1) (.loop (rec (if jump.isNone then .ready else .done) jump)) ∧
            V3.heap[w.heap.size + 1]? = some (.loop { rec .ready none with state:=.busy })∧w.heap.size + 2 ≤ V3.heap.size∧V4.heap[w.heap.size + 1]? = some (.loop (rec (if jump.isNone then .ready else .done) jump))∧V4.heap[w.heap.size]? = some (.deferred (some [])):=fun jump V3 h3=>by
        have hl3:=h3.same _ _ (Nat.le_succ _) hl2 rfl
        have hr:=run_endRound (P:=P) jump hl3
        rw [hrec] at hr
        refine ⟨_,hr,by rw [hrec],hl3,lt_of hl3,?_,(World.putObj_heap_other (by omega)).trans (h3.same _ _ (Nat.le_refl _) hk2 rfl)⟩
        rw [World.putObj_heap_same (lt_of hl3),hrec]
      rintro e a3 V3 hp
      have leaves:∀ c,go = false→KeepsFrom w.heap.size V2 V3→Ix c s' V3→∃ v w',(Instr.endRound (w.heap.size + 1) (some c)).run P V3 = .ok v w' ∧
          (Ending.returned v = .returned (.bool go)∧((go = true∧(I s' w'∧w'.heap[w.heap.size + 1]? = some (.loop (rec .ready none))∧w'.heap[w.heap.size]? = some (.deferred (some [])))∧Kp W w') ∨
            (go = false∧∃ c,Ix c s' w'∧w'.heap[w.heap.size + 1]? = some (.loop (rec .done (some c)))∧w'.heap[w.heap.size]? = some (.deferred (some []))))):=fun c hg h3 hx=>by
        obtain ⟨V4,hr,e4,hl3,hz3,hl4,hk4⟩:=ends (some c) V3 h3
        subst hg
        exact ⟨_,V4,hr,rfl,.inr ⟨rfl,c,by rw [e4];exact (hIx c).putObj _ hx,hl4,hk4⟩⟩
      cases e with
      | normal =>
        obtain ⟨hg,h3,hkp,hi3⟩:=hp
        obtain ⟨V4,hr,e4,hl3,hz3,hl4,hk4⟩:=ends none V3 h3
        subst hg
        exact ⟨_,V4,hr,rfl,.inl ⟨rfl,⟨by rw [e4];exact hI.putObj _ hi3,hl4,hk4⟩,hKt hpv (hKt hp2 (hKt hkp (by rw [e4];exact hKb _ _ hz3)))⟩⟩
      | ret=>exact leaves _ hp.1 hp.2.1 hp.2.2
      | exit id=>exact leaves _ hp.1 hp.2.1 hp.2.2
      | goto t=>exact leaves _ hp.1 hp.2.1 hp.2.2
      | panic ch=>exact hp.elim
      | outgrown=>exact hp.elim
    · rintro e W2 ⟨⟨v,rfl⟩,(⟨s',hf,hi,hl,hk⟩ | ⟨s',hf,c,hi,hl,hk⟩)⟩
      · exact ⟨none,_,by have:=run_endLoop (P:=P) hl (by rw [hrec];simp);rw [hrec] at this;exact this,hdone s' _ hf (hI.putObj _ hi) ((World.putObj_heap_other (by omega)).trans hk)⟩
      · exact ⟨some c,_,by have:=run_endLoop (P:=P) hl (by rw [hrec];simp);rw [hrec] at this;exact this,hstop c s' _ hf ((hIx c).putObj _ hi) ((World.putObj_heap_other (by omega)).trans hk)⟩
theorem kept_trans {A B C:World} {O:Nat→Prop} (h:Kept A B O) (k:Kept B C O):Kept A C O:=⟨Nat.le_trans h.1 k.1,fun i hi hn=>(k.2 i (Nat.lt_of_lt_of_le hi h.1) hn).trans (h.2 i hi hn)⟩
theorem kept_put {W:World} {O:Nat→Prop} (l:Nat) (o:Obj) (h:O l):Kept W (W.putObj l o) O:=⟨(grownBy_putObj' W l o).size,fun i hi hn=>(grownBy_putObj' W l o).block i hi (fun e=>hn (by cases e;exact h))⟩
def bxr (g t:Nat) (cs:List Value) (w:World):Prop:=w.heap[g]? = some (.cells cs.toArray t (0,0))
theorem db {w:World} {D:List (World→Prop)} {g t:Nat} {cs:List Value} (h:bxr g t cs w) (k:Dok w (fun _=>False) D):Dok w (fun _=>False) (bxr g t cs :: D):=fun q hq W hk=>by
  rcases List.mem_cons.1 hq with rfl | hq
  · exact (hk.2 _ (blk_lt h) id).trans h
  · exact k q hq W hk
theorem bx_of {b0 w0 w:World} {D:List (World→Prop)} {G:List Pc} {g m:Nat} {cs:List Value} (S:St b0 w0 (fun _=>False) D w (box g m cs :: G)):bxr g m cs w∧w0.heap.size ≤ g:=by
  obtain ⟨f,hf⟩:=S.own
  have h:=hf 0 _ rfl
  exact ⟨h.2.2,h.1.2.resolve_left id⟩
theorem bxr_F {w:World} {g t:Nat} {cs:List Value} (h:bxr g t cs w):cellsF w g 0 cs:=cellsF_of (all:=cs) (fun i=>by rw [blk_cell h i];simp) 0 cs (by simp)
instance {w:World} {D:List (World→Prop)} {g t:Nat} {c0 c1 c2 c3 c4:Value} {p:Prop} [h:Fy D w p]:Fy (bxr g t [c0,c1,c2,c3,c4] :: D) w (w.cell? ⟨g,0,none⟩ = some c0∧w.cell? ⟨g,1,none⟩ = some c1∧w.cell? ⟨g,2,none⟩ = some c2∧w.cell? ⟨g,3,none⟩ = some c3∧w.cell? ⟨g,4,none⟩ = some c4∧p) :=
  ⟨fun k=>by have f:=bxr_F k.1;exact ⟨f.1,f.2.1,f.2.2.1,f.2.2.2.1,f.2.2.2.2.1,h.out k.2⟩⟩
instance {D:List (World→Prop)} {G:List Pc} {α:Type} {d:Kd α} {xs:List α} {A:Option Addr} {c g t:Nat} {cs:List Value} [k:Rd D G d xs A c]:Rd (bxr g t cs :: D) G d xs A c:=⟨fun w hD hG=>k.out w hD.2 hG⟩
instance {w:World} {D:List (World→Prop)} {g t:Nat} {c0:Value} {p:Prop} [h:Fy D w p]:Fy (bxr g t [c0] :: D) w (w.cell? ⟨g,0,none⟩ = some c0∧p):=⟨fun k=>⟨(bxr_F k.1).1,h.out k.2⟩⟩
instance {w:World} {D:List (World→Prop)} {g t:Nat} {c0 c1:Value} {p:Prop} [h:Fy D w p]:Fy (bxr g t [c0,c1] :: D) w (w.cell? ⟨g,0,none⟩ = some c0∧w.cell? ⟨g,1,none⟩ = some c1∧p):=⟨fun k=>⟨(bxr_F k.1).1,(bxr_F k.1).2.1,h.out k.2⟩⟩
instance {w:World} {D:List (World→Prop)} {g t:Nat} {c0 c1 c2:Value} {p:Prop} [h:Fy D w p]:Fy (bxr g t [c0,c1,c2] :: D) w (w.cell? ⟨g,0,none⟩ = some c0∧w.cell? ⟨g,1,none⟩ = some c1∧w.cell? ⟨g,2,none⟩ = some c2∧p):=⟨fun k=>⟨(bxr_F k.1).1,(bxr_F k.1).2.1,(bxr_F k.1).2.2.1,h.out k.2⟩⟩
theorem calls_in {f:FuncId} {args:Array Value} {w:World} {R R':Ending→World→Prop} {l m:Nat} (h:Calls P f args w R) (hr:∀ e w',R e w'→R' e w'):CallsIn (Fence.wide.inRound l) m P f args w R' :=
  CallsIn.inRound l ((callsIn_wide (n:=m)).2 (Calls.mono h hr))
theorem rows_in {row:String} {args:Array Value} {w:World} {R R':Value→World→Prop} {l m:Nat} (h:Rows P row args w R) (hr:∀ v w',R v w'→R' v w'):RowsIn (Fence.wide.inRound l) m P row args w R' :=
  fun c cs _=>let ⟨v,w',r,s⟩:=h c cs;⟨v,w',hr _ _ r,stepsIn_wide.2 s⟩
theorem op_in {l m:Nat} {o:Oper} {a:Act} {w:World} {K K':Act→World→Prop} {Q:Exit→Act→World→Prop} (hnd:∀ c,o.op ≠ .defer c) (hK:∀ a w,K a w→K' a w) (h:Oper.wp P o a w K Q):Oper.wpIn (Fence.wide.inRound l) m P o a w K' Q:=by
  refine ⟨fun f _=>trivial,?_⟩
  have e:o.semAt (Fence.wide.inRound l).round a.eval = execOp a.eval o:=Oper.semAt_some l a.eval o hnd
  rw [e]
  unfold Oper.wp at h
  revert h
  generalize (execOp a.eval o).run P w = r
  intro h
  cases r with
  | ok x w' =>
    cases x with
    | value v=>exact hK _ _ h
    | skip=>exact hK _ _ h
    | defer d=>exact hK _ _ h
    | enter f args =>
      refine ⟨fun h0=>(by cases h0),calls_in h ?_⟩
      intro e w'' hh
      cases e with
      | returned v=>exact hK _ _ hh
      | panicked c=>exact hh
      | outgrown=>exact hh
    | row row args=>exact ⟨fun h0=>(by cases h0),rows_in h (fun v w'' hh=>hK _ _ hh)⟩
    | _=>exact h.elim
  | halt hh w' =>
    cases hh with
    | panic v=>exact h
    | _=>exact h.elim
def plainOp:Op→Bool
  | .defer _=>false
  | _=>true
theorem plain_op {o:Oper} (h:plainOp o.op = true):∀ c,o.op ≠ .defer c:=fun c e=>by rw [e] at h;cases h
section
variable {ops:Array Oper} {Q:Exit→Act→World→Prop} {l m:Nat}
theorem list_in (hlo:¬ LetsOut Q):∀ (r:List Oper) (a:Act) (w:World),r.all (fun o=>plainOp o.op) = true→wpList P ops Q r a w→wpListIn (Fence.wide.inRound l) m P ops Q r a w
  | [],_,_,_,h=>h
  | o :: r,a,w,hp,h=>by
    simp only [List.all_cons,Bool.and_eq_true] at hp
    unfold wpList at h
    unfold wpListIn
    split at h
    · rename_i hw
      rw [if_pos hw]
      rcases h with h | h
      · exact op_in (plain_op hp.1) (fun a w hh=>list_in hlo r a w hp.2 hh) h
      · exact absurd h.2 hlo
    · rename_i hw
      rw [if_neg hw]
      exact ⟨fun _ _=>trivial,list_in hlo r _ w hp.2 h⟩
theorem any_in (hlo:¬ LetsOut Q) (hp:ops.toList.all (fun o=>plainOp o.op) = true) {md:Region.Mode}:∀ (fuel:Nat) (listed:Array Bool) (a:Act) (w:World),wpAny P md ops Q fuel listed a w→wpAnyIn (Fence.wide.inRound l) m P md ops Q fuel listed a w
  | 0,_,_,_,h=>h
  | fuel + 1,listed,a,w,h=>by
    refine ⟨h.1,fun i hi=>?_⟩
    have h2:=h.2 i hi
    unfold wpOp at h2
    unfold wpOpIn
    cases ho:ops[i]? with
    | none=>rw [ho] at h2;exact any_in hlo hp fuel _ a w h2
    | some o =>
      rw [ho] at h2
      dsimp only at h2 ⊢
      have hpo:plainOp o.op = true:=List.all_eq_true.1 hp o (List.mem_of_getElem? (i:=i) (by simpa using ho))
      split at h2
      · rename_i hw
        rw [if_pos hw]
        rcases h2 with h2 | h2
        · exact op_in (plain_op hpo) (fun a w hh=>any_in hlo hp fuel _ a w hh) h2
        · exact absurd h2.2 hlo
      · rename_i hw
        rw [if_neg hw]
        exact ⟨fun _ _=>trivial,any_in hlo hp fuel _ _ w h2⟩
theorem reg_in {id:Nat} {r:List Oper} {a:Act} {w:World} (hp:r.all (fun o=>plainOp o.op) = true) (hlo:¬ LetsOut Q) (h:wpList P r.toArray Q r a w):(Code.region id r.toArray false).wpIn (Fence.wide.inRound l) m P Q a w :=
  wpIn_region_lit (list_in hlo r a w hp h)
theorem rgI {b0 w0 w:World} {O:Nat→Prop} {D:List (World→Prop)} {G:List Pc} {a:Act} (S:St b0 w0 O D w G) {id:Nat} (ord:List (Nat × Nat)) (ds:List Nat) (hp:ops.toList.all (fun o=>plainOp o.op) = true) (hlo:¬ LetsOut Q) (hm:P.follows .mixedOrders = true) (hc:(chkO (rtab .any ops) ds (List.replicate ops.size false) ord && ord.length == ops.size) = true) (hQ:∀ c d v a w,Q (.panic c) (a.put d v) w→Q (.panic c) a w)
    (h:∀ W,St b0 w0 O D W G→wpO P ops Q (fun W=>St b0 w0 O D W G) ord a W):(Code.region id ops true).wpIn (Fence.wide.inRound l) m P Q a w:=by
  simp only [Bool.and_eq_true,beq_iff_eq] at hc
  have:=ord_any (ds:=ds) rfl hQ ord (List.replicate ops.size false) ops.size a w.drew hc.1 (by omega) (h _ S.drew)
  refine wpIn_region_any hm (any_in hlo hp _ _ _ _ (wpAny_of_last (S:=fun W=>St b0 w0 O D W G) (ds:=ds) _ _ _ _ ?_))
  simpa using this
end
theorem zip1 (p:Tmp) (v:Value) (t:Array Value):((#[p]:Array Tmp).zip #[v]).foldl (fun t (p,v)=>t.setIfInBounds p v) t = t.setIfInBounds p v:=by simp
theorem wp_calm {c:Code} {K:Act→World→Prop} {Q:Exit→Act→World→Prop} {a:Act} {w:World} (h:c.wp P (Exit.then K (fun _ _ _=>False)) a w):c.wp P (Exit.then K Q) a w:=wp_mono h (fun e a w hh=>by cases e <;> first | exact hh | exact hh.elim)
section
variable {b0 W W':World} {g t:Nat} {cs:List Value} {D:List (World→Prop)} {G:List Pc}
theorem St_box (hB:Below b0.heap.size b0 W) (hg:b0.heap.size ≤ g) (h:bxr g t cs W) (hD:Dok W (fun k=>k = g) D):St b0 W (fun k=>k = g) D W [box g t cs] :=
  ⟨hB,Kept.refl _ _,fun _=>0,(fun i p hi=>by
    cases i with
    | zero=>injection hi with hi;subst hi;exact ⟨⟨rfl,.inl rfl⟩,hg,h⟩
    | succ i=>cases hi),dft hD⟩
theorem dbx {P:Nat→Prop} (h:bxr g t cs W) (hn:¬ P g) (k:Dok W P D):Dok W P (bxr g t cs :: D):=fun q hq V hk=>by
  rcases List.mem_cons.1 hq with rfl | hq
  · exact (hk.2 _ (blk_lt h) hn).trans h
  · exact k q hq V hk
theorem dro {P ok:Nat→Prop} {α:Type} {d:Kd α} (at_:At d) {e base c:Nat} {A:Option Addr} {xs:List α} (h:d.R e W base ok (.slice A xs.length c) xs) (hn:∀ k,ok k→¬ P k) (k:Dok W P D):Dok W P (bor at_ A c xs :: D):=fun q hq V hk=>by
  rcases List.mem_cons.1 hq with rfl | hq
  · have h2:=Kd.R_reads' (Kd.R_step h (fun i hi hl=>hk.2 i hl (hn i hi)))
    exact bor_C at_ h2.2.2 h2.2.1
  · exact k q hq V hk
theorem bx_at {P:Nat→Prop} (S:St b0 W P D W' G) (i:Nat) (hi:G[i]? = some (box g t cs)):bxr g t cs W':=by
  obtain ⟨f,hf⟩:=S.own
  exact (hf i _ hi).2.2
theorem bx_ne {b0 w0:World} {P:Nat→Prop} {g' t':Nat} {cs':List Value} (S:St b0 w0 P D W' G) (i j:Nat) (hi:G[i]? = some (box g t cs)) (hj:G[j]? = some (box g' t' cs')) (hij:i ≠ j:=by decide):g ≠ g':=by
  obtain ⟨f,hf⟩:=S.own
  intro e
  subst e
  exact hij ((hf i _ hi).1.1.symm.trans (hf j _ hj).1.1)
theorem bx_all {b0 w0:World} {P:Nat→Prop} (S:St b0 w0 P D W' G) (i:Nat) (hi:G[i]? = some (box g t cs)):bxr g t cs W'∧b0.heap.size ≤ g:=by
  obtain ⟨f,hf⟩:=S.own
  exact ⟨(hf i _ hi).2.2,(hf i _ hi).2.1⟩
theorem keeps_of {B:Nat} (h:bxr g t cs W) (k:Kept W W' (fun k=>k = g)):KeepsFrom B W W':=⟨k.1,fun i o _ ho hc=>(k.2 i (Array.getElem?_eq_some_iff.1 ho).1 (fun e=>by subst e;rw [show W.heap[i]? = _ from h] at ho;cases ho;cases hc)).trans ho⟩
theorem keeps_below {B:Nat} (h:Below W.heap.size W W'):KeepsFrom B W W':=⟨h.size,fun i o _ ho _=>(h.block i (Array.getElem?_eq_some_iff.1 ho).1).trans ho⟩
theorem bxr_grown {j:Nat} (h:bxr g t cs W) (hg:W.grownBy W' (some j)) (hn:g ≠ j):bxr g t cs W':=blk_grown h hg (by simpa using hn)
end
end Go.Proofs.YtnmffpfiichjgaaV.Rf
