-- Printed by a program; checked here.
import Derived.Test.YtipaimgpmgbkiaaF0
import Derived.Test.YtipaimgpmgbkiaaF1
import Derived.Test.YtipaimgpmgbkiaaF2
import Derived.Test.YtipaimgpmgbkiaaF3
import Derived.Test.YtipaimgpmgbkiaaF4
import Derived.Test.YtipaimgpmgbkiaaF5
namespace Go.Proofs.Ytipaimgpmgbkiaa.F
open Go.RowKit Go.Proofs.YtipaimgpmgbkiaaV.PrintWords Go.Proofs.YtipaimgpmgbkiaaV.PrintLast Go.Proofs.YtipaimgpmgbkiaaV.PrintMore Go.Proofs.YtipaimgpmgbkiaaV.Sl Go.Proofs.YtipaimgpmgbkiaaV.Rf
attribute [local go_sem] max2_int min2_int max_two min_two max_three min_three max_four min_four ia_opt it_opt
attribute [local go_sem] Try.underlying23 Try.underlying25 Try.underlying29 Try.underlying31 Try.underlying42 Try.underlying50 Try.underlying85 Try.underlying88 Try.underlying89 Try.underlying106 Try.underlying122 Try.underlying127
set_option maxHeartbeats 8000000
set_option maxRecDepth 100000
set_option linter.unusedVariables false
set_option linter.unusedSimpArgs false

attribute [local go_sem high] eqA88
/-! ### impl_smallestOf: function 64 -/
def impl_smallestOf.l0:Nat→Int→Int→Int→List (S88)→List Int→List Int→Int→Int→List (S88)→Option (Int × Int × (List (S88)) × Bool)
 | 0,_,_,_,_,_,_,_,_,_=>none
 | k + 1,x25,x713000,x713001,x713002,x713003,x713004,x715000,x715001,x715002=>(impl_boardsTried.f k x713000 x713001 x713002 x713003 x713004).bind fun t715=>(if x25 < t715 then ((impl_boardOf.f k x713000 x713001 x713002 x713003 x713004 x25).bind fun bt716=>((impl_hasEnds.f k x713000 x713001 x713002 x713003 x713004 bt716.1 bt716.2.1 bt716.2.2).bind fun t722=>(if t722 = true then (if x715000 = 0 then (impl_smallestOf.l0 k (wrap64 (x25 + 1)) x713000 x713001 x713002 x713003 x713004 bt716.1 bt716.2.1 bt716.2.2) else ((impl_partsOf.f k bt716.1 bt716.2.1 bt716.2.2).bind fun t723=>((impl_partsOf.f k x715000 x715001 x715002).bind fun t724=>(if t723 < t724 then (impl_smallestOf.l0 k (wrap64 (x25 + 1)) x713000 x713001 x713002 x713003 x713004 bt716.1 bt716.2.1 bt716.2.2) else (impl_smallestOf.l0 k (wrap64 (x25 + 1)) x713000 x713001 x713002 x713003 x713004 x715000 x715001 x715002))))) else (impl_smallestOf.l0 k (wrap64 (x25 + 1)) x713000 x713001 x713002 x713003 x713004 x715000 x715001 x715002)))) else (some (x715000,x715001,x715002,decide (x715000 > 0))))
def impl_smallestOf.f (k:Nat) (a0_0:Int) (a0_1:Int) (l0_2:List (S88)) (l0_3:List Int) (l0_4:List Int):Option (Int × Int × (List (S88)) × Bool):=impl_smallestOf.l0 k 0 a0_0 a0_1 l0_2 l0_3 l0_4 0 0 ([]:List (S88))
def smallStep (k:Nat) (s:Int × Int × List S88) (r c:Int) (xs:List S88):Option ((Int × Int × List S88) × Bool):=if s.1 = 0 then some ((r,c,xs),true) else (impl_partsOf.f k r c xs).bind fun t=>(impl_partsOf.f k s.1 s.2.1 s.2.2).bind fun u=>if t < u then some ((r,c,xs),true) else some (s,true)
theorem small_fold (r c:Int) (p:List S88) (e ns:List Int):∀ (k:Nat) (n a b:Int) (xs:List S88) (q1 q2:Int) (q3:List S88) (q4:Bool),impl_smallestOf.l0 k n r c p e ns a b xs = some (q1,q2,q3,q4)→solFold smallStep r c p e ns k n (a,b,xs) = some ((q1,q2,q3),true)∧q4 = decide (q1 > 0)
 | 0,_,_,_,_,_,_,_,_,h=>by simp [impl_smallestOf.l0] at h
 | k + 1,n,a,b,xs,q1,q2,q3,q4,h=>by
  simp only [impl_smallestOf.l0] at h
  simp only [solFold]
  obtain ⟨t,h1,h⟩:=Option.bind_eq_some_iff.mp h
  rw [h1]
  simp only [Option.bind_some]
  split at h
  · rename_i ct
    rw [if_pos ct]
    obtain ⟨b2,h2,h⟩:=Option.bind_eq_some_iff.mp h
    obtain ⟨y,h3,h⟩:=Option.bind_eq_some_iff.mp h
    rw [h2]
    simp only [Option.bind_some]
    rw [h3]
    simp only [Option.bind_some]
    split at h
    · rename_i cy
      rw [if_pos cy]
      unfold smallStep
      split at h
      · rename_i c1
        rw [if_pos c1]
        simp only [Option.bind_some,if_true]
        exact small_fold r c p e ns k _ _ _ _ _ _ _ _ h
      · rename_i c1
        rw [if_neg c1]
        obtain ⟨t2,h5,h⟩:=Option.bind_eq_some_iff.mp h
        obtain ⟨u2,h6,h⟩:=Option.bind_eq_some_iff.mp h
        rw [h5]
        simp only [Option.bind_some]
        rw [h6]
        simp only [Option.bind_some]
        split at h
        · rename_i c2
          rw [if_pos c2]
          simp only [Option.bind_some,if_true]
          exact small_fold r c p e ns k _ _ _ _ _ _ _ _ h
        · rename_i c2
          rw [if_neg c2]
          simp only [Option.bind_some,if_true]
          exact small_fold r c p e ns k _ _ _ _ _ _ _ _ h
    · rename_i cy
      rw [if_neg cy]
      exact small_fold r c p e ns k _ _ _ _ _ _ _ _ h
  · rename_i ct
    rw [if_neg ct]
    simp only [Option.some.injEq,Prod.mk.injEq] at h
    obtain ⟨rfl,rfl,rfl,rfl⟩:=h
    exact ⟨rfl,rfl⟩
theorem impl_smallestOf.calls (k:Nat) (a0_0:Int) (a0_1:Int) (A0_2:Option Addr) (c0_2:Nat) (l0_2:List (S88)) (A0_3:Option Addr) (c0_3:Nat) (l0_3:List Int) (A0_4:Option Addr) (c0_4:Nat) (l0_4:List Int) (r1:Int) (r2:Int) (r3:List (S88)) (r4:Bool) (w:World) (hr0_2:Kd.C k88 w A0_2 l0_2.length l0_2) (hc0_2:l0_2.length ≤ c0_2) (hr0_3:Kd.C (Kd.int .i64) w A0_3 l0_3.length l0_3) (hc0_3:l0_3.length ≤ c0_3) (hr0_4:Kd.C (Kd.int .i64) w A0_4 l0_4.length l0_4) (hc0_4:l0_4.length ≤ c0_4) (h:impl_smallestOf.f k a0_0 a0_1 l0_2 l0_3 l0_4 = some (r1,r2,r3,r4)) :
  Calls Try.prog 64 #[.agg #[.int .i64 a0_0,.int .i64 a0_1,.slice A0_2 l0_2.length c0_2,.slice A0_3 l0_3.length c0_3,.slice A0_4 l0_4.length c0_4]] w fun e w'=>∃ v2_:Value,e = .returned (.tuple #[.agg #[.int .i64 r1,.int .i64 r2,v2_],.bool r4])∧Kd.R k88 88 w' w.heap.size (fun _=>True) v2_ r3∧Below w.heap.size w w':=by
 obtain ⟨hf,rfl⟩:=small_fold _ _ _ _ _ k _ _ _ _ _ _ _ _ h
 clear h
 have S:=St.init (w:=w) (dc k88_heap at88 hr0_2 hc0_2 (dc (Kd.heap_int .i64) (atI .i64) hr0_3 hc0_3 (dc (Kd.heap_int .i64) (atI .i64) hr0_4 hc0_4 dn)))
 have F:=S.fc
 refine (callsIn_wide (n:=9)).1 ?_
 refine callsIn_of_wp_marks Try.func64 rfl trivial ?_ rfl
 simp only [Try.ntmps64,List.size_toArray,List.length_cons,List.length_nil,Nat.reduceAdd,Nat.reduceSub,Array.replicate_succ,Array.replicate_zero,List.push_toArray,List.append_toArray,List.nil_append,List.cons_append]
 refine wpIn_wide.2 ?_
 go_wp2_with (first | ((with_reducible refine gd 1 rfl (L ?_));refine bo 1 (.agg #[_,_,_,_,_]) S ?_;clear S F;intro gb W S;have F:=S.fc) | ((with_reducible refine gd 2 rfl (L ?_));refine al 2 S zi50 ?_;clear S F;intro gr W S;have F:=S.fc) | ((with_reducible refine gd 4 rfl (L ?_));refine al 4 S zi50 ?_;clear S F;intro gB W S;have F:=S.fc) | ((with_reducible refine gs (t:=50) rfl (L ?_));(first | refine sb (.agg #[_,_,_]) S sz50 ?_ | refine ro (.agg #[_,_,_]) S sz50 ?_ (ho:=rfl) (hx:=rfl) (hy:=rfl));(clear S F;intro W S;have F:=S.fc)) | ((with_reducible refine gate_callee (f:=72) rfl (L ?_));refine cl (some 8) Try.func72 (impl_solutionsOf.calls _ _ _ _ _ _ _ _ _ _ _ W) (hargs:=by (simp only [ma_,mb_,mc_,F] <;> rfl)) (h:=?_);rintro e W2 ⟨gc,rfl,hgc,hge,hb⟩;refine ⟨_,rfl,?_⟩;have hl1:=blk_lt (bx_of S).1;replace S:=S.go hb;clear F hb;have F:=S.fc))
 (try simp only [Act.put,za_,zb_,zc_])
 have hB:=S.below
 have hn:=bx_all S 0 rfl
 have hr:=bx_all S 1 rfl
 have nr:=bx_ne S 1 0 rfl rfl
 have hlt:=blk_lt hn.1
 have hlr:=blk_lt hr.1
 have hlc:=blk_lt hgc
 have hne:gc ≠ gB:=by omega
 have hsz:=hB.size
 clear F S
 refine (wpIn_wide (n:=9)).1 ?_
 obtain ⟨I,hI⟩:∃ I:Int × Int × List S88→World→Prop,I = fun s W=>(∃ A c,bxr gB 50 [.int .i64 s.1,.int .i64 s.2.1,.slice A s.2.2.length c] W∧Kd.R k88 88 W (W2.heap.size + 2) (fun j=>W2.heap.size + 2 ≤ j) (.slice A s.2.2.length c) s.2.2)∧bxr gr 50 [.int .i64 0,.int .i64 0,.slice none 0 0] W∧Below w.heap.size w W:=⟨_,rfl⟩
 have hOw:Ow (W2.heap.size + 1) I:=by
  subst hI
  rintro s W W' ⟨⟨A,c,h1,h2⟩,h3,h4⟩ hg
  exact ⟨⟨A,c,bxr_grown h1 hg (by omega),Kd.R_step h2 (fun j hj hl=>hg.block j hl (by simp;omega))⟩,bxr_grown h3 hg (by omega),h4.grown hg h4.size (fun k e=>by cases e;omega)⟩
 refine wpIn_folds (σ:=Int × Int × List S88) (gf:=105) (lb:=#[.pointer (some ⟨gc,0,none⟩)]) (fin:=fun s' go=>((r1,r2,r3),true) = (s',go)) (s0:=(0,0,[])) rfl (by decide) rfl trivial (enters_ Try.func105 (by kernel_rfl) rfl)
  (fun Wl hb hz=>sols_folds smallStep _ k gc a0_0 a0_1 A0_2 c0_2 l0_2 A0_3 c0_3 l0_3 A0_4 c0_4 l0_4 (0,0,[]) ((r1,r2,r3),true) (fun j=>j = gB∨j = W2.heap.size + 1) (W2.heap.size + 2) Wl hz (fun W' hk=>?hq) hc0_2 hc0_3 hc0_4 hf)
  kept_trans (fun W o _=>kept_put _ _ (.inr rfl)) (fun s args W s' go hR=>by obtain ⟨_,_,_,_,_,_,_,rfl,_⟩:=hR;rfl)
  I (fun _ _ _=>False) hOw (fun _ _ _ _ h _=>h)
  (by subst hI;exact ⟨⟨none,0,hn.1,Kd.R_nil _ _ _ _ _⟩,hr.1,hB⟩)
  (fun s args a' s' go W=>I s W∧∃ gL R C xs A cap kk,smallStep kk s R C xs = some (s',go)∧gL ≠ gB∧gL ≠ W2.heap.size + 1∧bxr gL 50 [.int .i64 R,.int .i64 C,.slice A xs.length cap] W∧Kd.R k88 88 W (W2.heap.size + 2) (fun j=>W2.heap.size + 2 ≤ j) (.slice A xs.length cap) xs∧a' = { tmps:=#[.agg #[.int .i64 a0_0,.int .i64 a0_1,.slice A0_2 l0_2.length c0_2,.slice A0_3 l0_3.length c0_3,.slice A0_4 l0_4.length c0_4],.pointer (some ⟨gb,0,none⟩),.pointer (some ⟨gr,0,none⟩),.bool false,.pointer (some ⟨gB,0,none⟩),.pointer (some ⟨gL,0,none⟩),.agg #[.int .i64 0,.int .i64 0,.slice none 0 0],.agg #[.int .i64 a0_0,.int .i64 a0_1,.slice A0_2 l0_2.length c0_2,.slice A0_3 l0_3.length c0_3,.slice A0_4 l0_4.length c0_4],.func (.func 105) #[] #[.pointer (some ⟨gc,0,none⟩)],.agg #[.int .i64 R,.int .i64 C,.slice A xs.length cap],undef,undef,undef,undef,undef,undef,undef,undef,undef,undef,undef,undef,undef,undef,undef],defers:=[] }) ?hA ?assign ?body ?done ?stop
 case hq =>
  have key:∀ j,j < w.heap.size→W'.heap[j]? = w.heap[j]?:=fun j hj=>(hk.2 j (by have:=hb.size;omega) (by have:=hn.2;omega)).trans ((hb.block j (by omega)).trans (hB.block j hj))
  exact ⟨(hk.2 gc (by have:=hb.size;omega) (by omega)).trans ((hb.block gc hlc).trans hgc),k88_heap.C key hr0_2,(Kd.heap_int .i64).C key hr0_3,(Kd.heap_int .i64).C key hr0_4⟩
 case hA =>
  rintro s args a' s' go _ W W' ⟨hs,gL,R,C,xs,A,cap,kk,h0,h1,h2,h3,h4,h5⟩ hg
  exact ⟨hOw _ _ _ hs hg,gL,R,C,xs,A,cap,kk,h0,h1,h2,bxr_grown h3 hg h2,Kd.R_step h4 (fun j hj hl=>hg.block j hl (by simp;omega)),h5⟩
 case assign =>
  rintro l s args W s' go K hz hi ⟨kk,R,C,xs,hst,A,cap,rfl,hR⟩ hK
  have S:=St.init (w:=W) dn
  refine reg_in rfl (by rintro ⟨_,_,h⟩;exact h) ?_
  rw [zip1]
  simp only [za_,zb_,zc_]
  go_wp2_with (first | ((with_reducible refine gd 5 rfl (L ?_));refine al 5 S zi50 ?_;clear S;intro gL W S) | ((with_reducible refine gs (t:=50) rfl (L ?_));(first | refine sb (.agg #[_,_,_]) S sz50 ?_ | refine ro (.agg #[_,_,_]) S sz50 ?_ (ho:=rfl) (hx:=rfl) (hy:=rfl));clear S;intro W S))
  have hg:=bx_of S
  refine hK _ _ (keeps_below S.below) (Kept.of_below S.below _) ⟨hOw.below hi S.below,gL,R,C,xs,A,cap,kk,hst,?_,?_,hg.1,Kd.R_mono (Kd.R_bound (Kd.R_below hR S.below)) (fun j hj=>hj.2.1),rfl⟩
  · subst hI;obtain ⟨⟨_,_,h1,_⟩,_⟩:=hi;have:=blk_lt h1;omega
  · omega
 case body =>
  subst hI
  rintro l s args a' W s' go ⟨⟨⟨Ab,cb,h1,hRb⟩,h2,hB3⟩,gL,R,C,xs,A,cap,kk,hst,n1,n2,hb,hR,rfl⟩
  obtain ⟨W_,hW_⟩:∃ W_,W_ = W:=⟨W,rfl⟩
  rw [← hW_] at h1 hRb h2 hB3 hb hR ⊢
  clear hW_
  have S:=St_box hB3 hn.2 h1 (dbx hb n1 (dro at88 hR (fun j hj e=>by omega) (dro at88 hRb (fun j hj e=>by omega) dn)))
  have F:=S.fc
  have fin:∀ {V:World} {G:List Pc} {D:List (World→Prop)} (s2:Int × Int × List S88) (A2:Option Addr) (c2:Nat),s' = s2→go = true→St w W_ (fun j=>j = gB) D V (box gB 50 [.int .i64 s2.1,.int .i64 s2.2.1,.slice A2 s2.2.2.length c2] :: G)→Kd.R k88 88 W_ (W2.heap.size + 2) (fun j=>W2.heap.size + 2 ≤ j) (.slice A2 s2.2.2.length c2) s2.2.2→fpost W2.heap.size (fun W W'=>Kept W W' fun j=>j = gB∨j = W2.heap.size + 1) (fun s W=>(∃ A c,bxr gB 50 [.int .i64 s.1,.int .i64 s.2.1,.slice A s.2.2.length c] W∧Kd.R k88 88 W (W2.heap.size + 2) (fun j=>W2.heap.size + 2 ≤ j) (.slice A s.2.2.length c) s.2.2)∧bxr gr 50 [.int .i64 0,.int .i64 0,.slice none 0 0] W∧Below w.heap.size w W) (fun _ _ _=>False) s' go W_ .normal { tmps:=#[],defers:=[] } V:=fun s2 A2 c2 e1 e2 S hR2=>⟨e2,keeps_of h1 S.kept,S.kept.mono (fun _ h=>.inl h),e1 ▸ ⟨A2,c2,bx_at S 0 rfl,Kd.R_step hR2 (fun j hj hl=>S.kept.2 j hl (by omega))⟩,(S.kept.2 _ (blk_lt h2) nr).trans h2,S.below⟩
  refine wpIn_block ?_
  apply wpIn_seq_k
  intro K hK
  unfold smallStep at hst
  split at hst
  · rename_i c1
    cases hst
    refine rgI S [(0,0),(1,1),(0,2),(0,3),(0,4),(0,5),(0,6),(0,7),(0,8),(0,9)] [] rfl (by rintro ⟨_,_,h⟩;exact h) (by kernel_rfl) (by kernel_rfl) (fun _ d _ _ _ h=>by cases d <;> exact h) ?_
    clear S F;intro W S;have S0:=S;have F:=S.fc
    repeat (first | (refine q0 (h:=?_)) | (refine q1 S0 (h:=?_)) | (refine q0n (h:=?_)) | (refine q1n S0 (h:=?_)))
    refine oz ?_
    refine hK _ _ (wpIn_cond_split rfl (fun ht=>?_) (fun ht=>?_))
    · clear ht
      refine reg_in rfl (by rintro ⟨_,_,h⟩;exact h) ?_
      go_wp2_with ((with_reducible refine gs (t:=50) rfl (L ?_));(first | refine sb (.agg #[_,_,_]) S sz50 ?_ | refine ro (.agg #[_,_,_]) S sz50 ?_ (ho:=rfl) (hx:=rfl) (hy:=rfl));(clear S F;intro W S;have F:=S.fc))
      exact fin (R,C,xs) A cap (by first | rfl | trivial) (by first | rfl | trivial) S hR
    · cases ht
  · rename_i c1
    replace c1:=cne c1
    obtain ⟨t,A32,hst⟩:=Option.bind_eq_some_iff.mp hst
    obtain ⟨u,A33,hst⟩:=Option.bind_eq_some_iff.mp hst
    refine rgI S [(0,0),(1,1),(0,2),(0,3),(1,4),(1,6),(2,5),(2,7),(0,8),(0,9)] [] rfl (by rintro ⟨_,_,h⟩;exact h) (by kernel_rfl) (by kernel_rfl) (fun _ d _ _ _ h=>by cases d <;> exact h) ?_
    clear S F;intro W S;have S0:=S;have F:=S.fc
    repeat (first | (refine q0 (h:=?_)) | (refine q1 S0 (h:=?_)) | (refine q0n (h:=?_)) | (refine q1n S0 (h:=?_)))
    refine lk2 (by rfl) (by exact (Eq.refl true)) ?_;refine cl (some 15) Try.func65 (impl_partsOf.calls _ _ _ _ _ _ _ _ S.c S.n A32) (hargs:=by (simp only [ma_,mb_,mc_,F] <;> rfl)) (h:=?_);rintro e W ⟨rfl,hb⟩;refine ⟨_,rfl,?_⟩;replace S:=S.go hb;clear F hb;have F:=S.fc
    clear S0;have S0:=S;refine ⟨S0,?_⟩
    refine lk2 (by rfl) (by exact (Eq.refl true)) ?_;refine cl (some 17) Try.func65 (impl_partsOf.calls _ _ _ _ _ _ _ _ S.c S.n A33) (hargs:=by (simp only [ma_,mb_,mc_,F] <;> rfl)) (h:=?_);rintro e W ⟨rfl,hb⟩;refine ⟨_,rfl,?_⟩;replace S:=S.go hb;clear F hb;have F:=S.fc
    clear S0;have S0:=S;refine ⟨S0,?_⟩
    repeat (first | (refine q0 (h:=?_)) | (refine q1 S0 (h:=?_)) | (refine q0n (h:=?_)) | (refine q1n S0 (h:=?_)))
    refine oz ?_
    refine hK _ _ (wpIn_cond_split rfl (fun ht=>?_) (fun ht=>?_))
    · rw [if_pos (by simpa using ht)] at hst
      cases hst
      clear ht
      refine reg_in rfl (by rintro ⟨_,_,h⟩;exact h) ?_
      go_wp2_with ((with_reducible refine gs (t:=50) rfl (L ?_));(first | refine sb (.agg #[_,_,_]) S sz50 ?_ | refine ro (.agg #[_,_,_]) S sz50 ?_ (ho:=rfl) (hx:=rfl) (hy:=rfl));(clear S F;intro W S;have F:=S.fc))
      exact fin (R,C,xs) A cap (by first | rfl | trivial) (by first | rfl | trivial) S hR
    · rw [if_neg (by simpa using ht)] at hst
      cases hst
      exact wpIn_skip (fin _ Ab cb rfl rfl S hRb)
 case done =>
  subst hI
  rintro s' W hs ⟨⟨Ab,cb,h1,hRb⟩,h2,hB3⟩ hD
  cases hs
  have hDl:=blk_lt hD
  have S:=St_box (g:=gr) hB3 hr.2 h2 (dbx h1 (fun e=>nr e.symm) (dro at88 hRb (fun j hj e=>by omega) dn))
  have F:=S.fc
  go_wp2_with ((with_reducible refine gs (t:=50) rfl (L ?_));(first | refine sb (.agg #[_,_,_]) S sz50 ?_ | refine ro (.agg #[_,_,_]) S sz50 ?_ (ho:=rfl) (hx:=rfl) (hy:=rfl));(clear S F;intro W S;have F:=S.fc))
  refine wp_calm ?_
  refine rgP S (fun _ S=>(S.pm [])) [(0,1),(1,0),(1,2),(0,3),(2,4),(0,5)] [] (by kernel_rfl) (by kernel_rfl) (fun _ d _ _ _ h=>by cases d <;> exact h) ?_
  clear S F;intro W S;have S0:=(S.pm []);have F:=S.fc
  repeat (first | (refine q0 (h:=?_)) | (refine q1 S0 (h:=?_)) | (refine q0n (h:=?_)) | (refine q1n S0 (h:=?_)))
  refine lk2 (by rfl) (by exact (Eq.refl true)) ?_;(first | refine sb (.agg #[_,_,_]) S sz50 ?_ | refine ro (.agg #[_,_,_]) S sz50 ?_ (ho:=rfl) (hx:=rfl) (hy:=rfl));(clear S F;intro W S;have F:=S.fc)
  clear S0;have S0:=(S.pm []);refine ⟨S0,?_⟩
  repeat (first | (refine q0 (h:=?_)) | (refine q1 S0 (h:=?_)) | (refine q0n (h:=?_)) | (refine q1n S0 (h:=?_)))
  refine oz ?_
  go_wp2
  have hD2:=(S.kept.2 _ hDl (by omega)).trans hD
  refine ⟨by simp,.inl ⟨_,_,rfl,run_takeDeferred hD2,?_⟩⟩
  have hg9:=grownBy_putObj' W W2.heap.size (.deferred none)
  exact ⟨_,results_ct rfl _ _ gr 50 #[.int .i64 r1,.int .i64 r2,.slice Ab r3.length cb] (0,0) _ rfl (bxr_grown (bx_at S 0 rfl) hg9 (by omega)) Try.underlying50 rfl (by kernel_rfl),_,rfl,Kd.R_lower (Kd.R_mono (Kd.R_step hRb (fun j hj hl=>(hg9.block j (Nat.lt_of_lt_of_le hl S.kept.1) (by simp;omega)).trans (S.kept.2 j hl (by omega)))) (fun _ _=>trivial)) (by omega),S.below.grown hg9 S.below.size (fun k e=>by cases e;exact hsz)⟩
 case stop=>exact fun c s' W _ h _=>h.elim

/-! ### impl_countSolutions: function 69 -/
def impl_countSolutions.l0:Nat→Int→Int→Int→Int→List (S88)→List Int→List Int→Option (Int)
 | 0,_,_,_,_,_,_,_=>none
 | k + 1,x3,x10,x726000,x726001,x726002,x726003,x726004=>(impl_boardsTried.f k x726000 x726001 x726002 x726003 x726004).bind fun t726=>(if x10 < t726 then ((impl_boardOf.f k x726000 x726001 x726002 x726003 x726004 x10).bind fun bt727=>((impl_hasEnds.f k x726000 x726001 x726002 x726003 x726004 bt727.1 bt727.2.1 bt727.2.2).bind fun t733=>(if t733 = true then (impl_countSolutions.l0 k (wrap64 (x3 + 1)) (wrap64 (x10 + 1)) x726000 x726001 x726002 x726003 x726004) else (impl_countSolutions.l0 k x3 (wrap64 (x10 + 1)) x726000 x726001 x726002 x726003 x726004)))) else (some x3))
def impl_countSolutions.f (k:Nat) (a0_0:Int) (a0_1:Int) (l0_2:List (S88)) (l0_3:List Int) (l0_4:List Int):Option (Int):=impl_countSolutions.l0 k 0 0 a0_0 a0_1 l0_2 l0_3 l0_4
theorem count_fold (r c:Int) (p:List S88) (e ns:List Int):∀ (k:Nat) (s n q:Int),impl_countSolutions.l0 k s n r c p e ns = some q→solFold (fun _ s _ _ _=>some (wrap64 (s + 1),true)) r c p e ns k n s = some (q,true)
 | 0,_,_,_,h=>by simp [impl_countSolutions.l0] at h
 | k + 1,s,n,q,h=>by
  simp only [impl_countSolutions.l0] at h
  simp only [solFold]
  obtain ⟨t,h1,h⟩:=Option.bind_eq_some_iff.mp h
  rw [h1]
  simp only [Option.bind_some]
  split at h
  · rename_i ct
    rw [if_pos ct]
    obtain ⟨b,h2,h⟩:=Option.bind_eq_some_iff.mp h
    obtain ⟨y,h3,h⟩:=Option.bind_eq_some_iff.mp h
    rw [h2]
    simp only [Option.bind_some]
    rw [h3]
    simp only [Option.bind_some]
    split at h
    · rename_i cy
      rw [if_pos cy,if_pos trivial]
      exact count_fold r c p e ns k _ _ _ h
    · rename_i cy
      rw [if_neg cy]
      exact count_fold r c p e ns k _ _ _ h
  · rename_i ct
    rw [if_neg ct]
    cases h;rfl
theorem impl_countSolutions.calls (k:Nat) (a0_0:Int) (a0_1:Int) (A0_2:Option Addr) (c0_2:Nat) (l0_2:List (S88)) (A0_3:Option Addr) (c0_3:Nat) (l0_3:List Int) (A0_4:Option Addr) (c0_4:Nat) (l0_4:List Int) (r:Int) (w:World) (hr0_2:Kd.C k88 w A0_2 l0_2.length l0_2) (hc0_2:l0_2.length ≤ c0_2) (hr0_3:Kd.C (Kd.int .i64) w A0_3 l0_3.length l0_3) (hc0_3:l0_3.length ≤ c0_3) (hr0_4:Kd.C (Kd.int .i64) w A0_4 l0_4.length l0_4) (hc0_4:l0_4.length ≤ c0_4) (h:impl_countSolutions.f k a0_0 a0_1 l0_2 l0_3 l0_4 = some r) :
  Calls Try.prog 69 #[.agg #[.int .i64 a0_0,.int .i64 a0_1,.slice A0_2 l0_2.length c0_2,.slice A0_3 l0_3.length c0_3,.slice A0_4 l0_4.length c0_4]] w fun e w'=>e = .returned (.int .i64 r)∧Below w.heap.size w w':=by
 replace h:=count_fold _ _ _ _ _ k _ _ _ h
 have S:=St.init (w:=w) (dc k88_heap at88 hr0_2 hc0_2 (dc (Kd.heap_int .i64) (atI .i64) hr0_3 hc0_3 (dc (Kd.heap_int .i64) (atI .i64) hr0_4 hc0_4 dn)))
 have F:=S.fc
 refine (callsIn_wide (n:=9)).1 ?_
 refine callsIn_of_wp_marks Try.func69 rfl trivial ?_ rfl
 simp only [Try.ntmps69,List.size_toArray,List.length_cons,List.length_nil,Nat.reduceAdd,Nat.reduceSub,Array.replicate_succ,Array.replicate_zero,List.push_toArray,List.append_toArray,List.nil_append,List.cons_append]
 refine wpIn_wide.2 ?_
 go_wp2_with (first | ((with_reducible refine gd 1 rfl (L ?_));refine bo 1 (.agg #[_,_,_,_,_]) S ?_;clear S F;intro gb W S;have F:=S.fc) | ((with_reducible refine gd 3 rfl (L ?_));refine al 3 S zi3 ?_;clear S F;intro gn W S;have F:=S.fc) | ((with_reducible refine gs (t:=3) rfl (L ?_));(first | refine sb (.int .i64 _) S sz3 ?_ | refine ro (.int .i64 _) S sz3 ?_ (ho:=rfl) (hx:=rfl) (hy:=rfl));(clear S F;intro W S;have F:=S.fc)) | ((with_reducible refine gate_callee (f:=72) rfl (L ?_));have hgn:=bx_of S;refine cl (some 5) Try.func72 (impl_solutionsOf.calls _ _ _ _ _ _ _ _ _ _ _ W) (hargs:=by (simp only [ma_,mb_,mc_,F] <;> rfl)) (h:=?_);rintro e W2 ⟨gc,rfl,hgc,hge,hb⟩;refine ⟨_,rfl,?_⟩;replace S:=S.go hb;clear F hb;have F:=S.fc))
 (try simp only [Act.put,za_,zb_,zc_])
 have hB:=S.below
 have hgn2:=bx_of S
 have hlt:=blk_lt hgn2.1
 have hlc:=blk_lt hgc
 have hne:gc ≠ gn:=by have:=blk_lt hgn.1;omega
 have hsz:=hB.size
 clear F S hgn
 refine (wpIn_wide (n:=9)).1 ?_
 refine wpIn_folds (σ:=Int) (gf:=105) (lb:=#[.pointer (some ⟨gc,0,none⟩)]) (fin:=fun s' go=>(r,true) = (s',go)) (s0:=0) rfl (by decide) rfl trivial (enters_ Try.func105 (by kernel_rfl) rfl)
  (fun Wl hb hz=>sols_folds (fun _ s _ _ _=>some (wrap64 (s + 1),true)) _ k gc a0_0 a0_1 A0_2 c0_2 l0_2 A0_3 c0_3 l0_3 A0_4 c0_4 l0_4 0 (r,true) (fun j=>j = gn∨j = W2.heap.size + 1) 0 Wl (Nat.zero_le _) (fun W' hk=>?hq) hc0_2 hc0_3 hc0_4 h)
  kept_trans (fun W o _=>kept_put _ _ (.inr rfl)) (fun s args W s' go hR=>by obtain ⟨_,_,_,_,_,_,_,rfl,_⟩:=hR;rfl)
  (fun s W=>bxr gn 3 [.int .i64 s] W∧Below w.heap.size w W) (fun _ _ _=>False)
  (fun s W W' hs hg=>⟨bxr_grown hs.1 hg (by omega),hs.2.grown hg hs.2.size (fun k e=>by cases e;omega)⟩) (fun _ _ _ _ h _=>h)
  ⟨hgn2.1,hB⟩
  (fun s args a' s' go W=>(bxr gn 3 [.int .i64 s] W∧Below w.heap.size w W)∧s' = wrap64 (s + 1)∧go = true∧∃ v,a' = { tmps:=#[.agg #[.int .i64 a0_0,.int .i64 a0_1,.slice A0_2 l0_2.length c0_2,.slice A0_3 l0_3.length c0_3,.slice A0_4 l0_4.length c0_4],.pointer (some ⟨gb,0,none⟩),.int .i64 0,.pointer (some ⟨gn,0,none⟩),.agg #[.int .i64 a0_0,.int .i64 a0_1,.slice A0_2 l0_2.length c0_2,.slice A0_3 l0_3.length c0_3,.slice A0_4 l0_4.length c0_4],.func (.func 105) #[] #[.pointer (some ⟨gc,0,none⟩)],v,undef,undef,undef],defers:=[] }) ?hA ?assign ?body ?done ?stop
 case hq =>
  have key:∀ j,j < w.heap.size→W'.heap[j]? = w.heap[j]?:=fun j hj=>(hk.2 j (by have:=hb.size;omega) (by have:=hgn2.2;omega)).trans ((hb.block j (by omega)).trans (hB.block j hj))
  exact ⟨(hk.2 gc (by have:=hb.size;omega) (by omega)).trans ((hb.block gc hlc).trans hgc),k88_heap.C key hr0_2,(Kd.heap_int .i64).C key hr0_3,(Kd.heap_int .i64).C key hr0_4⟩
 case hA=>exact fun s args a' s' go _ W W' hs hg=>⟨⟨bxr_grown hs.1.1 hg (by omega),hs.1.2.grown hg hs.1.2.size (fun k e=>by cases e;omega)⟩,hs.2⟩
 case assign =>
  intro l s args W s' go K hz hi hR hK
  obtain ⟨_,bR,bC,bX,hst,A,cap,rfl,_⟩:=hR
  cases hst
  exact wpIn_skip (hK _ _ (KeepsFrom.refl _ _) (Kept.refl _ _) ⟨hi,rfl,rfl,.agg #[.int .i64 bR,.int .i64 bC,.slice A bX.length cap],by simp⟩)
 case body =>
  rintro l s args a' W s' go ⟨⟨hc,hB3⟩,rfl,rfl,v,rfl⟩
  have S:=St_box hB3 hgn2.2 hc dn
  have F:=S.fc
  refine wpIn_block (reg_in rfl (by rintro ⟨_,_,h⟩;exact h) ?_)
  go_wp2_with ((with_reducible refine gs (t:=3) rfl (L ?_));(first | refine sb (.int .i64 _) S sz3 ?_ | refine ro (.int .i64 _) S sz3 ?_ (ho:=rfl) (hx:=rfl) (hy:=rfl));(clear S F;intro W S;have F:=S.fc))
  exact ⟨rfl,keeps_of hc S.kept,S.kept.mono (fun _ h=>.inl h),bx_at S 0 rfl,S.below⟩
 case done =>
  rintro s' W hs ⟨hc,hB3⟩ hD
  cases hs
  have hcell:=(blk_cell hc 0).trans rfl
  go_wp2
  refine ⟨by simp,.inl ⟨_,_,rfl,run_takeDeferred hD,?_⟩⟩
  exact ⟨_,results_tmp rfl _ _ _,rfl,hB3.grown (grownBy_putObj' W _ _) hB3.size (fun k e=>by cases e;exact hsz)⟩
 case stop=>exact fun c s' W _ h _=>h.elim

/-! ### impl_copyChallenge: function 95 -/
def impl_copyChallenge.f (a0_0:Int) (a0_1:Int) (l0_2:List (S88)) (l0_3:List Int) (l0_4:List Int):Option (Int × Int × (List (S88)) × List Int × List Int):=(some (([]:List (S88)):List (S88))).bind fun y736=>(if y736.length + l0_2.length < 8796093022208 then ((some (([]:List Int):List Int)).bind fun y742=>(if y742.length + l0_3.length < 17592186044416 then ((some (([]:List Int):List Int)).bind fun y748=>(if y748.length + l0_4.length < 17592186044416 then (some (a0_0,a0_1,(y736 ++ l0_2),(y742 ++ l0_3),(y748 ++ l0_4))) else (none))) else (none))) else (none))
theorem impl_copyChallenge.calls (a0_0:Int) (a0_1:Int) (A0_2:Option Addr) (c0_2:Nat) (l0_2:List (S88)) (A0_3:Option Addr) (c0_3:Nat) (l0_3:List Int) (A0_4:Option Addr) (c0_4:Nat) (l0_4:List Int) (r1:Int) (r2:Int) (r3:List (S88)) (r4:List Int) (r5:List Int) (w:World) (hr0_2:Kd.C k88 w A0_2 l0_2.length l0_2) (hc0_2:l0_2.length ≤ c0_2) (hr0_3:Kd.C (Kd.int .i64) w A0_3 l0_3.length l0_3) (hc0_3:l0_3.length ≤ c0_3) (hr0_4:Kd.C (Kd.int .i64) w A0_4 l0_4.length l0_4) (hc0_4:l0_4.length ≤ c0_4) (h:impl_copyChallenge.f a0_0 a0_1 l0_2 l0_3 l0_4 = some (r1,r2,r3,r4,r5)) :
  Calls Try.prog 95 #[.agg #[.int .i64 a0_0,.int .i64 a0_1,.slice A0_2 l0_2.length c0_2,.slice A0_3 l0_3.length c0_3,.slice A0_4 l0_4.length c0_4]] w fun e w'=>∃ v2_ v3_ v4_:Value,e = .returned (.agg #[.int .i64 r1,.int .i64 r2,v2_,v3_,v4_])∧Kd.R k88 88 w' w.heap.size (fun _=>True) v2_ r3∧Kd.R (Kd.int .i64) 3 w' w.heap.size (fun k_=>some k_ ≠ (v4_:Value).ownBlock) v3_ r4∧Kd.R (Kd.int .i64) 3 w' w.heap.size (fun k_=>some k_ ≠ (v3_:Value).ownBlock) v4_ r5∧Below w.heap.size w w':=by
 have HR0_2:=Aside0.mk hr0_2;have HC0_2:=Aside0.mk hc0_2;clear hr0_2 hc0_2;have HR0_3:=Aside0.mk hr0_3;have HC0_3:=Aside0.mk hc0_3;clear hr0_3 hc0_3;have HR0_4:=Aside0.mk hr0_4;have HC0_4:=Aside0.mk hc0_4;clear hr0_4 hc0_4;have HB:=Aside0.mk (Below.refl w.heap.size w);have H:((some (([]:List (S88)):List (S88))).bind fun y736=>(if y736.length + l0_2.length < 8796093022208 then ((some (([]:List Int):List Int)).bind fun y742=>(if y742.length + l0_3.length < 17592186044416 then ((some (([]:List Int):List Int)).bind fun y748=>(if y748.length + l0_4.length < 17592186044416 then (some (a0_0,a0_1,(y736 ++ l0_2),(y742 ++ l0_3),(y748 ++ l0_4))) else (none))) else (none))) else (none))) = some (r1,r2,r3,r4,r5):=h;clear h;obtain ⟨y736,hy736⟩:∃ y_:List (S88),y_ = (([]:List (S88))):=⟨_,rfl⟩
 replace H:(if y736.length + l0_2.length < 8796093022208 then ((some (([]:List Int):List Int)).bind fun y742=>(if y742.length + l0_3.length < 17592186044416 then ((some (([]:List Int):List Int)).bind fun y748=>(if y748.length + l0_4.length < 17592186044416 then (some (a0_0,a0_1,(y736 ++ l0_2),(y742 ++ l0_3),(y748 ++ l0_4))) else (none))) else (none))) else (none)) = some (r1,r2,r3,r4,r5):=by first | (rw [hy736];with_reducible exact H) | (have H2_:=(Option.bind_some _ _).symm.trans H;rw [hy736];with_reducible exact H2_) | (have H2_:=(Option.bind_some _ _).symm.trans H;with_reducible exact H2_) | with_reducible exact H | (rw [hy736];exact H) | exact H
 have Ny736:=Aside0.mk hy736;clear hy736;replace H:=np_ H;obtain ⟨c2,H⟩:=H;have LMc2:=Aside0.mk c2;clear c2;obtain ⟨y739,hy739⟩:∃ y_:List (S88),y_ = (y736 ++ l0_2):=⟨_,rfl⟩
 replace H:((some (([]:List Int):List Int)).bind fun y742=>(if y742.length + l0_3.length < 17592186044416 then ((some (([]:List Int):List Int)).bind fun y748=>(if y748.length + l0_4.length < 17592186044416 then (some (a0_0,a0_1,y739,(y742 ++ l0_3),(y748 ++ l0_4))) else (none))) else (none))) = some (r1,r2,r3,r4,r5):=by first | (rw [hy739];with_reducible exact H) | (have H2_:=(Option.bind_some _ _).symm.trans H;rw [hy739];with_reducible exact H2_) | (have H2_:=(Option.bind_some _ _).symm.trans H;with_reducible exact H2_) | with_reducible exact H | (rw [hy739];exact H) | exact H
 have Ny739:=Aside0.mk hy739;clear hy739;obtain ⟨y742,hy742⟩:∃ y_:List Int,y_ = (([]:List Int)):=⟨_,rfl⟩
 replace H:(if y742.length + l0_3.length < 17592186044416 then ((some (([]:List Int):List Int)).bind fun y748=>(if y748.length + l0_4.length < 17592186044416 then (some (a0_0,a0_1,y739,(y742 ++ l0_3),(y748 ++ l0_4))) else (none))) else (none)) = some (r1,r2,r3,r4,r5):=by first | (rw [hy742];with_reducible exact H) | (have H2_:=(Option.bind_some _ _).symm.trans H;rw [hy742];with_reducible exact H2_) | (have H2_:=(Option.bind_some _ _).symm.trans H;with_reducible exact H2_) | with_reducible exact H | (rw [hy742];exact H) | exact H
 have Ny742:=Aside0.mk hy742;clear hy742;replace H:=np_ H;obtain ⟨c3,H⟩:=H;have LMc3:=Aside0.mk c3;clear c3;obtain ⟨y745,hy745⟩:∃ y_:List Int,y_ = (y742 ++ l0_3):=⟨_,rfl⟩
 replace H:((some (([]:List Int):List Int)).bind fun y748=>(if y748.length + l0_4.length < 17592186044416 then (some (a0_0,a0_1,y739,y745,(y748 ++ l0_4))) else (none))) = some (r1,r2,r3,r4,r5):=by first | (rw [hy745];with_reducible exact H) | (have H2_:=(Option.bind_some _ _).symm.trans H;rw [hy745];with_reducible exact H2_) | (have H2_:=(Option.bind_some _ _).symm.trans H;with_reducible exact H2_) | with_reducible exact H | (rw [hy745];exact H) | exact H
 have Ny745:=Aside0.mk hy745;clear hy745;obtain ⟨y748,hy748⟩:∃ y_:List Int,y_ = (([]:List Int)):=⟨_,rfl⟩
 replace H:(if y748.length + l0_4.length < 17592186044416 then (some (a0_0,a0_1,y739,y745,(y748 ++ l0_4))) else (none)) = some (r1,r2,r3,r4,r5):=by first | (rw [hy748];with_reducible exact H) | (have H2_:=(Option.bind_some _ _).symm.trans H;rw [hy748];with_reducible exact H2_) | (have H2_:=(Option.bind_some _ _).symm.trans H;with_reducible exact H2_) | with_reducible exact H | (rw [hy748];exact H) | exact H
 have Ny748:=Aside0.mk hy748;clear hy748;replace H:=np_ H;obtain ⟨c4,H⟩:=H;have LMc4:=Aside0.mk c4;clear c4;obtain ⟨y751,hy751⟩:∃ y_:List Int,y_ = (y748 ++ l0_4):=⟨_,rfl⟩
 replace H:(some (a0_0,a0_1,y739,y745,y751)) = some (r1,r2,r3,r4,r5):=by first | (rw [hy751];with_reducible exact H) | (have H2_:=(Option.bind_some _ _).symm.trans H;rw [hy751];with_reducible exact H2_) | (have H2_:=(Option.bind_some _ _).symm.trans H;with_reducible exact H2_) | with_reducible exact H | (rw [hy751];exact H) | exact H
 have Ny751:=Aside0.mk hy751;clear hy751;simp only [Option.some.injEq,Prod.mk.injEq] at H;obtain ⟨rfl,rfl,rfl,rfl,rfl⟩:=H;go_enter Try.func95,Try.ntmps95;go_wp2_with (first | ((with_reducible refine gate_dst (N:=1) rfl ?_);refine box_event ?hg (N:=1) ?hd (cs:=#[.int .i64 a0_0,.int .i64 a0_1,.slice A0_2 l0_2.length c0_2,.slice A0_3 l0_3.length c0_3,.slice A0_4 l0_4.length c0_4]) (t:=31) ?hr ?_;(case hd=>rfl);(case hg=>rfl);(case hr=>first | (go_simp;done) | (go_simp;rfl));intro gb734 hg w5 hbox hb;refine ev4 (bs HB hb) (hbox) (gle hg HB) (gle hg HB) ?_;clear HB;intro HB BK734 GW734 GE734;clear hb hbox hg) | ((with_reducible refine gate_dst (N:=2) rfl ?_);refine box_event ?hg (N:=2) ?hd (cs:=#[.int .i64 0,.int .i64 0,.slice none 0 0,.slice none 0 0,.slice none 0 0]) (t:=31) ?hr ?_;(case hd=>rfl);(case hg=>rfl);(case hr=>first | (go_simp;done) | (go_simp;rfl));intro gb735 hg w6 hbox hb;refine ev7 (kb BK734 hb) (bs HB hb) (hbox) (gle hg HB) (gle hg HB) (gnf hg BK734) (gne hg BK734) ?_;clear BK734 HB;intro BK734 HB BK735 GW735 GE735 NB734_735 NB735_734;clear hb hbox hg) | ((with_reducible refine gate_dst (N:=3) rfl ?_);refine Kd.R_lit k88 _ 88 ?hg (N:=3) ?hd (xs:=([]:List (S88))) (inner:=[]) (ok:=fun _=>True) (okp:=fun _=>True) ?hr ?hp (fun _ hk=>hk) trivial (Below.refl _ _) (Nat.le_refl _) (by simp) ?_;(case hd=>rfl);(case hg=>rfl);(case hr=>first | (go_simp;done) | (go_simp;rfl));(case hp=>exact (Reps.none _ _));intro v737 w7 ho8 hb hg_ hnew_;clear hg_ hnew_;(first | rw [← Ny736.out] at ho8 | (simp only [Int.reduceToNat] at ho8;rw [← Ny736.out] at ho8));refine ev4 (Kd.R_lower ho8 (below_size (bm HB))) (kb BK734 hb) (kb BK735 hb) (bs HB hb) ?_;clear BK734 BK735 HB;intro HO738 BK734 BK735 HB;clear hb ho8;have hnb9:=NB734_735.out;have hnc9:=NB735_734.out;obtain ⟨hcz10_0,hcz10_1,hcz10_2,hcz10_3,hcz10_4,hfz10_0,hfz10_1,hfz10_2,hfz10_3,hfz10_4⟩:=bt5 BK734) | ((with_reducible refine gate_builtin (b:=.append) (xs:=#[.tmp 3,.tmp 5]) rfl ?_);at_builtin;refine Kd.R_append_rows k88 (w0:=w) w.heap.size rfl (.tmp 3) (.tmp 5) 29 88 (.agg #[(.int .i64 0),(.int .i64 0)]) 16 rfl Try.underlying29 info88 rfl (by decide) (by omega) v737 y736 l0_2 _ _ _ (fun _=>True) (fun _=>False) rfl rfl ?aO ?aR (fun _ _ h=>h) (fun _ h=>h.elim) ?aF ?aB ?aS ?aL ?_;(case aR=>exact Kd.C_mv (Kd.C_below HR0_2.out HB.out));(case aB=>exact (bm HB));(case aF=>exact (fun _ _=>trivial));(case aO=>exact (Kd.R_mv HO738.out));(case aS=>exact (below_size (bm HB)));(case aL=>have:=LMc2.out;omega);intro v740 w11 ho hb hg hat;rw [← Ny739.out] at ho;refine ev4 (blk_grown (km_ BK734) hg (Kd.R_ne HO738.out BK734.out (by decide))) (blk_grown (km_ BK735) hg (Kd.R_ne HO738.out BK735.out (by decide))) (hb) (ho) ?_;clear BK734 BK735 HB HO738;intro BK734 BK735 HB HO741;clear ho hb hg hat;obtain ⟨Ao12,co12,eo12⟩:=Kd.R_slice HO741.out;subst eo12;obtain ⟨hcz13_0,hcz13_1,hcz13_2,hcz13_3,hcz13_4,hfz13_0,hfz13_1,hfz13_2,hfz13_3,hfz13_4⟩:=bt5 BK734) | ((with_reducible refine gate_dst (N:=8) rfl ?_);refine Kd.R_lit (Kd.int .i64) _ 3 ?hg (N:=8) ?hd (xs:=([]:List Int)) (inner:=[]) (ok:=fun _=>True) (okp:=fun _=>True) ?hr ?hp (fun _ hk=>hk) trivial (Below.refl _ _) (Nat.le_refl _) (by simp) ?_;(case hd=>rfl);(case hg=>rfl);(case hr=>first | (go_simp;done) | (go_simp;rfl));(case hp=>exact (Reps.none _ _));intro v743 w14 ho15 hb hg_ hnew_;clear hg_ hnew_;(first | rw [← Ny742.out] at ho15 | (simp only [Int.reduceToNat] at ho15;rw [← Ny742.out] at ho15));refine ev5 (Kd.R_below (Kd.R_ft HO741.out BK734.out (by decide)) hb) (Kd.R_lower ho15 (below_size (bm HB))) (blk_below (g:=gb734) (o:=.cells #[.int .i64 a0_0,.int .i64 a0_1,.slice Ao12 y739.length co12,.slice A0_3 l0_3.length c0_3,.slice A0_4 l0_4.length c0_4] 31 (0,0)) (fp BK734 rfl) hb) (blk_below (g:=gb735) (o:=.cells #[.int .i64 0,.int .i64 0,.slice none 0 0,.slice none 0 0,.slice none 0 0] 31 (0,0)) (fp BK735 rfl) hb) (bs HB hb) ?_;clear HO741 BK734 BK735 HB;intro HO741 HO744 BK734 BK735 HB;clear hb ho15;obtain ⟨hcz16_0,hcz16_1,hcz16_2,hcz16_3,hcz16_4,hfz16_0,hfz16_1,hfz16_2,hfz16_3,hfz16_4⟩:=bt5 BK734) | ((with_reducible refine gate_builtin (b:=.append) (xs:=#[.tmp 8,.tmp 10]) rfl ?_);at_builtin;refine Kd.R_append_rows (Kd.int .i64) (w0:=w) w.heap.size rfl (.tmp 8) (.tmp 10) 23 3 (.int .i64 0) 8 rfl Try.underlying23 info3 rfl (by decide) (by omega) v743 y742 l0_3 _ _ _ (fun _=>True) (fun _=>False) rfl rfl ?aO ?aR (fun _ _ h=>h) (fun _ h=>h.elim) ?aF ?aB ?aS ?aL ?_;(case aR=>exact Kd.C_mv (Kd.C_below HR0_3.out HB.out));(case aB=>exact (bm HB));(case aF=>exact (fun _ _=>trivial));(case aO=>exact (Kd.R_mv HO744.out));(case aS=>exact (below_size (bm HB)));(case aL=>have:=LMc3.out;omega);intro v746 w17 ho hb hg hat;rw [← Ny745.out] at ho;refine ev5 (blk_grown (km_ BK734) hg (Kd.R_ne HO744.out BK734.out (by decide))) (blk_grown (km_ BK735) hg (Kd.R_ne HO744.out BK735.out (by decide))) (Kd.R_over' (Kd.R_mv HO741.out) (Kd.R_typed (Kd.R_mv HO744.out)) (by decide) hg) (hb) (ho) ?_;clear BK734 BK735 HO741 HB HO744;intro BK734 BK735 HO741 HB HO747;clear ho hb hg hat;obtain ⟨Ao18,co18,eo18⟩:=Kd.R_slice HO747.out;subst eo18;obtain ⟨hcz19_0,hcz19_1,hcz19_2,hcz19_3,hcz19_4,hfz19_0,hfz19_1,hfz19_2,hfz19_3,hfz19_4⟩:=bt5 BK734) | ((with_reducible refine gate_dst (N:=13) rfl ?_);refine Kd.R_lit (Kd.int .i64) _ 3 ?hg (N:=13) ?hd (xs:=([]:List Int)) (inner:=[]) (ok:=fun _=>True) (okp:=fun _=>True) ?hr ?hp (fun _ hk=>hk) trivial (Below.refl _ _) (Nat.le_refl _) (by simp) ?_;(case hd=>rfl);(case hg=>rfl);(case hr=>first | (go_simp;done) | (go_simp;rfl));(case hp=>exact (Reps.none _ _));intro v749 w20 ho21 hb hg_ hnew_;clear hg_ hnew_;(first | rw [← Ny748.out] at ho21 | (simp only [Int.reduceToNat] at ho21;rw [← Ny748.out] at ho21));refine ev6 (Kd.R_below (Kd.R_ft HO741.out BK734.out (by decide)) hb) (Kd.R_elder' (Kd.R_mv (Kd.R_mono (Kd.R_far (p:=⟨gb734,3,none⟩) (Kd.R_types HO747.out BK734.out (by decide)) (fun _ hk=>hk.2) (.slice Ao18 y745.length co18)) (fun _ h_=>h_.1))) (Kd.R_base ho21) hb) (Kd.R_lower (Kd.R_new' ho21 (Kd.R_lt (Kd.R_mv (Kd.R_mono (Kd.R_far (p:=⟨gb734,3,none⟩) (Kd.R_types HO747.out BK734.out (by decide)) (fun _ hk=>hk.2) (.slice Ao18 y745.length co18)) (fun _ h_=>h_.1))))) (below_size (bm HB))) (blk_below (g:=gb734) (o:=.cells #[.int .i64 a0_0,.int .i64 a0_1,.slice Ao12 y739.length co12,.slice Ao18 y745.length co18,.slice A0_4 l0_4.length c0_4] 31 (0,0)) (fp BK734 rfl) hb) (blk_below (g:=gb735) (o:=.cells #[.int .i64 0,.int .i64 0,.slice none 0 0,.slice none 0 0,.slice none 0 0] 31 (0,0)) (fp BK735 rfl) hb) (bs HB hb) ?_;clear HO741 HO747 BK734 BK735 HB;intro HO741 HO747 HO750 BK734 BK735 HB;clear hb ho21;obtain ⟨hcz22_0,hcz22_1,hcz22_2,hcz22_3,hcz22_4,hfz22_0,hfz22_1,hfz22_2,hfz22_3,hfz22_4⟩:=bt5 BK734) | ((with_reducible refine gate_builtin (b:=.append) (xs:=#[.tmp 13,.tmp 15]) rfl ?_);at_builtin;refine Kd.R_append_rows (Kd.int .i64) (w0:=w) w.heap.size rfl (.tmp 13) (.tmp 15) 23 3 (.int .i64 0) 8 rfl Try.underlying23 info3 rfl (by decide) (by omega) v749 y748 l0_4 _ _ _ (fun k_=>some k_ ≠ (.slice Ao18 y745.length co18:Value).ownBlock) (fun _=>False) rfl rfl ?aO ?aR (fun _ _ h=>h) (fun _ h=>h.elim) ?aF ?aB ?aS ?aL ?_;(case aR=>exact Kd.C_mv (Kd.C_below HR0_4.out HB.out));(case aB=>exact (bm HB));(case aF=>exact (fun k_ hk=>Kd.fresh' (Kd.R_lt (Kd.R_mv HO747.out)) k_ hk));(case aO=>exact (Kd.R_mv (Kd.R_mono HO750.out (fun _ hk=>hk.2))));(case aS=>exact (below_size (bm HB)));(case aL=>have:=LMc4.out;omega);intro v752 w23 ho hb hg hat;rw [← Ny751.out] at ho;refine ev6 (blk_grown (km_ BK734) hg (Kd.R_ne HO750.out BK734.out (by decide))) (blk_grown (km_ BK735) hg (Kd.R_ne HO750.out BK735.out (by decide))) (Kd.R_over' (Kd.R_mv HO741.out) (Kd.R_typed (Kd.R_mv HO750.out)) (by decide) hg) (Kd.R_after (ok:=(fun _=>True)) (Kd.R_mv HO747.out) hg hat) (hb) (ho) ?_;clear BK734 BK735 HO741 HO747 HB HO750;intro BK734 BK735 HO741 HO747 HB HO753;clear ho hb hg hat;obtain ⟨Ao24,co24,eo24⟩:=Kd.R_slice HO753.out;subst eo24;obtain ⟨hcz25_0,hcz25_1,hcz25_2,hcz25_3,hcz25_4,hfz25_0,hfz25_1,hfz25_2,hfz25_3,hfz25_4⟩:=bt5 BK734;obtain ⟨hcz26_0,hcz26_1,hcz26_2,hcz26_3,hcz26_4,hfz26_0,hfz26_1,hfz26_2,hfz26_3,hfz26_4⟩:=bt5 BK735))
 refine bodyPost_ret (results_cell_row rfl _ _ gb735 31 #[.int .i64 a0_0,.int .i64 a0_1,.slice Ao12 y739.length co12,.slice Ao18 y745.length co18,.slice Ao24 y751.length co24] (0,0) _ rfl (fp BK735 rfl) Try.underlying31 rfl (by kernel_rfl)) rfl ?_;exact ⟨_,_,_,by first | rfl | (simp [e0_,e1_] <;> rfl) | (simp [*,e0_,e1_] <;> rfl),Kd.R_mv (Kd.R_mono (ok':=fun k_=>True) (Kd.R_far (p:=⟨gb735,4,none⟩) (Kd.R_far (p:=⟨gb735,3,none⟩) (Kd.R_far (p:=⟨gb735,2,none⟩) (Kd.R_far (p:=⟨gb735,1,none⟩) (Kd.R_far (p:=⟨gb735,0,none⟩) (Kd.R_far (p:=⟨gb734,4,none⟩) (Kd.R_types (Kd.R_types HO741.out BK734.out (by decide)) BK735.out (by decide)) (fun _ hk=>hk.1.2) (.slice Ao24 y751.length co24)) (fun _ hk=>hk.2) (.int .i64 a0_0)) (fun _ hk=>hk.2) (.int .i64 a0_1)) (fun _ hk=>hk.2) (.slice Ao12 y739.length co12)) (fun _ hk=>hk.2) (.slice Ao18 y745.length co18)) (fun _ hk=>hk.2) (.slice Ao24 y751.length co24)) (fun _ hk=>trivial)),Kd.R_mv (Kd.R_mono (Kd.R_far (p:=⟨gb735,4,none⟩) (Kd.R_far (p:=⟨gb735,3,none⟩) (Kd.R_far (p:=⟨gb735,2,none⟩) (Kd.R_far (p:=⟨gb735,1,none⟩) (Kd.R_far (p:=⟨gb735,0,none⟩) (Kd.R_far (p:=⟨gb734,4,none⟩) (Kd.R_types (Kd.R_types HO747.out BK734.out (by decide)) BK735.out (by decide)) (fun _ hk=>hk.1.2) (.slice Ao24 y751.length co24)) (fun _ hk=>hk.2) (.int .i64 a0_0)) (fun _ hk=>hk.2) (.int .i64 a0_1)) (fun _ hk=>hk.2) (.slice Ao12 y739.length co12)) (fun _ hk=>hk.2) (.slice Ao18 y745.length co18)) (fun _ hk=>hk.2) (.slice Ao24 y751.length co24)) (fun _ hk=>hk.1.1.2)),Kd.R_mv (Kd.R_mono (Kd.R_far (p:=⟨gb735,4,none⟩) (Kd.R_far (p:=⟨gb735,3,none⟩) (Kd.R_far (p:=⟨gb735,2,none⟩) (Kd.R_far (p:=⟨gb735,1,none⟩) (Kd.R_far (p:=⟨gb735,0,none⟩) (Kd.R_far (p:=⟨gb734,4,none⟩) (Kd.R_types (Kd.R_types HO753.out BK734.out (by decide)) BK735.out (by decide)) (fun _ hk=>hk.1.2) (.slice Ao24 y751.length co24)) (fun _ hk=>hk.2) (.int .i64 a0_0)) (fun _ hk=>hk.2) (.int .i64 a0_1)) (fun _ hk=>hk.2) (.slice Ao12 y739.length co12)) (fun _ hk=>hk.2) (.slice Ao18 y745.length co18)) (fun _ hk=>hk.2) (.slice Ao24 y751.length co24)) (fun _ hk=>hk.1.1)),bm HB⟩

/-! ### impl_dropAll: function 120 -/
def impl_dropAll.l0:Nat→List Int→List (S127)→List Int→Int→Int→Int→Int→List (S88)→Option ((List (S127)) × Int × Int × (List (S88)))
  | 0,_,_,_,_,_,_,_,_=>none
  | k + 1,x7,x8,x18,x19,x20,x762000,x762001,x762002=>if x20 < x19 then (if 0 ≤ x20 then (if x20 < (x18.length:Int) then ((impl_drop.f k x762000 x762001 x762002 x7 (rd x18 x20)).bind fun bt769=>(if x8.length < 5864062014805 then (impl_dropAll.l0 k x7 (x8 ++ [(⟨bt769.1,bt769.2.1,bt769.2.2.1⟩:S127)]) x18 x19 (wrap64 (x20 + 1)) x762000 x762001 bt769.2.2.2.2) else (none))) else (none)) else (none)) else (some (x8,x762000,x762001,x762002))
def impl_dropAll.f (k:Nat) (a0_0:Int) (a0_1:Int) (l0_2:List (S88)) (l1:List Int):Option ((List (S127)) × Int × Int × (List (S88))):=(impl_copyBoard.f a0_0 a0_1 l0_2).bind fun bt756=>((impl_groupNumbers.f k a0_0 a0_1 l0_2).bind fun t762=>(impl_dropAll.l0 k t762 (([]:List (S127))) l1 (l1.length:Int) 0 bt756.1 bt756.2.1 bt756.2.2))
theorem impl_dropAll.calls (k:Nat) (a0_0:Int) (a0_1:Int) (A0_2:Option Addr) (c0_2:Nat) (l0_2:List (S88)) (A1:Option Addr) (c1:Nat) (l1:List Int) (r1:List (S127)) (r2:Int) (r3:Int) (r4:List (S88)) (w:World) (hr0_2:Kd.C k88 w A0_2 l0_2.length l0_2) (hc0_2:l0_2.length ≤ c0_2) (hr1:Kd.C (Kd.int .i64) w A1 l1.length l1) (hc1:l1.length ≤ c1) (h:impl_dropAll.f k a0_0 a0_1 l0_2 l1 = some (r1,r2,r3,r4)) :
    Calls Try.prog 120 #[.agg #[.int .i64 a0_0,.int .i64 a0_1,.slice A0_2 l0_2.length c0_2],.slice A1 l1.length c1] w fun e w'=>∃ v0_ v3_:Value,e = .returned (.tuple #[v0_,.agg #[.int .i64 r2,.int .i64 r3,v3_]])∧Kd.R k127 127 w' w.heap.size (fun _=>True) v0_ r1∧Kd.R k88 88 w' w.heap.size (fun _=>True) v3_ r4∧Below w.heap.size w w':=by
 have S:=St.init (w:=w) (dc k88_heap at88 hr0_2 hc0_2 (dc (Kd.heap_int .i64) (atI .i64) hr1 hc1 dn))
 clear hr0_2 hc0_2 hr1 hc1
 have F:=S.fc
 have H:=h;clear h;unfold impl_dropAll.f at H
 replace H:=Option.bind_eq_some_iff.mp H;obtain ⟨⟨t756,t757,t758⟩,A3,H⟩:=H;(try dsimp only at H)
 replace H:=Option.bind_eq_some_iff.mp H;obtain ⟨t762,A4,H⟩:=H;(try dsimp only at H)
 (first | (with_reducible replace H:=ob_ H;obtain ⟨y765,hy765,H⟩:=H;(try dsimp only at H)) | (obtain ⟨y765,hy765⟩:∃ y_:List (S127),y_ = (([]:List (S127))):=⟨_,rfl⟩;(try rw [← hy765] at H);(try simp only [Option.bind_some] at H)));have Ny765:=Aside0.mk hy765;clear hy765
 go_enter Try.func120,Try.ntmps120
 go_wp2_with (first | ((with_reducible refine gd 2 rfl (L ?_));refine bo 2 (.agg #[_,_,_]) S ?_;clear S F;intro gb754 W S;have F:=S.fc) | ((with_reducible refine gd 5 rfl (L ?_));refine al 5 S zi50 ?_;clear S F;intro gb755 W S;have F:=S.fc) | ((with_reducible refine gate_callee (f:=117) rfl (L ?_));refine cl (some 14) Try.func117 (impl_copyBoard.calls _ _ _ _ _ _ _ _ _ S.c S.n A3) (hargs:=by (simp only [ma_,mb_,mc_,F] <;> rfl)) (h:=?_);rintro e W ⟨v759,rfl,ho0,hb⟩;refine ⟨_,rfl,?_⟩;replace S:=S.got at88 hb ho0;obtain ⟨At758,ct758,rfl,S⟩:=S;clear F hb ho0;have F:=S.fc) | ((with_reducible refine gd 6 rfl (L ?_));refine al 6 S zi50 ?_;clear S F;intro gb761 W S;have F:=S.fc) | ((with_reducible refine gate_callee (f:=128) rfl (L ?_));refine cl (some 16) Try.func128 (impl_groupNumbers.calls _ _ _ _ _ _ _ _ S.c S.n A4) (hargs:=by (simp only [ma_,mb_,mc_,F] <;> rfl)) (h:=?_);rintro e W ⟨v763,rfl,ho0,hb⟩;refine ⟨_,rfl,?_⟩;replace S:=S.got (atI .i64) hb ho0;obtain ⟨At762,ct762,rfl,S⟩:=S;clear F hb ho0;have F:=S.fc) | ((with_reducible refine gd 17 rfl (L ?_));refine lia 17 at127 127 S ([]:List (S127)) (fun _ _=>(Reps.none _ _)) (by first | (go_simp;done) | (go_simp;rfl)) ?_;clear S F;intro Ay765 cy765 W S;(try rw [← Ny765.out] at S ⊢);have F:=S.fc) | ((with_reducible refine gs (t:=50) rfl (L ?_));(first | refine sb (.agg #[_,_,_]) S sz50 ?_ | refine ro (.agg #[_,_,_]) S sz50 ?_ (ho:=rfl) (hx:=rfl) (hy:=rfl));(clear S F;intro W S;have F:=S.fc)) | ((with_reducible refine gs (t:=127) rfl (L ?_));(first | refine sb (.agg #[_,_,_]) S sz127 ?_ | refine ro (.agg #[_,_,_]) S sz127 ?_ (ho:=rfl) (hx:=rfl) (hy:=rfl));(clear S F;intro W S;have F:=S.fc)))
 go_loopg [8,20] k (fun kq v8 v20 w'=>∃ (x8_1:List (S127)) (x20_1:Int) (x762002_1:List (S88)) (Ax8_1:Option Addr) (cx8_1:Nat) (Ax762002_1:Option Addr) (cx762002_1:Nat),v20 = .int .i64 x20_1∧v8 = .slice Ax8_1 x8_1.length cx8_1∧impl_dropAll.l0 kq t762 x8_1 l1 (l1.length:Int) x20_1 t756 t757 x762002_1 = some (r1,r2,r3,r4)∧kq ≤ k∧St w w (fun _=>False) [bor at88 A0_2 c0_2 l0_2,bor (atI .i64) A1 c1 l1] w'  [row at127 127 Ax8_1 x8_1.length cx8_1 x8_1,row (atI .i64) 3 At762 t762.length ct762 t762,box gb761 50 [.int .i64 t756,.int .i64 t757,.slice Ax762002_1 x762002_1.length cx762002_1],row at88 88 Ax762002_1 x762002_1.length cx762002_1 x762002_1,box gb755 50 [.int .i64 0,.int .i64 0,.slice none 0 0],box gb754 50 [.int .i64 a0_0,.int .i64 a0_1,.slice A0_2 l0_2.length c0_2]])
 case atStart=>exact ⟨y765,0,t758,_,_,_,_,(by first | rfl | (simp;done) | (simp [*];done) | (rw [w6_ (by omega) (by omega)])),rfl,H,Nat.le_refl _,S⟩
 case round =>
  clear H S F
  obtain ⟨x8_1,x20_1,x762002_1,Ax8_1,cx8_1,Ax762002_1,cx762002_1,rfl,rfl,HA,HK1,S⟩:=hrel
  have F:=S.fc
  cases gk with
  | zero=>exact absurd HA (by simp [impl_dropAll.l0])
  | succ k1 =>
   have H:=HA;clear HA;simp only [impl_dropAll.l0,F] at H
   replace H:=sp_ H;rcases H with ⟨c19,H⟩ | ⟨c19,H⟩
   · skip
     replace H:=np_ H;obtain ⟨c20,H⟩:=H
     replace H:=np_ H;obtain ⟨c21,H⟩:=H
     replace H:=Option.bind_eq_some_iff.mp H;obtain ⟨⟨t769,t770,t771,t772,t775⟩,A22,H⟩:=H;(try dsimp only at H)
     replace H:=np_ H;obtain ⟨c23,H⟩:=H
     (first | (with_reducible replace H:=ob_ H;obtain ⟨y777,hy777,H⟩:=H;(try dsimp only at H)) | (obtain ⟨y777,hy777⟩:∃ y_:List (S127),y_ = (x8_1 ++ [(⟨t769,t770,t771⟩:S127)]):=⟨_,rfl⟩;(try rw [← hy777] at H);(try simp only [Option.bind_some] at H)));have Ny777:=Aside0.mk hy777;clear hy777
     go_wp2_with (first | ((with_reducible refine gate_callee (f:=129) rfl (L ?_));obtain ⟨ok_,k_⟩:=S.lend (A:=Ax762002_1);refine cl (some 28) Try.func129 (impl_drop.calls _ _ _ ok_ _ _ _ _ _ _ _ _ _ _ _ _ _ k_.below k_.own k_.c k_.n A22) (hargs:=by (simp only [ma_,mb_,mc_,F] <;> rfl)) (h:=?_);rintro e W ⟨v773,rfl,ho,hy,hb,hk⟩;refine ⟨_,rfl,?_⟩;clear S F;obtain ⟨At772,ct772,rfl,S⟩:=k_.back1 (atI .i64) ho hy hb hk (by decide);clear k_ ho hy hb hk;have F:=S.fc) | ((with_reducible refine gd 11 rfl (L ?_));refine al 11 S zi127 ?_;clear S F;intro gb776 W S;have F:=S.fc) | ((with_reducible refine gd 34 rfl (L ?_));refine apa (A:=Ax8_1) 34 S Try.underlying122 info127 ?_ (ho:=rfl) (hs:=rfl) (hx:=rfl);clear S F;intro Ay777 cy777 W S;(try rw [← Ny777.out] at S ⊢);have F:=S.fc) | ((with_reducible refine gs (t:=50) rfl (L ?_));(first | refine sb (.agg #[_,_,_]) S sz50 ?_ | refine ro (.agg #[_,_,_]) S sz50 ?_ (ho:=rfl) (hx:=rfl) (hy:=rfl));clear S F;intro W S;(try rw [← Ny777.out] at S);have F:=S.fc) | ((with_reducible refine gs (t:=127) rfl (L ?_));(first | refine sb (.agg #[_,_,_]) S sz127 ?_ | refine ro (.agg #[_,_,_]) S sz127 ?_ (ho:=rfl) (hx:=rfl) (hy:=rfl));clear S F;intro W S;(try rw [← Ny777.out] at S);have F:=S.fc))
     go_roundg k1
     case measure=>omega
     case rel=>(try rw [← (show t775.length = x762002_1.length by simp only [F])] at S);exact ⟨y777,(wrap64 (x20_1 + 1)),t775,_,_,_,_,(by first | rfl | (simp;done) | (simp [*];done) | (rw [w6_ (by omega) (by omega)])),(by first | rfl | simp only [F]),H,(by first | omega | exact Nat.le_refl _),S.tl.tl⟩
   · skip
     simp only [Option.some.injEq,Prod.mk.injEq] at H
     obtain ⟨rfl,rfl,rfl,rfl⟩:=H
     go_wp2_with (first | ((with_reducible refine gs (t:=50) rfl (L ?_));(first | refine sb (.agg #[_,_,_]) S sz50 ?_ | refine ro (.agg #[_,_,_]) S sz50 ?_ (ho:=rfl) (hx:=rfl) (hy:=rfl));(clear S F;intro W S;have F:=S.fc)) | ((with_reducible refine gs (t:=127) rfl (L ?_));(first | refine sb (.agg #[_,_,_]) S sz127 ?_ | refine ro (.agg #[_,_,_]) S sz127 ?_ (ho:=rfl) (hx:=rfl) (hy:=rfl));(clear S F;intro W S;have F:=S.fc)))
     refine rgP S (fun _ S=>(S.pm [0,1,2,3,5])) [(0,0),(0,2),(1,1),(2,3)] [] (by kernel_rfl) (by kernel_rfl) (fun _ d _ _ _ h=>by cases d <;> exact h) ?_;clear S F;intro W S;have S0:=(S.pm [0,1,2,3,5]);have F:=S.fc
     repeat (first | (refine q0 (h:=?_)) | (refine q1 S0 (h:=?_)) | (refine q0n (h:=?_)) | (refine q1n S0 (h:=?_)))
     refine lk2 (by rfl) (by exact (Eq.refl true)) ?_;(first | refine sb (.agg #[_,_,_]) S sz50 ?_ | refine ro (.agg #[_,_,_]) S sz50 ?_ (ho:=rfl) (hx:=rfl) (hy:=rfl) | refine sb (.agg #[_,_,_]) S sz127 ?_ | refine ro (.agg #[_,_,_]) S sz127 ?_ (ho:=rfl) (hx:=rfl) (hy:=rfl));(clear S F;intro W S;have F:=S.fc)
     clear S0;have S0:=(S.pm [0,1,2,3,5]);refine ⟨S0,?_⟩
     refine oz ?_
     try clear S0
     go_wp2_with (first | ((with_reducible refine gs (t:=50) rfl (L ?_));(first | refine sb (.agg #[_,_,_]) S sz50 ?_ | refine ro (.agg #[_,_,_]) S sz50 ?_ (ho:=rfl) (hx:=rfl) (hy:=rfl));(clear S F;intro W S;have F:=S.fc)) | ((with_reducible refine gs (t:=127) rfl (L ?_));(first | refine sb (.agg #[_,_,_]) S sz127 ?_ | refine ro (.agg #[_,_,_]) S sz127 ?_ (ho:=rfl) (hx:=rfl) (hy:=rfl));(clear S F;intro W S;have F:=S.fc)))
     refine bodyPost_ret (results_tc rfl _ _ gb755 50 #[.int .i64 t756,.int .i64 t757,.slice Ax762002_1 x762002_1.length cx762002_1] (0,0) _ rfl S.hb Try.underlying50 rfl (by kernel_rfl)) rfl ?_
     exact ⟨_,_,(by first | rfl | (simp [e0_,e1_] <;> rfl) | (simp [*,e0_,e1_] <;> rfl)),(by first | exact S.r | exact Kd.R_nil _ _ _ _ _),(by first | exact S.r | exact Kd.R_nil _ _ _ _ _),S.below⟩

/-! ### impl_withEntry: function 91 -/
def impl_withEntry.f (k:Nat) (a0_0:Int) (a0_1:Int) (l0_2:List (S88)) (l0_3:List Int) (l0_4:List Int) (a1_0:Int) (a1_1:Int) (l1_2:List (S88)) (a2:Int):Option (Int × Int × (List (S88)) × List Int × List Int):=(impl_copyChallenge.f a0_0 a0_1 l0_2 l0_3 l0_4).bind fun bt783=>(if bt783.2.2.2.1.length < 17592186044416 then ((some (bt783.2.2.2.1 ++ [a2]:List Int)).bind fun y795=>((impl_dropAll.f k a1_0 a1_1 l1_2 y795).bind fun bt798=>(if 0 ≤ (wrap64 ((bt798.1.length:Int) - 1)) then (if (wrap64 ((bt798.1.length:Int) - 1)) < (bt798.1.length:Int) then ((impl_endNumber.f a1_0 a1_1 l1_2 ((rd_T127 bt798.1 (wrap64 ((bt798.1.length:Int) - 1))).f0) ((rd_T127 bt798.1 (wrap64 ((bt798.1.length:Int) - 1))).f1) ((rd_T127 bt798.1 (wrap64 ((bt798.1.length:Int) - 1))).f2)).bind fun t808=>(if bt783.2.2.2.2.length < 17592186044416 then (some (bt783.1,bt783.2.1,bt783.2.2.1,y795,(bt783.2.2.2.2 ++ [t808]))) else (none))) else (none)) else (none)))) else (none))
theorem impl_withEntry.calls (k:Nat) (a0_0:Int) (a0_1:Int) (A0_2:Option Addr) (c0_2:Nat) (l0_2:List (S88)) (A0_3:Option Addr) (c0_3:Nat) (l0_3:List Int) (A0_4:Option Addr) (c0_4:Nat) (l0_4:List Int) (a1_0:Int) (a1_1:Int) (A1_2:Option Addr) (c1_2:Nat) (l1_2:List (S88)) (a2:Int) (r1:Int) (r2:Int) (r3:List (S88)) (r4:List Int) (r5:List Int) (w:World) (hr0_2:Kd.C k88 w A0_2 l0_2.length l0_2) (hc0_2:l0_2.length ≤ c0_2) (hr0_3:Kd.C (Kd.int .i64) w A0_3 l0_3.length l0_3) (hc0_3:l0_3.length ≤ c0_3) (hr0_4:Kd.C (Kd.int .i64) w A0_4 l0_4.length l0_4) (hc0_4:l0_4.length ≤ c0_4) (hr1_2:Kd.C k88 w A1_2 l1_2.length l1_2) (hc1_2:l1_2.length ≤ c1_2) (h:impl_withEntry.f k a0_0 a0_1 l0_2 l0_3 l0_4 a1_0 a1_1 l1_2 a2 = some (r1,r2,r3,r4,r5)) :
    Calls Try.prog 91 #[.agg #[.int .i64 a0_0,.int .i64 a0_1,.slice A0_2 l0_2.length c0_2,.slice A0_3 l0_3.length c0_3,.slice A0_4 l0_4.length c0_4],.agg #[.int .i64 a1_0,.int .i64 a1_1,.slice A1_2 l1_2.length c1_2],.int .i64 a2] w fun e w'=>∃ v2_ v3_ v4_:Value,e = .returned (.agg #[.int .i64 r1,.int .i64 r2,v2_,v3_,v4_])∧Kd.R k88 88 w' w.heap.size (fun _=>True) v2_ r3∧Kd.R (Kd.int .i64) 3 w' w.heap.size (fun k_=>some k_ ≠ (v4_:Value).ownBlock) v3_ r4∧Kd.R (Kd.int .i64) 3 w' w.heap.size (fun k_=>some k_ ≠ (v3_:Value).ownBlock) v4_ r5∧Below w.heap.size w w':=by
 have S:=St.init (w:=w) (dc k88_heap at88 hr0_2 hc0_2 (dc (Kd.heap_int .i64) (atI .i64) hr0_3 hc0_3 (dc (Kd.heap_int .i64) (atI .i64) hr0_4 hc0_4 (dc k88_heap at88 hr1_2 hc1_2 dn))))
 clear hr0_2 hc0_2 hr0_3 hc0_3 hr0_4 hc0_4 hr1_2 hc1_2
 have F:=S.fc
 have H:=h;clear h;unfold impl_withEntry.f at H
 replace H:=Option.bind_eq_some_iff.mp H;obtain ⟨⟨t783,t784,t785,t788,t791⟩,A4,H⟩:=H;(try dsimp only at H)
 replace H:=np_ H;obtain ⟨c5,H⟩:=H
 (first | (with_reducible replace H:=ob_ H;obtain ⟨y795,hy795,H⟩:=H;(try dsimp only at H)) | (obtain ⟨y795,hy795⟩:∃ y_:List Int,y_ = (t788 ++ [a2]):=⟨_,rfl⟩;(try rw [← hy795] at H);(try simp only [Option.bind_some] at H)));have Ny795:=Aside0.mk hy795;clear hy795
 replace H:=Option.bind_eq_some_iff.mp H;obtain ⟨⟨t798,t801,t802,t803⟩,A6,H⟩:=H;(try dsimp only at H)
 obtain ⟨ji7,hji7⟩:∃ j_:Int,(wrap64 ((t798.length:Int) - 1)) = j_:=⟨_,rfl⟩;simp only [hji7] at H
 (try rw [hji7] at A4)
 (try rw [hji7] at A6)
 have hji7w:(IntKind.i64.wrap ((t798.length:Int) - 1)) = ji7:=(i64_w _).trans hji7
 replace H:=np_ H;obtain ⟨c8,H⟩:=H
 replace H:=np_ H;obtain ⟨c9,H⟩:=H
 replace H:=Option.bind_eq_some_iff.mp H;obtain ⟨t808,A10,H⟩:=H;(try dsimp only at H)
 replace H:=np_ H;obtain ⟨c11,H⟩:=H
 (first | (with_reducible replace H:=ob_ H;obtain ⟨y809,hy809,H⟩:=H;(try dsimp only at H)) | (obtain ⟨y809,hy809⟩:∃ y_:List Int,y_ = (t791 ++ [t808]):=⟨_,rfl⟩;(try rw [← hy809] at H);(try simp only [Option.bind_some] at H)));have Ny809:=Aside0.mk hy809;clear hy809
 simp only [Option.some.injEq,Prod.mk.injEq] at H
 obtain ⟨rfl,rfl,rfl,rfl,rfl⟩:=H
 go_enter Try.func91,Try.ntmps91
 go_wp2_with (first | ((with_reducible refine gd 3 rfl (L ?_));refine bo 3 (.agg #[_,_,_,_,_]) S ?_;clear S F;intro gb780 W S;have F:=S.fc) | ((with_reducible refine gd 4 rfl (L ?_));refine bo 4 (.agg #[_,_,_]) S ?_;clear S F;intro gb781 W S;have F:=S.fc) | ((with_reducible refine gd 6 rfl (L ?_));refine al 6 S zi31 ?_;clear S F;intro gb782 W S;have F:=S.fc) | ((with_reducible refine gate_callee (f:=95) rfl (L ?_));refine cl (some 11) Try.func95 (impl_copyChallenge.calls _ _ _ _ _ _ _ _ _ _ _ _ _ _ _ _ _ S.c S.n S.c S.n S.c S.n A4) (hargs:=by (simp only [ma_,mb_,mc_,F] <;> rfl)) (h:=?_);rintro e W ⟨v786,v789,v792,rfl,ho0,ho1,ho2,hb⟩;refine ⟨_,rfl,?_⟩;replace S:=S.got3i at88 (atI .i64) (atI .i64) hb ho0 ho1 ho2 (by decide);obtain ⟨At785,ct785,At788,ct788,At791,ct791,rfl,rfl,rfl,S⟩:=S;clear F hb ho0 ho1 ho2;(try rw [← Ny795.out] at S);(try rw [← Ny809.out] at S);have F:=S.fc) | ((with_reducible refine gd 7 rfl (L ?_));refine al 7 S zi31 ?_;clear S F;intro gb794 W S;have F:=S.fc) | ((with_reducible refine gd 16 rfl (L ?_));refine apa (A:=At788) 16 S Try.underlying23 info3 ?_ (ho:=rfl) (hs:=rfl) (hx:=rfl);clear S F;intro Ay795 cy795 W S;(try rw [← Ny795.out] at S ⊢);(try rw [← Ny809.out] at S ⊢);have F:=S.fc) | ((with_reducible refine gate_callee (f:=120) rfl (L ?_));refine cl (some 22) Try.func120 (impl_dropAll.calls _ _ _ _ _ _ _ _ _ _ _ _ _ _ S.c S.n S.c S.n A6) (hargs:=by (simp only [ma_,mb_,mc_,F] <;> rfl)) (h:=?_);rintro e W ⟨v799,v804,rfl,ho0,ho1,hb⟩;refine ⟨_,rfl,?_⟩;replace S:=S.got2 at127 at88 hb ho0 ho1 (by decide);obtain ⟨At798,ct798,At803,ct803,rfl,rfl,S⟩:=S;clear F hb ho0 ho1;(try rw [← Ny795.out] at S);(try rw [← Ny809.out] at S);have F:=S.fc) | ((with_reducible refine gd 9 rfl (L ?_));refine al 9 S zi50 ?_;clear S F;intro gb806 W S;have F:=S.fc) | ((with_reducible refine gs (t:=23) rfl (L ?_));(first | refine sb (.slice _ _ _) S sz23 ?_ | refine ro (.slice _ _ _) S sz23 ?_ (ho:=rfl) (hx:=rfl) (hy:=rfl));clear S F;intro W S;(try rw [← Ny795.out] at S);(try rw [← Ny809.out] at S);have F:=S.fc) | ((with_reducible refine gs (t:=31) rfl (L ?_));(first | refine sb (.agg #[_,_,_,_,_]) S sz31 ?_ | refine ro (.agg #[_,_,_,_,_]) S sz31 ?_ (ho:=rfl) (hx:=rfl) (hy:=rfl));clear S F;intro W S;(try rw [← Ny795.out] at S);(try rw [← Ny809.out] at S);have F:=S.fc) | ((with_reducible refine gs (t:=50) rfl (L ?_));(first | refine sb (.agg #[_,_,_]) S sz50 ?_ | refine ro (.agg #[_,_,_]) S sz50 ?_ (ho:=rfl) (hx:=rfl) (hy:=rfl));clear S F;intro W S;(try rw [← Ny795.out] at S);(try rw [← Ny809.out] at S);have F:=S.fc))
 refine rq S [(0,0),(0,3),(0,4),(0,5),(0,6),(0,7),(1,1),(1,2),(1,8),(2,9),(2,10),(3,11),(0,12),(3,13)] [11,13] (h:=?_);clear S F;intro W S;have S0:=S;have F:=S.fc
 repeat (first | (refine q0 (h:=?_)) | (refine q1 S0 (h:=?_)) | (refine q0n (h:=?_)) | (refine q1n S0 (h:=?_)))
 refine lk2 (by rfl) (by exact (Eq.refl true)) ?_;refine cl (some 34) Try.func121 (impl_endNumber.calls _ _ _ _ _ _ _ _ _ _ S.c S.n A10) (hargs:=by (simp only [ma_,mb_,mc_,F] <;> rfl)) (h:=?_);rintro e W ⟨rfl,hb⟩;refine ⟨_,rfl,?_⟩;replace S:=S.go hb;clear F hb;have F:=S.fc
 clear S0;have S0:=S;refine ⟨S0,?_⟩
 refine lk2 (by rfl) (by exact (Eq.refl true)) ?_;refine lv 35 (cs:=[.int .i64 t808]) (e:=3) (by first | (go_simp;done) | (go_simp;rfl)) ?_
 clear S0;have S0:=St.al1 S (.cells (List.toArray [.int .i64 t808]) 3);refine ⟨S0,?_⟩
 refine lk3 (by rfl) (by exact (Eq.refl true)) ?_;refine apa (A:=At791) 36 S Try.underlying23 info3 ?_ (ho:=rfl) (hs:=rfl) (hx:=rfl);clear S F;intro Ay809 cy809 W S;(try rw [← Ny795.out] at S ⊢);(try rw [← Ny809.out] at S ⊢);have F:=S.fc
 repeat (first | (refine q0 (h:=?_)) | (refine q1 S0 (h:=?_)) | (refine q0n (h:=?_)) | (refine q1n S0 (h:=?_)))
 refine lk3 (by rfl) (by exact (Eq.refl true)) ?_;(first | refine sb (.slice _ _ _) S sz23 ?_ | refine ro (.slice _ _ _) S sz23 ?_ (ho:=rfl) (hx:=rfl) (hy:=rfl) | refine sb (.agg #[_,_,_,_,_]) S sz31 ?_ | refine ro (.agg #[_,_,_,_,_]) S sz31 ?_ (ho:=rfl) (hx:=rfl) (hy:=rfl) | refine sb (.agg #[_,_,_]) S sz50 ?_ | refine ro (.agg #[_,_,_]) S sz50 ?_ (ho:=rfl) (hx:=rfl) (hy:=rfl));clear S F;intro W S;(try rw [← Ny795.out] at S);(try rw [← Ny809.out] at S);have F:=S.fc
 refine oz ?_
 try clear S0
 go_wp2_with (first | ((with_reducible refine gs (t:=23) rfl (L ?_));(first | refine sb (.slice _ _ _) S sz23 ?_ | refine ro (.slice _ _ _) S sz23 ?_ (ho:=rfl) (hx:=rfl) (hy:=rfl));clear S F;intro W S;(try rw [← Ny795.out] at S);(try rw [← Ny809.out] at S);have F:=S.fc) | ((with_reducible refine gs (t:=31) rfl (L ?_));(first | refine sb (.agg #[_,_,_,_,_]) S sz31 ?_ | refine ro (.agg #[_,_,_,_,_]) S sz31 ?_ (ho:=rfl) (hx:=rfl) (hy:=rfl));clear S F;intro W S;(try rw [← Ny795.out] at S);(try rw [← Ny809.out] at S);have F:=S.fc) | ((with_reducible refine gs (t:=50) rfl (L ?_));(first | refine sb (.agg #[_,_,_]) S sz50 ?_ | refine ro (.agg #[_,_,_]) S sz50 ?_ (ho:=rfl) (hx:=rfl) (hy:=rfl));clear S F;intro W S;(try rw [← Ny795.out] at S);(try rw [← Ny809.out] at S);have F:=S.fc))
 refine bodyPost_ret (results_cell_row rfl _ _ gb782 31 #[.int .i64 t783,.int .i64 t784,.slice At785 t785.length ct785,.slice Ay795 y795.length cy795,.slice Ay809 y809.length cy809] (0,0) _ rfl S.hb Try.underlying31 rfl (by kernel_rfl)) rfl ?_
 exact ⟨_,_,_,(by first | rfl | (simp [e0_,e1_] <;> rfl) | (simp [*,e0_,e1_] <;> rfl)),(by first | exact S.r | exact Kd.R_nil _ _ _ _ _),(by first | exact S.rn | exact Kd.R_nil _ _ _ _ _),(by first | exact S.rn | exact Kd.R_nil _ _ _ _ _),S.below⟩

/-! ### impl_SharpenChallenge: function 57 -/
mutual
def impl_SharpenChallenge.l0:Nat→Int→Int→Int→List (S88)→List Int→List Int→Int→Int→List (S88)→List Int→List Int→Option (Int × Int × (List (S88)) × List Int × List Int × Bool)
  | 0,_,_,_,_,_,_,_,_,_,_,_=>none
  | k + 1,x4,x813000,x813001,x813002,x813003,x813004,x828000,x828001,x828002,x828003,x828004=>if x4 > 1 then (impl_SharpenChallenge.j1 k x4 (decide ((x828003.length:Int) < 8)) x813000 x813001 x813002 x813003 x813004 x828000 x828001 x828002 x828003 x828004) else (impl_SharpenChallenge.j1 k x4 false x813000 x813001 x813002 x813003 x813004 x828000 x828001 x828002 x828003 x828004)
def impl_SharpenChallenge.j1:Nat→Int→Bool→Int→Int→List (S88)→List Int→List Int→Int→Int→List (S88)→List Int→List Int→Option (Int × Int × (List (S88)) × List Int × List Int × Bool)
  | 0,_,_,_,_,_,_,_,_,_,_,_,_=>none
  | k + 1,x4,x31,x813000,x813001,x813002,x813003,x813004,x828000,x828001,x828002,x828003,x828004=>if x31 = true then ((impl_smallestOf.f k x828000 x828001 x828002 x828003 x828004).bind fun bt828=>(impl_SharpenChallenge.l1 k x4 x4 0 x813000 x813001 x813002 x813003 x813004 x828000 x828001 x828002 x828003 x828004 bt828.1 bt828.2.1 bt828.2.2.1 0 0 ([]:List (S88)) ([]:List Int) ([]:List Int))) else (some (x828000,x828001,x828002,x828003,x828004,true))
def impl_SharpenChallenge.l1:Nat→Int→Int→Int→Int→Int→List (S88)→List Int→List Int→Int→Int→List (S88)→List Int→List Int→Int→Int→List (S88)→Int→Int→List (S88)→List Int→List Int→Option (Int × Int × (List (S88)) × List Int × List Int × Bool)
  | 0,_,_,_,_,_,_,_,_,_,_,_,_,_,_,_,_,_,_,_,_,_=>none
  | k + 1,x4,x9,x10,x813000,x813001,x813002,x813003,x813004,x828000,x828001,x828002,x828003,x828004,x835000,x835001,x835002,x836000,x836001,x836002,x836003,x836004=>if x10 < x813001 then ((impl_withEntry.f k x828000 x828001 x828002 x828003 x828004 x835000 x835001 x835002 x10).bind fun bt836=>((impl_countSolutions.f k bt836.1 bt836.2.1 bt836.2.2.1 bt836.2.2.2.1 bt836.2.2.2.2).bind fun t848=>(if t848 < x9 then (impl_SharpenChallenge.l1 k x4 t848 (wrap64 (x10 + 1)) x813000 x813001 x813002 x813003 x813004 x828000 x828001 x828002 x828003 x828004 x835000 x835001 x835002 bt836.1 bt836.2.1 bt836.2.2.1 bt836.2.2.2.1 bt836.2.2.2.2) else (impl_SharpenChallenge.l1 k x4 x9 (wrap64 (x10 + 1)) x813000 x813001 x813002 x813003 x813004 x828000 x828001 x828002 x828003 x828004 x835000 x835001 x835002 x836000 x836001 x836002 x836003 x836004)))) else (if x9 = x4 then (some (x828000,x828001,x828002,x828003,x828004,true)) else (impl_SharpenChallenge.l0 k x9 x813000 x813001 x813002 x813003 x813004 x836000 x836001 x836002 x836003 x836004))
end
def impl_SharpenChallenge.f (k:Nat) (a0_0:Int) (a0_1:Int) (l0_2:List (S88)) (l0_3:List Int) (l0_4:List Int):Option (Int × Int × (List (S88)) × List Int × List Int × Bool):=(impl_isPlayed.f k a0_0 a0_1 l0_2 l0_3 l0_4).bind fun t814=>(if t814 = true then ((impl_countSolutions.f k a0_0 a0_1 l0_2 l0_3 l0_4).bind fun t815=>(if t815 = 0 then (some (0,0,([]:List (S88)),([]:List Int),([]:List Int),false)) else ((impl_copyChallenge.f a0_0 a0_1 l0_2 l0_3 l0_4).bind fun bt816=>(impl_SharpenChallenge.l0 k t815 a0_0 a0_1 l0_2 l0_3 l0_4 bt816.1 bt816.2.1 bt816.2.2.1 bt816.2.2.2.1 bt816.2.2.2.2)))) else (some (0,0,([]:List (S88)),([]:List Int),([]:List Int),false)))
theorem impl_SharpenChallenge.calls (k:Nat) (a0_0:Int) (a0_1:Int) (A0_2:Option Addr) (c0_2:Nat) (l0_2:List (S88)) (A0_3:Option Addr) (c0_3:Nat) (l0_3:List Int) (A0_4:Option Addr) (c0_4:Nat) (l0_4:List Int) (r1:Int) (r2:Int) (r3:List (S88)) (r4:List Int) (r5:List Int) (r6:Bool) (w:World) (hr0_2:Kd.C k88 w A0_2 l0_2.length l0_2) (hc0_2:l0_2.length ≤ c0_2) (hr0_3:Kd.C (Kd.int .i64) w A0_3 l0_3.length l0_3) (hc0_3:l0_3.length ≤ c0_3) (hr0_4:Kd.C (Kd.int .i64) w A0_4 l0_4.length l0_4) (hc0_4:l0_4.length ≤ c0_4) (h:impl_SharpenChallenge.f k a0_0 a0_1 l0_2 l0_3 l0_4 = some (r1,r2,r3,r4,r5,r6)) :
    Calls Try.prog 57 #[.agg #[.int .i64 a0_0,.int .i64 a0_1,.slice A0_2 l0_2.length c0_2,.slice A0_3 l0_3.length c0_3,.slice A0_4 l0_4.length c0_4]] w fun e w'=>∃ v2_ v3_ v4_:Value,e = .returned (.tuple #[.agg #[.int .i64 r1,.int .i64 r2,v2_,v3_,v4_],.bool r6])∧Kd.R k88 88 w' w.heap.size (fun _=>True) v2_ r3∧Kd.R (Kd.int .i64) 3 w' w.heap.size (fun k_=>some k_ ≠ (v4_:Value).ownBlock) v3_ r4∧Kd.R (Kd.int .i64) 3 w' w.heap.size (fun k_=>some k_ ≠ (v3_:Value).ownBlock) v4_ r5∧Below w.heap.size w w':=by
 have S:=St.init (w:=w) (dc k88_heap at88 hr0_2 hc0_2 (dc (Kd.heap_int .i64) (atI .i64) hr0_3 hc0_3 (dc (Kd.heap_int .i64) (atI .i64) hr0_4 hc0_4 dn)))
 clear hr0_2 hc0_2 hr0_3 hc0_3 hr0_4 hc0_4
 have F:=S.fc
 have H:=h;clear h;unfold impl_SharpenChallenge.f at H
 replace H:=Option.bind_eq_some_iff.mp H;obtain ⟨t814,A2,H⟩:=H;(try dsimp only at H)
 replace H:=sp_ H;rcases H with ⟨c3,H⟩ | ⟨c3,H⟩
 · skip
   subst c3
   replace H:=Option.bind_eq_some_iff.mp H;obtain ⟨t815,A4,H⟩:=H;(try dsimp only at H)
   replace H:=sp_ H;rcases H with ⟨c5,H⟩ | ⟨c5,H⟩
   · skip
     replace c5:=ceq c5
     simp only [Option.some.injEq,Prod.mk.injEq] at H
     obtain ⟨rfl,rfl,rfl,rfl,rfl,rfl⟩:=H
     go_enter Try.func57,Try.ntmps57
     go_wp2_with (first | ((with_reducible refine gd 1 rfl (L ?_));refine bo 1 (.agg #[_,_,_,_,_]) S ?_;clear S F;intro gb812 W S;have F:=S.fc) | ((with_reducible refine gd 2 rfl (L ?_));refine al 2 S zi31 ?_;clear S F;intro gb813 W S;have F:=S.fc) | ((with_reducible refine gate_callee (f:=75) rfl (L ?_));refine cl (some 14) Try.func75 (impl_isPlayed.calls _ _ _ _ _ _ _ _ _ _ _ _ _ _ S.c S.n S.c S.n S.c S.n A2) (hargs:=by (simp only [ma_,mb_,mc_,F] <;> rfl)) (h:=?_);rintro e W ⟨rfl,hb⟩;refine ⟨_,rfl,?_⟩;replace S:=S.go hb;clear F hb;have F:=S.fc) | ((with_reducible refine gate_callee (f:=69) rfl (L ?_));refine cl (some 18) Try.func69 (impl_countSolutions.calls _ _ _ _ _ _ _ _ _ _ _ _ _ _ S.c S.n S.c S.n S.c S.n A4) (hargs:=by (simp only [ma_,mb_,mc_,F] <;> rfl)) (h:=?_);rintro e W ⟨rfl,hb⟩;refine ⟨_,rfl,?_⟩;replace S:=S.go hb;clear F hb;have F:=S.fc) | ((with_reducible refine gs (t:=31) rfl (L ?_));(first | refine sb (.agg #[_,_,_,_,_]) S sz31 ?_ | refine ro (.agg #[_,_,_,_,_]) S sz31 ?_ (ho:=rfl) (hx:=rfl) (hy:=rfl));(clear S F;intro W S;have F:=S.fc)) | ((with_reducible refine gs (t:=50) rfl (L ?_));(first | refine sb (.agg #[_,_,_]) S sz50 ?_ | refine ro (.agg #[_,_,_]) S sz50 ?_ (ho:=rfl) (hx:=rfl) (hy:=rfl));(clear S F;intro W S;have F:=S.fc)))
     refine bodyPost_ret (results_ct rfl _ _ gb813 31 #[.int .i64 0,.int .i64 0,.slice none 0 0,.slice none 0 0,.slice none 0 0] (0,0) _ rfl S.hb Try.underlying31 rfl (by kernel_rfl)) rfl ?_
     exact ⟨_,_,_,(by first | rfl | (simp [e0_,e1_] <;> rfl) | (simp [*,e0_,e1_] <;> rfl)),(by first | exact S.r | exact Kd.R_nil _ _ _ _ _),(by first | exact S.rn | exact Kd.R_nil _ _ _ _ _),(by first | exact S.rn | exact Kd.R_nil _ _ _ _ _),S.below⟩
   · skip
     replace c5:=cne c5
     replace H:=Option.bind_eq_some_iff.mp H;obtain ⟨⟨t816,t817,t818,t821,t824⟩,A14,H⟩:=H;(try dsimp only at H)
     go_enter Try.func57,Try.ntmps57
     go_wp2_with (first | ((with_reducible refine gd 1 rfl (L ?_));refine bo 1 (.agg #[_,_,_,_,_]) S ?_;clear S F;intro gb812 W S;have F:=S.fc) | ((with_reducible refine gd 2 rfl (L ?_));refine al 2 S zi31 ?_;clear S F;intro gb813 W S;have F:=S.fc) | ((with_reducible refine gate_callee (f:=75) rfl (L ?_));refine cl (some 14) Try.func75 (impl_isPlayed.calls _ _ _ _ _ _ _ _ _ _ _ _ _ _ S.c S.n S.c S.n S.c S.n A2) (hargs:=by (simp only [ma_,mb_,mc_,F] <;> rfl)) (h:=?_);rintro e W ⟨rfl,hb⟩;refine ⟨_,rfl,?_⟩;replace S:=S.go hb;clear F hb;have F:=S.fc) | ((with_reducible refine gate_callee (f:=69) rfl (L ?_));refine cl (some 18) Try.func69 (impl_countSolutions.calls _ _ _ _ _ _ _ _ _ _ _ _ _ _ S.c S.n S.c S.n S.c S.n A4) (hargs:=by (simp only [ma_,mb_,mc_,F] <;> rfl)) (h:=?_);rintro e W ⟨rfl,hb⟩;refine ⟨_,rfl,?_⟩;replace S:=S.go hb;clear F hb;have F:=S.fc) | ((with_reducible refine gate_callee (f:=95) rfl (L ?_));refine cl (some 23) Try.func95 (impl_copyChallenge.calls _ _ _ _ _ _ _ _ _ _ _ _ _ _ _ _ _ S.c S.n S.c S.n S.c S.n A14) (hargs:=by (simp only [ma_,mb_,mc_,F] <;> rfl)) (h:=?_);rintro e W ⟨v819,v822,v825,rfl,ho0,ho1,ho2,hb⟩;refine ⟨_,rfl,?_⟩;replace S:=S.got3i at88 (atI .i64) (atI .i64) hb ho0 ho1 ho2 (by decide);obtain ⟨At818,ct818,At821,ct821,At824,ct824,rfl,rfl,rfl,S⟩:=S;clear F hb ho0 ho1 ho2;have F:=S.fc) | ((with_reducible refine gd 5 rfl (L ?_));refine al 5 S zi31 ?_;clear S F;intro gb827 W S;have F:=S.fc) | ((with_reducible refine gs (t:=31) rfl (L ?_));(first | refine sb (.agg #[_,_,_,_,_]) S sz31 ?_ | refine ro (.agg #[_,_,_,_,_]) S sz31 ?_ (ho:=rfl) (hx:=rfl) (hy:=rfl));(clear S F;intro W S;have F:=S.fc)) | ((with_reducible refine gs (t:=50) rfl (L ?_));(first | refine sb (.agg #[_,_,_]) S sz50 ?_ | refine ro (.agg #[_,_,_]) S sz50 ?_ (ho:=rfl) (hx:=rfl) (hy:=rfl));(clear S F;intro W S;have F:=S.fc)))
     go_loopg [4] k (fun kq v4 w'=>∃ (x4_1:Int) (x828000_1:Int) (x828001_1:Int) (x828002_1:List (S88)) (x828003_1:List Int) (x828004_1:List Int) (Ax828002_1:Option Addr) (cx828002_1:Nat) (Ax828003_1:Option Addr) (cx828003_1:Nat) (Ax828004_1:Option Addr) (cx828004_1:Nat),v4 = .int .i64 x4_1∧impl_SharpenChallenge.l0 kq x4_1 a0_0 a0_1 l0_2 l0_3 l0_4 x828000_1 x828001_1 x828002_1 x828003_1 x828004_1 = some (r1,r2,r3,r4,r5,r6)∧kq ≤ k∧St w w (fun _=>False) [bor at88 A0_2 c0_2 l0_2,bor (atI .i64) A0_3 c0_3 l0_3,bor (atI .i64) A0_4 c0_4 l0_4] w'  [box gb827 31 [.int .i64 x828000_1,.int .i64 x828001_1,.slice Ax828002_1 x828002_1.length cx828002_1,.slice Ax828003_1 x828003_1.length cx828003_1,.slice Ax828004_1 x828004_1.length cx828004_1],row (atI .i64) 3 Ax828004_1 x828004_1.length cx828004_1 x828004_1,row (atI .i64) 3 Ax828003_1 x828003_1.length cx828003_1 x828003_1,row at88 88 Ax828002_1 x828002_1.length cx828002_1 x828002_1,box gb813 31 [.int .i64 0,.int .i64 0,.slice none 0 0,.slice none 0 0,.slice none 0 0],box gb812 31 [.int .i64 a0_0,.int .i64 a0_1,.slice A0_2 l0_2.length c0_2,.slice A0_3 l0_3.length c0_3,.slice A0_4 l0_4.length c0_4]])
     case atStart=>exact ⟨t815,t816,t817,t818,t821,t824,_,_,_,_,_,_,(by first | rfl | (simp;done) | (simp [*];done) | (rw [w6_ (by omega) (by omega)])),H,Nat.le_refl _,S⟩
     case round =>
      clear H S F
      obtain ⟨x4_1,x828000_1,x828001_1,x828002_1,x828003_1,x828004_1,Ax828002_1,cx828002_1,Ax828003_1,cx828003_1,Ax828004_1,cx828004_1,rfl,HA,HK1,S⟩:=hrel
      have F:=S.fc
      cases gk with
      | zero=>exact absurd HA (by simp [impl_SharpenChallenge.l0])
      | succ k1 =>
       have H:=HA;clear HA;simp only [impl_SharpenChallenge.l0,F] at H
       go_upto_region 7 with (first | ((with_reducible refine gs (t:=31) rfl (L ?_));(first | refine sb (.agg #[_,_,_,_,_]) S sz31 ?_ | refine ro (.agg #[_,_,_,_,_]) S sz31 ?_ (ho:=rfl) (hx:=rfl) (hy:=rfl));(clear S F;intro W S;have F:=S.fc)) | ((with_reducible refine gs (t:=50) rfl (L ?_));(first | refine sb (.agg #[_,_,_]) S sz50 ?_ | refine ro (.agg #[_,_,_]) S sz50 ?_ (ho:=rfl) (hx:=rfl) (hy:=rfl));(clear S F;intro W S;have F:=S.fc)))
       go_cut [31] (fun v31 wc=>∃ (kq:Nat) (x31_30:Bool),v31 = .bool x31_30∧impl_SharpenChallenge.j1 kq x4_1 x31_30 a0_0 a0_1 l0_2 l0_3 l0_4 x828000_1 x828001_1 x828002_1 x828003_1 x828004_1 = some (r1,r2,r3,r4,r5,r6)∧kq ≤ k1∧St w w (fun _=>False) [bor at88 A0_2 c0_2 l0_2,bor (atI .i64) A0_3 c0_3 l0_3,bor (atI .i64) A0_4 c0_4 l0_4] wc  [box gb827 31 [.int .i64 x828000_1,.int .i64 x828001_1,.slice Ax828002_1 x828002_1.length cx828002_1,.slice Ax828003_1 x828003_1.length cx828003_1,.slice Ax828004_1 x828004_1.length cx828004_1],row (atI .i64) 3 Ax828004_1 x828004_1.length cx828004_1 x828004_1,row (atI .i64) 3 Ax828003_1 x828003_1.length cx828003_1 x828003_1,row at88 88 Ax828002_1 x828002_1.length cx828002_1 x828002_1,box gb813 31 [.int .i64 0,.int .i64 0,.slice none 0 0,.slice none 0 0,.slice none 0 0],box gb812 31 [.int .i64 a0_0,.int .i64 a0_1,.slice A0_2 l0_2.length c0_2,.slice A0_3 l0_3.length c0_3,.slice A0_4 l0_4.length c0_4]])
       case first =>
        replace H:=sp_ H;rcases H with ⟨c32,H⟩ | ⟨c32,H⟩
        · skip
          go_wp2_with (first | ((with_reducible refine gs (t:=31) rfl (L ?_));(first | refine sb (.agg #[_,_,_,_,_]) S sz31 ?_ | refine ro (.agg #[_,_,_,_,_]) S sz31 ?_ (ho:=rfl) (hx:=rfl) (hy:=rfl));(clear S F;intro W S;have F:=S.fc)) | ((with_reducible refine gs (t:=50) rfl (L ?_));(first | refine sb (.agg #[_,_,_]) S sz50 ?_ | refine ro (.agg #[_,_,_]) S sz50 ?_ (ho:=rfl) (hx:=rfl) (hy:=rfl));(clear S F;intro W S;have F:=S.fc)))
          go_meet
          case rel=>exact ⟨_,(decide ((x828003_1.length:Int) < 8)),(by first | rfl | (simp;done) | (simp [*];done) | (rw [w6_ (by omega) (by omega)])),H,(by first | omega | exact Nat.le_refl _),S⟩
        · skip
          go_wp2_with (first | ((with_reducible refine gs (t:=31) rfl (L ?_));(first | refine sb (.agg #[_,_,_,_,_]) S sz31 ?_ | refine ro (.agg #[_,_,_,_,_]) S sz31 ?_ (ho:=rfl) (hx:=rfl) (hy:=rfl));(clear S F;intro W S;have F:=S.fc)) | ((with_reducible refine gs (t:=50) rfl (L ?_));(first | refine sb (.agg #[_,_,_]) S sz50 ?_ | refine ro (.agg #[_,_,_]) S sz50 ?_ (ho:=rfl) (hx:=rfl) (hy:=rfl));(clear S F;intro W S;have F:=S.fc)))
          go_meet
          case rel=>exact ⟨_,false,(by first | rfl | (simp;done) | (simp [*];done) | (rw [w6_ (by omega) (by omega)])),H,(by first | omega | exact Nat.le_refl _),S⟩
       case rest =>
        clear H S F
        obtain ⟨kq,x31_30,rfl,HA,HJ30,S⟩:=hcut
        have F:=S.fc
        cases kq with
        | zero=>exact absurd HA (by simp [impl_SharpenChallenge.j1])
        | succ kj30 =>
         have H:=HA;clear HA;simp only [impl_SharpenChallenge.j1,F] at H
         replace H:=sp_ H;rcases H with ⟨c37,H⟩ | ⟨c37,H⟩
         · skip
           subst c37
           replace H:=Option.bind_eq_some_iff.mp H;obtain ⟨⟨t828,t829,t830,t833⟩,A38,H⟩:=H;(try dsimp only at H)
           go_wp2_with (first | ((with_reducible refine gate_callee (f:=64) rfl (L ?_));refine cl (some 34) Try.func64 (impl_smallestOf.calls _ _ _ _ _ _ _ _ _ _ _ _ _ _ _ _ _ S.c S.n S.c S.n S.c S.n A38) (hargs:=by (simp only [ma_,mb_,mc_,F] <;> rfl)) (h:=?_);rintro e W ⟨v831,rfl,ho0,hb⟩;refine ⟨_,rfl,?_⟩;replace S:=S.got at88 hb ho0;obtain ⟨At830,ct830,rfl,S⟩:=S;clear F hb ho0;have F:=S.fc) | ((with_reducible refine gd 6 rfl (L ?_));refine al 6 S zi50 ?_;clear S F;intro gb834 W S;have F:=S.fc) | ((with_reducible refine gd 8 rfl (L ?_));refine al 8 S zi31 ?_;clear S F;intro gb835 W S;have F:=S.fc) | ((with_reducible refine gs (t:=31) rfl (L ?_));(first | refine sb (.agg #[_,_,_,_,_]) S sz31 ?_ | refine ro (.agg #[_,_,_,_,_]) S sz31 ?_ (ho:=rfl) (hx:=rfl) (hy:=rfl));(clear S F;intro W S;have F:=S.fc)) | ((with_reducible refine gs (t:=50) rfl (L ?_));(first | refine sb (.agg #[_,_,_]) S sz50 ?_ | refine ro (.agg #[_,_,_]) S sz50 ?_ (ho:=rfl) (hx:=rfl) (hy:=rfl));(clear S F;intro W S;have F:=S.fc)))
           go_loopg [9,10] kj30 (fun kq v9 v10 w'=>∃ (x9_3:Int) (x10_3:Int) (x836000_3:Int) (x836001_3:Int) (x836002_3:List (S88)) (x836003_3:List Int) (x836004_3:List Int) (Ax836002_3:Option Addr) (cx836002_3:Nat) (Ax836003_3:Option Addr) (cx836003_3:Nat) (Ax836004_3:Option Addr) (cx836004_3:Nat),v9 = .int .i64 x9_3∧v10 = .int .i64 x10_3∧impl_SharpenChallenge.l1 kq x4_1 x9_3 x10_3 a0_0 a0_1 l0_2 l0_3 l0_4 x828000_1 x828001_1 x828002_1 x828003_1 x828004_1 t828 t829 t830 x836000_3 x836001_3 x836002_3 x836003_3 x836004_3 = some (r1,r2,r3,r4,r5,r6)∧kq ≤ kj30∧St w w (fun _=>False) [bor at88 A0_2 c0_2 l0_2,bor (atI .i64) A0_3 c0_3 l0_3,bor (atI .i64) A0_4 c0_4 l0_4] w'  [row (atI .i64) 3 Ax836004_3 x836004_3.length cx836004_3 x836004_3,row (atI .i64) 3 Ax836003_3 x836003_3.length cx836003_3 x836003_3,row at88 88 Ax836002_3 x836002_3.length cx836002_3 x836002_3,box gb835 31 [.int .i64 x836000_3,.int .i64 x836001_3,.slice Ax836002_3 x836002_3.length cx836002_3,.slice Ax836003_3 x836003_3.length cx836003_3,.slice Ax836004_3 x836004_3.length cx836004_3],box gb834 50 [.int .i64 t828,.int .i64 t829,.slice At830 t830.length ct830],row at88 88 At830 t830.length ct830 t830,box gb827 31 [.int .i64 x828000_1,.int .i64 x828001_1,.slice Ax828002_1 x828002_1.length cx828002_1,.slice Ax828003_1 x828003_1.length cx828003_1,.slice Ax828004_1 x828004_1.length cx828004_1],row (atI .i64) 3 Ax828004_1 x828004_1.length cx828004_1 x828004_1,row (atI .i64) 3 Ax828003_1 x828003_1.length cx828003_1 x828003_1,row at88 88 Ax828002_1 x828002_1.length cx828002_1 x828002_1,box gb813 31 [.int .i64 0,.int .i64 0,.slice none 0 0,.slice none 0 0,.slice none 0 0],box gb812 31 [.int .i64 a0_0,.int .i64 a0_1,.slice A0_2 l0_2.length c0_2,.slice A0_3 l0_3.length c0_3,.slice A0_4 l0_4.length c0_4]])
           case atStart=>exact ⟨x4_1,0,0,0,_,_,_,_,_,_,_,_,_,(by first | rfl | (simp;done) | (simp [*];done) | (rw [w6_ (by omega) (by omega)])),(by first | rfl | (simp;done) | (simp [*];done) | (rw [w6_ (by omega) (by omega)])),H,Nat.le_refl _,(((S.nl (e:=88) at88).nl (e:=3) (atI .i64)).nl (e:=3) (atI .i64))⟩
           case round =>
            clear H S F
            obtain ⟨x9_3,x10_3,x836000_3,x836001_3,x836002_3,x836003_3,x836004_3,Ax836002_3,cx836002_3,Ax836003_3,cx836003_3,Ax836004_3,cx836004_3,rfl,rfl,HA,HK3,S⟩:=hrel
            have F:=S.fc
            cases gk with
            | zero=>exact absurd HA (by simp [impl_SharpenChallenge.l1])
            | succ k3 =>
             have H:=HA;clear HA;simp only [impl_SharpenChallenge.l1,F] at H
             replace H:=sp_ H;rcases H with ⟨c58,H⟩ | ⟨c58,H⟩
             · skip
               replace H:=Option.bind_eq_some_iff.mp H;obtain ⟨⟨t836,t837,t838,t841,t844⟩,A59,H⟩:=H;(try dsimp only at H)
               replace H:=Option.bind_eq_some_iff.mp H;obtain ⟨t848,A60,H⟩:=H;(try dsimp only at H)
               replace H:=sp_ H;rcases H with ⟨c61,H⟩ | ⟨c61,H⟩
               · skip
                 go_wp2_with (first | ((with_reducible refine gate_callee (f:=91) rfl (L ?_));refine cl (some 48) Try.func91 (impl_withEntry.calls _ _ _ _ _ _ _ _ _ _ _ _ _ _ _ _ _ _ _ _ _ _ _ _ S.c S.n S.c S.n S.c S.n S.c S.n A59) (hargs:=by (simp only [ma_,mb_,mc_,F] <;> rfl)) (h:=?_);rintro e W ⟨v839,v842,v845,rfl,ho0,ho1,ho2,hb⟩;refine ⟨_,rfl,?_⟩;replace S:=S.got3i at88 (atI .i64) (atI .i64) hb ho0 ho1 ho2 (by decide);obtain ⟨At838,ct838,At841,ct841,At844,ct844,rfl,rfl,rfl,S⟩:=S;clear F hb ho0 ho1 ho2;have F:=S.fc) | ((with_reducible refine gd 11 rfl (L ?_));refine al 11 S zi31 ?_;clear S F;intro gb847 W S;have F:=S.fc) | ((with_reducible refine gate_callee (f:=69) rfl (L ?_));refine cl (some 50) Try.func69 (impl_countSolutions.calls _ _ _ _ _ _ _ _ _ _ _ _ _ _ S.c S.n S.c S.n S.c S.n A60) (hargs:=by (simp only [ma_,mb_,mc_,F] <;> rfl)) (h:=?_);rintro e W ⟨rfl,hb⟩;refine ⟨_,rfl,?_⟩;replace S:=S.go hb;clear F hb;have F:=S.fc) | ((with_reducible refine gs (t:=31) rfl (L ?_));(first | refine sb (.agg #[_,_,_,_,_]) S sz31 ?_ | refine ro (.agg #[_,_,_,_,_]) S sz31 ?_ (ho:=rfl) (hx:=rfl) (hy:=rfl));(clear S F;intro W S;have F:=S.fc)) | ((with_reducible refine gs (t:=50) rfl (L ?_));(first | refine sb (.agg #[_,_,_]) S sz50 ?_ | refine ro (.agg #[_,_,_]) S sz50 ?_ (ho:=rfl) (hx:=rfl) (hy:=rfl));(clear S F;intro W S;have F:=S.fc)))
                 go_roundg k3
                 case measure=>omega
                 case rel=>exact ⟨t848,(wrap64 (x10_3 + 1)),t836,t837,t838,t841,t844,_,_,_,_,_,_,(by first | rfl | (simp;done) | (simp [*];done) | (rw [w6_ (by omega) (by omega)])),(by first | rfl | (simp;done) | (simp [*];done) | (rw [w6_ (by omega) (by omega)])),H,(by first | omega | exact Nat.le_refl _),(S.ms [0,1,1,1,0,0,0])⟩
               · skip
                 go_wp2_with (first | ((with_reducible refine gate_callee (f:=91) rfl (L ?_));refine cl (some 48) Try.func91 (impl_withEntry.calls _ _ _ _ _ _ _ _ _ _ _ _ _ _ _ _ _ _ _ _ _ _ _ _ S.c S.n S.c S.n S.c S.n S.c S.n A59) (hargs:=by (simp only [ma_,mb_,mc_,F] <;> rfl)) (h:=?_);rintro e W ⟨v839,v842,v845,rfl,ho0,ho1,ho2,hb⟩;refine ⟨_,rfl,?_⟩;replace S:=S.got3i at88 (atI .i64) (atI .i64) hb ho0 ho1 ho2 (by decide);obtain ⟨At838,ct838,At841,ct841,At844,ct844,rfl,rfl,rfl,S⟩:=S;clear F hb ho0 ho1 ho2;have F:=S.fc) | ((with_reducible refine gd 11 rfl (L ?_));refine al 11 S zi31 ?_;clear S F;intro gb847 W S;have F:=S.fc) | ((with_reducible refine gate_callee (f:=69) rfl (L ?_));refine cl (some 50) Try.func69 (impl_countSolutions.calls _ _ _ _ _ _ _ _ _ _ _ _ _ _ S.c S.n S.c S.n S.c S.n A60) (hargs:=by (simp only [ma_,mb_,mc_,F] <;> rfl)) (h:=?_);rintro e W ⟨rfl,hb⟩;refine ⟨_,rfl,?_⟩;replace S:=S.go hb;clear F hb;have F:=S.fc) | ((with_reducible refine gs (t:=31) rfl (L ?_));(first | refine sb (.agg #[_,_,_,_,_]) S sz31 ?_ | refine ro (.agg #[_,_,_,_,_]) S sz31 ?_ (ho:=rfl) (hx:=rfl) (hy:=rfl));(clear S F;intro W S;have F:=S.fc)) | ((with_reducible refine gs (t:=50) rfl (L ?_));(first | refine sb (.agg #[_,_,_]) S sz50 ?_ | refine ro (.agg #[_,_,_]) S sz50 ?_ (ho:=rfl) (hx:=rfl) (hy:=rfl));(clear S F;intro W S;have F:=S.fc)))
                 go_roundg k3
                 case measure=>omega
                 case rel=>exact ⟨x9_3,(wrap64 (x10_3 + 1)),x836000_3,x836001_3,x836002_3,x836003_3,x836004_3,_,_,_,_,_,_,(by first | rfl | (simp;done) | (simp [*];done) | (rw [w6_ (by omega) (by omega)])),(by first | rfl | (simp;done) | (simp [*];done) | (rw [w6_ (by omega) (by omega)])),H,(by first | omega | exact Nat.le_refl _),S.tl.tl.tl.tl⟩
             · skip
               replace H:=sp_ H;rcases H with ⟨c113,H⟩ | ⟨c113,H⟩
               · skip
                 replace c113:=ceq c113
                 simp only [Option.some.injEq,Prod.mk.injEq] at H
                 obtain ⟨rfl,rfl,rfl,rfl,rfl,rfl⟩:=H
                 go_wp2_with (first | ((with_reducible refine gs (t:=31) rfl (L ?_));(first | refine sb (.agg #[_,_,_,_,_]) S sz31 ?_ | refine ro (.agg #[_,_,_,_,_]) S sz31 ?_ (ho:=rfl) (hx:=rfl) (hy:=rfl));(clear S F;intro W S;have F:=S.fc)) | ((with_reducible refine gs (t:=50) rfl (L ?_));(first | refine sb (.agg #[_,_,_]) S sz50 ?_ | refine ro (.agg #[_,_,_]) S sz50 ?_ (ho:=rfl) (hx:=rfl) (hy:=rfl));(clear S F;intro W S;have F:=S.fc)))
                 refine bodyPost_ret (results_ct rfl _ _ gb813 31 #[.int .i64 x828000_1,.int .i64 x828001_1,.slice Ax828002_1 x828002_1.length cx828002_1,.slice Ax828003_1 x828003_1.length cx828003_1,.slice Ax828004_1 x828004_1.length cx828004_1] (0,0) _ rfl S.hb Try.underlying31 rfl (by kernel_rfl)) rfl ?_
                 exact ⟨_,_,_,(by first | rfl | (simp [e0_,e1_] <;> rfl) | (simp [*,e0_,e1_] <;> rfl)),(by first | exact S.r | exact Kd.R_nil _ _ _ _ _),(by first | exact S.rn | exact Kd.R_nil _ _ _ _ _),(by first | exact S.rn | exact Kd.R_nil _ _ _ _ _),S.below⟩
               · skip
                 replace c113:=cne c113
                 go_wp2_with (first | ((with_reducible refine gs (t:=31) rfl (L ?_));(first | refine sb (.agg #[_,_,_,_,_]) S sz31 ?_ | refine ro (.agg #[_,_,_,_,_]) S sz31 ?_ (ho:=rfl) (hx:=rfl) (hy:=rfl));(clear S F;intro W S;have F:=S.fc)) | ((with_reducible refine gs (t:=50) rfl (L ?_));(first | refine sb (.agg #[_,_,_]) S sz50 ?_ | refine ro (.agg #[_,_,_]) S sz50 ?_ (ho:=rfl) (hx:=rfl) (hy:=rfl));(clear S F;intro W S;have F:=S.fc)))
                 go_roundg k3
                 case measure=>omega
                 case rel=>exact ⟨x9_3,x836000_3,x836001_3,x836002_3,x836003_3,x836004_3,_,_,_,_,_,_,(by first | rfl | (simp;done) | (simp [*];done) | (rw [w6_ (by omega) (by omega)])),H,(by first | omega | exact Nat.le_refl _),(S.pm [6,0,1,2,10,11])⟩
         · skip
           replace c37:=cbf c37;subst c37
           simp only [Option.some.injEq,Prod.mk.injEq] at H
           obtain ⟨rfl,rfl,rfl,rfl,rfl,rfl⟩:=H
           go_wp2_with (first | ((with_reducible refine gs (t:=31) rfl (L ?_));(first | refine sb (.agg #[_,_,_,_,_]) S sz31 ?_ | refine ro (.agg #[_,_,_,_,_]) S sz31 ?_ (ho:=rfl) (hx:=rfl) (hy:=rfl));(clear S F;intro W S;have F:=S.fc)) | ((with_reducible refine gs (t:=50) rfl (L ?_));(first | refine sb (.agg #[_,_,_]) S sz50 ?_ | refine ro (.agg #[_,_,_]) S sz50 ?_ (ho:=rfl) (hx:=rfl) (hy:=rfl));(clear S F;intro W S;have F:=S.fc)))
           refine bodyPost_ret (results_ct rfl _ _ gb813 31 #[.int .i64 x828000_1,.int .i64 x828001_1,.slice Ax828002_1 x828002_1.length cx828002_1,.slice Ax828003_1 x828003_1.length cx828003_1,.slice Ax828004_1 x828004_1.length cx828004_1] (0,0) _ rfl S.hb Try.underlying31 rfl (by kernel_rfl)) rfl ?_
           exact ⟨_,_,_,(by first | rfl | (simp [e0_,e1_] <;> rfl) | (simp [*,e0_,e1_] <;> rfl)),(by first | exact S.r | exact Kd.R_nil _ _ _ _ _),(by first | exact S.rn | exact Kd.R_nil _ _ _ _ _),(by first | exact S.rn | exact Kd.R_nil _ _ _ _ _),S.below⟩
 · skip
   replace c3:=cbf c3;subst c3
   simp only [Option.some.injEq,Prod.mk.injEq] at H
   obtain ⟨rfl,rfl,rfl,rfl,rfl,rfl⟩:=H
   go_enter Try.func57,Try.ntmps57
   go_wp2_with (first | ((with_reducible refine gd 1 rfl (L ?_));refine bo 1 (.agg #[_,_,_,_,_]) S ?_;clear S F;intro gb812 W S;have F:=S.fc) | ((with_reducible refine gd 2 rfl (L ?_));refine al 2 S zi31 ?_;clear S F;intro gb813 W S;have F:=S.fc) | ((with_reducible refine gate_callee (f:=75) rfl (L ?_));refine cl (some 14) Try.func75 (impl_isPlayed.calls _ _ _ _ _ _ _ _ _ _ _ _ _ _ S.c S.n S.c S.n S.c S.n A2) (hargs:=by (simp only [ma_,mb_,mc_,F] <;> rfl)) (h:=?_);rintro e W ⟨rfl,hb⟩;refine ⟨_,rfl,?_⟩;replace S:=S.go hb;clear F hb;have F:=S.fc) | ((with_reducible refine gs (t:=31) rfl (L ?_));(first | refine sb (.agg #[_,_,_,_,_]) S sz31 ?_ | refine ro (.agg #[_,_,_,_,_]) S sz31 ?_ (ho:=rfl) (hx:=rfl) (hy:=rfl));(clear S F;intro W S;have F:=S.fc)) | ((with_reducible refine gs (t:=50) rfl (L ?_));(first | refine sb (.agg #[_,_,_]) S sz50 ?_ | refine ro (.agg #[_,_,_]) S sz50 ?_ (ho:=rfl) (hx:=rfl) (hy:=rfl));(clear S F;intro W S;have F:=S.fc)))
   refine bodyPost_ret (results_ct rfl _ _ gb813 31 #[.int .i64 0,.int .i64 0,.slice none 0 0,.slice none 0 0,.slice none 0 0] (0,0) _ rfl S.hb Try.underlying31 rfl (by kernel_rfl)) rfl ?_
   exact ⟨_,_,_,(by first | rfl | (simp [e0_,e1_] <;> rfl) | (simp [*,e0_,e1_] <;> rfl)),(by first | exact S.r | exact Kd.R_nil _ _ _ _ _),(by first | exact S.rn | exact Kd.R_nil _ _ _ _ _),(by first | exact S.rn | exact Kd.R_nil _ _ _ _ _),S.below⟩

/-! ### laws_FnExactSharpenChallenge: function 13 -/
mutual
def laws_FnExactSharpenChallenge.j0:Nat→Bool→Bool→Bool→Int→Int→List (S106)→List Int→List Int→Int→Int→List (S88)→List Int→List Int→Int→Int→List (S88)→List Int→List Int→Int→Int→List (S88)→List Int→List Int→Option (Bool)
  | 0,_,_,_,_,_,_,_,_,_,_,_,_,_,_,_,_,_,_,_,_,_,_,_=>none
  | k + 1,x5,x8,x40,x850000,x850001,x850002,x850003,x850004,x875000,x875001,x875002,x875003,x875004,x887000,x887001,x887002,x887003,x887004,x900000,x900001,x900002,x900003,x900004=>if x40 = true then (some false) else ((laws_toChallenge.f k x850000 x850001 x850002 x850003 x850004).bind fun bt901=>((laws_eqChallenge.f k x887000 x887001 x887002 x887003 x887004 bt901.1 bt901.2.1 bt901.2.2.1 bt901.2.2.2.1 bt901.2.2.2.2).bind fun t912=>(if t912 = true then ((laws_markChallenge.f k x887000 x887001 x887002 x887003 x887004 1).bind fun bt913=>(if bt913.1 < 0 then (laws_FnExactSharpenChallenge.j1 k x5 true x850000 x850001 x850002 x850003 x850004 x875000 x875001 x875002 x875003 x875004 x900000 x900001 x900002 x900003 x900004) else ((laws_eqChallenge.f k x900000 x900001 x900002 x900003 x900004 x875000 x875001 x875002 x875003 x875004).bind fun t917=>(if t917 = true then (laws_FnExactSharpenChallenge.j1 k x5 (x8 != x5) x850000 x850001 x850002 x850003 x850004 x875000 x875001 x875002 x875003 x875004 x900000 x900001 x900002 x900003 x900004) else (laws_FnExactSharpenChallenge.j1 k x5 true x850000 x850001 x850002 x850003 x850004 x875000 x875001 x875002 x875003 x875004 x900000 x900001 x900002 x900003 x900004))))) else (some false))))
def laws_FnExactSharpenChallenge.j1:Nat→Bool→Bool→Int→Int→List (S106)→List Int→List Int→Int→Int→List (S88)→List Int→List Int→Int→Int→List (S88)→List Int→List Int→Option (Bool)
  | 0,_,_,_,_,_,_,_,_,_,_,_,_,_,_,_,_,_=>none
  | k + 1,x5,x61,x850000,x850001,x850002,x850003,x850004,x875000,x875001,x875002,x875003,x875004,x900000,x900001,x900002,x900003,x900004=>if x61 = true then (some false) else ((laws_markChallenge.f k x900000 x900001 x900002 x900003 x900004 1).bind fun bt918=>((laws_heldChallenge.f k x900000 x900001 bt918.2.1 bt918.2.2.1 bt918.2.2.2 1).bind fun t922=>(if t922 < 0 then (some false) else (if t922 = bt918.1 then ((laws_toChallenge.f k x850000 x850001 x850002 x850003 x850004).bind fun bt923=>((impl_SharpenChallenge.f k bt923.1 bt923.2.1 bt923.2.2.1 bt923.2.2.2.1 bt923.2.2.2.2).bind fun bt934=>((laws_eqChallenge.f k bt934.1 bt934.2.1 bt934.2.2.1 bt934.2.2.2.1 bt934.2.2.2.2.1 x875000 x875001 x875002 x875003 x875004).bind fun t947=>(if t947 = true then (laws_FnExactSharpenChallenge.j2 k bt918.1 (bt934.2.2.2.2.2 != x5) x900000 x900001 bt918.2.1 bt918.2.2.1 bt918.2.2.2) else (laws_FnExactSharpenChallenge.j2 k bt918.1 true x900000 x900001 bt918.2.1 bt918.2.2.1 bt918.2.2.2))))) else (some false)))))
def laws_FnExactSharpenChallenge.j2:Nat→Int→Bool→Int→Int→List (S88)→List Int→List Int→Option (Bool)
  | 0,_,_,_,_,_,_,_=>none
  | k + 1,x10,x87,x900000,x900001,x900002,x900003,x900004=>if x87 = true then (some false) else ((laws_heldChallenge.f k x900000 x900001 x900002 x900003 x900004 1).bind fun t948=>(if t948 < 0 then (some false) else (if t948 = x10 then (some true) else (some false))))
end
def laws_FnExactSharpenChallenge.f (k:Nat) (a0_0:Int) (a0_1:Int) (l0_2:List (S106)) (l0_3:List Int) (l0_4:List Int):Option (Bool):=(laws_szChallenge.f a0_0 a0_1 l0_2 l0_3 l0_4 1048576).bind fun t850=>(if t850 < 0 then (some true) else ((laws_toChallenge.f k a0_0 a0_1 l0_2 l0_3 l0_4).bind fun bt851=>((spec_SharpenChallenge.f k bt851.1 bt851.2.1 bt851.2.2.1 bt851.2.2.2.1 bt851.2.2.2.2).bind fun bt862=>((laws_toChallenge.f k a0_0 a0_1 l0_2 l0_3 l0_4).bind fun bt875=>((impl_SharpenChallenge.f k bt875.1 bt875.2.1 bt875.2.2.1 bt875.2.2.2.1 bt875.2.2.2.2).bind fun bt887=>((laws_eqChallenge.f k bt887.1 bt887.2.1 bt887.2.2.1 bt887.2.2.2.1 bt887.2.2.2.2.1 bt862.1 bt862.2.1 bt862.2.2.1 bt862.2.2.2.1 bt862.2.2.2.2.1).bind fun t900=>(if t900 = true then (laws_FnExactSharpenChallenge.j0 k bt862.2.2.2.2.2 bt887.2.2.2.2.2 (bt887.2.2.2.2.2 != bt862.2.2.2.2.2) a0_0 a0_1 l0_2 l0_3 l0_4 bt862.1 bt862.2.1 bt862.2.2.1 bt862.2.2.2.1 bt862.2.2.2.2.1 bt875.1 bt875.2.1 bt875.2.2.1 bt875.2.2.2.1 bt875.2.2.2.2 bt887.1 bt887.2.1 bt887.2.2.1 bt887.2.2.2.1 bt887.2.2.2.2.1) else (laws_FnExactSharpenChallenge.j0 k bt862.2.2.2.2.2 bt887.2.2.2.2.2 true a0_0 a0_1 l0_2 l0_3 l0_4 bt862.1 bt862.2.1 bt862.2.2.1 bt862.2.2.2.1 bt862.2.2.2.2.1 bt875.1 bt875.2.1 bt875.2.2.1 bt875.2.2.2.1 bt875.2.2.2.2 bt887.1 bt887.2.1 bt887.2.2.1 bt887.2.2.2.1 bt887.2.2.2.2.1))))))))
theorem laws_FnExactSharpenChallenge.calls (k:Nat) (a0_0:Int) (a0_1:Int) (A0_2:Option Addr) (c0_2:Nat) (l0_2:List (S106)) (A0_3:Option Addr) (c0_3:Nat) (l0_3:List Int) (A0_4:Option Addr) (c0_4:Nat) (l0_4:List Int) (r:Bool) (w:World) (hr0_2:Kd.C k106 w A0_2 l0_2.length l0_2) (hc0_2:l0_2.length ≤ c0_2) (hr0_3:Kd.C (Kd.int .i64) w A0_3 l0_3.length l0_3) (hc0_3:l0_3.length ≤ c0_3) (hr0_4:Kd.C (Kd.int .i64) w A0_4 l0_4.length l0_4) (hc0_4:l0_4.length ≤ c0_4) (hrt:r = true) (h:laws_FnExactSharpenChallenge.f k a0_0 a0_1 l0_2 l0_3 l0_4 = some r) :
    Calls Try.prog 13 #[.agg #[.int .i64 a0_0,.int .i64 a0_1,.slice A0_2 l0_2.length c0_2,.slice A0_3 l0_3.length c0_3,.slice A0_4 l0_4.length c0_4]] w fun e w'=>e = .returned (.bool r)∧Below w.heap.size w w':=by
 have S:=St.init (w:=w) (dc k106_heap at106 hr0_2 hc0_2 (dc (Kd.heap_int .i64) (atI .i64) hr0_3 hc0_3 (dc (Kd.heap_int .i64) (atI .i64) hr0_4 hc0_4 dn)))
 have HRT:=Aside0.mk hrt;clear hrt
 clear hr0_2 hc0_2 hr0_3 hc0_3 hr0_4 hc0_4
 have F:=S.fc
 have H:=h;clear h;unfold laws_FnExactSharpenChallenge.f at H
 replace H:=Option.bind_eq_some_iff.mp H;obtain ⟨t850,A2,H⟩:=H;(try dsimp only at H)
 replace H:=sp_ H;rcases H with ⟨c3,H⟩ | ⟨c3,H⟩
 · skip
   obtain rfl:=Option.some.inj H
   go_enter Try.func13,Try.ntmps13
   go_wp2_with (first | ((with_reducible refine gd 1 rfl (L ?_));refine bo 1 (.agg #[_,_,_,_,_]) S ?_;clear S F;intro gb849 W S;have F:=S.fc) | ((with_reducible refine gate_callee (f:=14) rfl (L ?_));refine cl (some 16) Try.func14 (laws_szChallenge.calls _ _ _ _ _ _ _ _ _ _ _ _ _ _ S.c S.n S.c S.n S.c S.n A2) (hargs:=by (simp only [ma_,mb_,mc_,F] <;> rfl)) (h:=?_);rintro e W ⟨rfl,hb⟩;refine ⟨_,rfl,?_⟩;replace S:=S.go hb;clear F hb;have F:=S.fc) | ((with_reducible refine gs (t:=31) rfl (L ?_));(first | refine sb (.agg #[_,_,_,_,_]) S sz31 ?_ | refine ro (.agg #[_,_,_,_,_]) S sz31 ?_ (ho:=rfl) (hx:=rfl) (hy:=rfl));(clear S F;intro W S;have F:=S.fc)))
   go_ret
   exact ⟨(by first | rfl | (simp [e0_,e1_] <;> rfl) | (simp [*,e0_,e1_] <;> rfl)),S.below⟩
 · skip
   replace H:=Option.bind_eq_some_iff.mp H;obtain ⟨⟨t851,t852,t853,t856,t859⟩,A7,H⟩:=H;(try dsimp only at H)
   replace H:=Option.bind_eq_some_iff.mp H;obtain ⟨⟨t862,t863,t864,t867,t870,t873⟩,A8,H⟩:=H;(try dsimp only at H)
   replace H:=Option.bind_eq_some_iff.mp H;obtain ⟨⟨t875,t876,t877,t880,t883⟩,A9,H⟩:=H;(try dsimp only at H)
   replace H:=Option.bind_eq_some_iff.mp H;obtain ⟨⟨t887,t888,t889,t892,t895,t898⟩,A10,H⟩:=H;(try dsimp only at H)
   go_enter Try.func13,Try.ntmps13
   go_upto_region 8 with (first | ((with_reducible refine gd 1 rfl (L ?_));refine bo 1 (.agg #[_,_,_,_,_]) S ?_;clear S F;intro gb849 W S;have F:=S.fc) | ((with_reducible refine gate_callee (f:=14) rfl (L ?_));refine cl (some 16) Try.func14 (laws_szChallenge.calls _ _ _ _ _ _ _ _ _ _ _ _ _ _ S.c S.n S.c S.n S.c S.n A2) (hargs:=by (simp only [ma_,mb_,mc_,F] <;> rfl)) (h:=?_);rintro e W ⟨rfl,hb⟩;refine ⟨_,rfl,?_⟩;replace S:=S.go hb;clear F hb;have F:=S.fc) | ((with_reducible refine gate_callee (f:=16) rfl (L ?_));refine cl (some 21) Try.func16 (laws_toChallenge.calls _ _ _ _ _ _ _ _ _ _ _ _ _ _ _ _ _ _ S.c S.n S.c S.n S.c S.n A7) (hargs:=by (simp only [ma_,mb_,mc_,F] <;> rfl)) (h:=?_);rintro e W ⟨v854,v857,v860,rfl,ho0,ho1,ho2,hb⟩;refine ⟨_,rfl,?_⟩;replace S:=S.got3i at88 (atI .i64) (atI .i64) hb ho0 ho1 ho2 (by decide);obtain ⟨At853,ct853,At856,ct856,At859,ct859,rfl,rfl,rfl,S⟩:=S;clear F hb ho0 ho1 ho2;have F:=S.fc) | ((with_reducible refine gate_callee (f:=56) rfl (L ?_));refine cl (some 22) Try.func56 (spec_SharpenChallenge.calls _ _ _ _ _ _ _ _ _ _ _ _ _ _ _ _ _ _ _ S.c S.n S.c S.n S.c S.n A8) (hargs:=by (simp only [ma_,mb_,mc_,F] <;> rfl)) (h:=?_);rintro e W ⟨v865,v868,v871,rfl,ho0,ho1,ho2,hb⟩;refine ⟨_,rfl,?_⟩;replace S:=S.got3i at88 (atI .i64) (atI .i64) hb ho0 ho1 ho2 (by decide);obtain ⟨At864,ct864,At867,ct867,At870,ct870,rfl,rfl,rfl,S⟩:=S;clear F hb ho0 ho1 ho2;have F:=S.fc) | ((with_reducible refine gd 4 rfl (L ?_));refine al 4 S zi31 ?_;clear S F;intro gb874 W S;have F:=S.fc) | ((with_reducible refine gate_callee (f:=16) rfl (L ?_));refine cl (some 26) Try.func16 (laws_toChallenge.calls _ _ _ _ _ _ _ _ _ _ _ _ _ _ _ _ _ _ S.c S.n S.c S.n S.c S.n A9) (hargs:=by (simp only [ma_,mb_,mc_,F] <;> rfl)) (h:=?_);rintro e W ⟨v878,v881,v884,rfl,ho0,ho1,ho2,hb⟩;refine ⟨_,rfl,?_⟩;replace S:=S.got3i at88 (atI .i64) (atI .i64) hb ho0 ho1 ho2 (by decide);obtain ⟨At877,ct877,At880,ct880,At883,ct883,rfl,rfl,rfl,S⟩:=S;clear F hb ho0 ho1 ho2;have F:=S.fc) | ((with_reducible refine gd 6 rfl (L ?_));refine al 6 S zi31 ?_;clear S F;intro gb886 W S;have F:=S.fc) | ((with_reducible refine gate_callee (f:=57) rfl (L ?_));refine cl (some 29) Try.func57 (impl_SharpenChallenge.calls _ _ _ _ _ _ _ _ _ _ _ _ _ _ _ _ _ _ _ S.c S.n S.c S.n S.c S.n A10) (hargs:=by (simp only [ma_,mb_,mc_,F] <;> rfl)) (h:=?_);rintro e W ⟨v890,v893,v896,rfl,ho0,ho1,ho2,hb⟩;refine ⟨_,rfl,?_⟩;replace S:=S.got3i at88 (atI .i64) (atI .i64) hb ho0 ho1 ho2 (by decide);obtain ⟨At889,ct889,At892,ct892,At895,ct895,rfl,rfl,rfl,S⟩:=S;clear F hb ho0 ho1 ho2;have F:=S.fc) | ((with_reducible refine gd 7 rfl (L ?_));refine al 7 S zi31 ?_;clear S F;intro gb899 W S;have F:=S.fc) | ((with_reducible refine gs (t:=31) rfl (L ?_));(first | refine sb (.agg #[_,_,_,_,_]) S sz31 ?_ | refine ro (.agg #[_,_,_,_,_]) S sz31 ?_ (ho:=rfl) (hx:=rfl) (hy:=rfl));(clear S F;intro W S;have F:=S.fc)))
   (try simp only [Act.put,List.setIfInBounds_toArray,List.set_cons_zero,List.set_cons_succ])
   go_cut [40] (fun v40 wc=>∃ (kq:Nat) (x40_10:Bool),v40 = .bool x40_10∧laws_FnExactSharpenChallenge.j0 kq t873 t898 x40_10 a0_0 a0_1 l0_2 l0_3 l0_4 t862 t863 t864 t867 t870 t875 t876 t877 t880 t883 t887 t888 t889 t892 t895 = some r∧kq ≤ k∧St w w (fun _=>False) [bor at106 A0_2 c0_2 l0_2,bor (atI .i64) A0_3 c0_3 l0_3,bor (atI .i64) A0_4 c0_4 l0_4] wc  [box gb899 31 [.int .i64 t887,.int .i64 t888,.slice At889 t889.length ct889,.slice At892 t892.length ct892,.slice At895 t895.length ct895],row (atI .i64) 3 At895 t895.length ct895 t895,row (atI .i64) 3 At892 t892.length ct892 t892,row at88 88 At889 t889.length ct889 t889,box gb886 31 [.int .i64 t875,.int .i64 t876,.slice At877 t877.length ct877,.slice At880 t880.length ct880,.slice At883 t883.length ct883],row (atI .i64) 3 At883 t883.length ct883 t883,row (atI .i64) 3 At880 t880.length ct880 t880,row at88 88 At877 t877.length ct877 t877,box gb874 31 [.int .i64 t862,.int .i64 t863,.slice At864 t864.length ct864,.slice At867 t867.length ct867,.slice At870 t870.length ct870],row (atI .i64) 3 At870 t870.length ct870 t870,row (atI .i64) 3 At867 t867.length ct867 t867,row at88 88 At864 t864.length ct864 t864,box gb849 25 [.int .i64 a0_0,.int .i64 a0_1,.slice A0_2 l0_2.length c0_2,.slice A0_3 l0_3.length c0_3,.slice A0_4 l0_4.length c0_4]])
   case first =>
    replace H:=Option.bind_eq_some_iff.mp H;obtain ⟨t900,A45,H⟩:=H;(try dsimp only at H)
    replace H:=sp_ H;rcases H with ⟨c46,H⟩ | ⟨c46,H⟩
    · skip
      subst c46
      go_wp2_with (first | ((with_reducible refine gate_callee (f:=18) rfl (L ?_));refine cl (some 34) Try.func18 (laws_eqChallenge.calls _ _ _ _ _ _ _ _ _ _ _ _ _ _ _ _ _ _ _ _ _ _ _ _ _ S.c S.n S.c S.n S.c S.n S.c S.n S.c S.n S.c S.n A45) (hargs:=by (simp only [ma_,mb_,mc_,F] <;> rfl)) (h:=?_);rintro e W ⟨rfl,hb⟩;refine ⟨_,rfl,?_⟩;replace S:=S.go hb;clear F hb;have F:=S.fc) | ((with_reducible refine gs (t:=31) rfl (L ?_));(first | refine sb (.agg #[_,_,_,_,_]) S sz31 ?_ | refine ro (.agg #[_,_,_,_,_]) S sz31 ?_ (ho:=rfl) (hx:=rfl) (hy:=rfl));(clear S F;intro W S;have F:=S.fc)))
      go_meet
      case rel=>exact ⟨_,(t898 != t873),(by first | rfl | (simp;done) | (simp [*];done) | (rw [w6_ (by omega) (by omega)])),H,(by first | omega | exact Nat.le_refl _),(S.ms [1,1,1,1,1,1,1,1,1,1,1,1,0,0,0])⟩
    · skip
      replace c46:=cbf c46;subst c46
      go_wp2_with (first | ((with_reducible refine gate_callee (f:=18) rfl (L ?_));refine cl (some 34) Try.func18 (laws_eqChallenge.calls _ _ _ _ _ _ _ _ _ _ _ _ _ _ _ _ _ _ _ _ _ _ _ _ _ S.c S.n S.c S.n S.c S.n S.c S.n S.c S.n S.c S.n A45) (hargs:=by (simp only [ma_,mb_,mc_,F] <;> rfl)) (h:=?_);rintro e W ⟨rfl,hb⟩;refine ⟨_,rfl,?_⟩;replace S:=S.go hb;clear F hb;have F:=S.fc) | ((with_reducible refine gs (t:=31) rfl (L ?_));(first | refine sb (.agg #[_,_,_,_,_]) S sz31 ?_ | refine ro (.agg #[_,_,_,_,_]) S sz31 ?_ (ho:=rfl) (hx:=rfl) (hy:=rfl));(clear S F;intro W S;have F:=S.fc)))
      go_meet
      case rel=>exact ⟨_,true,(by first | rfl | (simp;done) | (simp [*];done) | (rw [w6_ (by omega) (by omega)])),H,(by first | omega | exact Nat.le_refl _),(S.ms [1,1,1,1,1,1,1,1,1,1,1,1,0,0,0])⟩
   case rest =>
    clear H S F
    obtain ⟨kq,x40_10,rfl,HA,HJ10,S⟩:=hcut
    have F:=S.fc
    cases kq with
    | zero=>exact absurd HA (by simp [laws_FnExactSharpenChallenge.j0])
    | succ kj10 =>
     have H:=HA;clear HA;simp only [laws_FnExactSharpenChallenge.j0,F] at H
     replace H:=sp_ H;rcases H with ⟨c63,H⟩ | ⟨c63,H⟩
     · skip
       subst c63
       exact absurd (H.trans (congrArg some HRT.out)) (by simp)
     · skip
       replace c63:=cbf c63;subst c63
       replace H:=Option.bind_eq_some_iff.mp H;obtain ⟨⟨t901,t902,t903,t906,t909⟩,A64,H⟩:=H;(try dsimp only at H)
       replace H:=Option.bind_eq_some_iff.mp H;obtain ⟨t912,A65,H⟩:=H;(try dsimp only at H)
       replace H:=sp_ H;rcases H with ⟨c66,H⟩ | ⟨c66,H⟩
       · skip
         subst c66
         replace H:=Option.bind_eq_some_iff.mp H;obtain ⟨⟨t913,t914,t915,t916⟩,A67,H⟩:=H;(try dsimp only at H)
         go_wp2_with (first | ((with_reducible refine gs (t:=31) rfl (L ?_));(first | refine sb (.agg #[_,_,_,_,_]) S sz31 ?_ | refine ro (.agg #[_,_,_,_,_]) S sz31 ?_ (ho:=rfl) (hx:=rfl) (hy:=rfl));(clear S F;intro W S;have F:=S.fc)))
         refine rq S [(1,0),(1,1),(2,2),(2,3),(0,4)] [] (h:=?_);clear S F;intro W S;have S0:=S;have F:=S.fc
         repeat (first | (refine q0 (h:=?_)) | (refine q1 S0 (h:=?_)) | (refine q0n (h:=?_)) | (refine q1n S0 (h:=?_)))
         refine lk2 (by rfl) (by exact (Eq.refl true)) ?_;refine cl (some 43) Try.func16 (laws_toChallenge.calls _ _ _ _ _ _ _ _ _ _ _ _ _ _ _ _ _ _ S.c S.n S.c S.n S.c S.n A64) (hargs:=by (simp only [ma_,mb_,mc_,F] <;> rfl)) (h:=?_);rintro e W ⟨v904,v907,v910,rfl,ho0,ho1,ho2,hb⟩;refine ⟨_,rfl,?_⟩;replace S:=S.got3i at88 (atI .i64) (atI .i64) hb ho0 ho1 ho2 (by decide);obtain ⟨At903,ct903,At906,ct906,At909,ct909,rfl,rfl,rfl,S⟩:=S;clear F hb ho0 ho1 ho2;have F:=S.fc
         clear S0;have S0:=S.tl.tl.tl;refine ⟨S0,?_⟩
         refine lk2 (by rfl) (by exact (Eq.refl true)) ?_;refine cl (some 44) Try.func18 (laws_eqChallenge.calls _ _ _ _ _ _ _ _ _ _ _ _ _ _ _ _ _ _ _ _ _ _ _ _ _ S.c S.n S.c S.n S.c S.n S.c S.n S.c S.n S.c S.n A65) (hargs:=by (simp only [ma_,mb_,mc_,F] <;> rfl)) (h:=?_);rintro e W ⟨rfl,hb⟩;refine ⟨_,rfl,?_⟩;replace S:=S.go hb;clear F hb;have F:=S.fc
         clear S0;have S0:=S.tl.tl.tl;refine ⟨S0,?_⟩
         repeat (first | (refine q0 (h:=?_)) | (refine q1 S0 (h:=?_)) | (refine q0n (h:=?_)) | (refine q1n S0 (h:=?_)))
         refine oz ?_
         try clear S0
         go_upto_region 14 with (first | ((with_reducible refine gate_callee (f:=22) rfl (L ?_));obtain ⟨o1_,o2_,o3_,k_⟩:=S.lend3 At877 At880 At883;refine cl (some 48) Try.func22 (laws_markChallenge.calls _ _ _ o1_ _ _ o2_ _ _ o3_ _ _ _ _ _ _ _ _ _ k_.below k_.r1 k_.r2 k_.hp k_.r3 k_.hq A67) (hargs:=by (simp only [ma_,mb_,mc_,F] <;> rfl)) (h:=?_);rintro e W ⟨rfl,h1_,h2_,h3_,hb,hk⟩;refine ⟨_,rfl,?_⟩;clear S F;have S:=k_.back h1_ h2_ h3_ hb hk;simp only [List.set_cons_zero,List.set_cons_succ] at S;clear k_ h1_ h2_ h3_ hb hk o1_ o2_ o3_;have F:=S.fc) | ((with_reducible refine gs (t:=31) rfl (L ?_));(first | refine sb (.agg #[_,_,_,_,_]) S sz31 ?_ | refine ro (.agg #[_,_,_,_,_]) S sz31 ?_ (ho:=rfl) (hx:=rfl) (hy:=rfl));(clear S F;intro W S;have F:=S.fc)))
         (try simp only [Act.put,List.setIfInBounds_toArray,List.set_cons_zero,List.set_cons_succ])
         go_cut [61] (fun v61 wc=>∃ (kq:Nat) (x61_67:Bool),v61 = .bool x61_67∧laws_FnExactSharpenChallenge.j1 kq t873 x61_67 a0_0 a0_1 l0_2 l0_3 l0_4 t862 t863 t864 t867 t870 t887 t888 t889 t892 t895 = some r∧kq ≤ kj10∧St w w (fun _=>False) [bor at106 A0_2 c0_2 l0_2,bor (atI .i64) A0_3 c0_3 l0_3,bor (atI .i64) A0_4 c0_4 l0_4] wc  [box gb899 31 [.int .i64 t887,.int .i64 t888,.slice At889 t889.length ct889,.slice At892 t892.length ct892,.slice At895 t895.length ct895],row (atI .i64) 3 At895 t895.length ct895 t895,row (atI .i64) 3 At892 t892.length ct892 t892,row at88 88 At889 t889.length ct889 t889,box gb886 31 [.int .i64 t875,.int .i64 t876,.slice At877 t877.length ct877,.slice At880 t880.length ct880,.slice At883 t883.length ct883],row (atI .i64) 3 At883 t883.length ct883 t916,row (atI .i64) 3 At880 t880.length ct880 t915,row at88 88 At877 t877.length ct877 t914,box gb874 31 [.int .i64 t862,.int .i64 t863,.slice At864 t864.length ct864,.slice At867 t867.length ct867,.slice At870 t870.length ct870],row (atI .i64) 3 At870 t870.length ct870 t870,row (atI .i64) 3 At867 t867.length ct867 t867,row at88 88 At864 t864.length ct864 t864,box gb849 25 [.int .i64 a0_0,.int .i64 a0_1,.slice A0_2 l0_2.length c0_2,.slice A0_3 l0_3.length c0_3,.slice A0_4 l0_4.length c0_4]])
         case first =>
          replace H:=sp_ H;rcases H with ⟨c80,H⟩ | ⟨c80,H⟩
          · skip
            go_wp2_with (first | ((with_reducible refine gs (t:=31) rfl (L ?_));(first | refine sb (.agg #[_,_,_,_,_]) S sz31 ?_ | refine ro (.agg #[_,_,_,_,_]) S sz31 ?_ (ho:=rfl) (hx:=rfl) (hy:=rfl));(clear S F;intro W S;have F:=S.fc)))
            go_meet
            case rel=>exact ⟨_,true,(by first | rfl | (simp;done) | (simp [*];done) | (rw [w6_ (by omega) (by omega)])),(by first | exact H | (simp only [F];exact H)),(by first | omega | exact Nat.le_refl _),S.tl.tl.tl⟩
          · skip
            replace H:=Option.bind_eq_some_iff.mp H;obtain ⟨t917,A81,H⟩:=H;(try dsimp only at H)
            replace H:=sp_ H;rcases H with ⟨c82,H⟩ | ⟨c82,H⟩
            · skip
              subst c82
              go_wp2_with (first | (go_at_call 18;(try simp only [F]);refine (laws_eqChallenge.calls _ _ _ _ _ _ _ _ _ _ _ _ _ _ _ _ _ _ _ _ _ _ _ _ _ S.c S.n S.c S.n S.c S.n S.c S.n S.c S.n S.c S.n A81).mono ?_;rintro e W ⟨rfl,hb⟩;replace S:=S.go hb;clear F hb;have F:=S.fc) | ((with_reducible refine gs (t:=31) rfl (L ?_));(first | refine sb (.agg #[_,_,_,_,_]) S sz31 ?_ | refine ro (.agg #[_,_,_,_,_]) S sz31 ?_ (ho:=rfl) (hx:=rfl) (hy:=rfl));(clear S F;intro W S;have F:=S.fc)))
              go_meet
              case rel=>exact ⟨_,(t898 != t873),(by first | rfl | (simp;done) | (simp [*];done) | (rw [w6_ (by omega) (by omega)])),(by first | exact H | (simp only [F];exact H)),(by first | omega | exact Nat.le_refl _),S.tl.tl.tl⟩
            · skip
              replace c82:=cbf c82;subst c82
              go_wp2_with (first | (go_at_call 18;(try simp only [F]);refine (laws_eqChallenge.calls _ _ _ _ _ _ _ _ _ _ _ _ _ _ _ _ _ _ _ _ _ _ _ _ _ S.c S.n S.c S.n S.c S.n S.c S.n S.c S.n S.c S.n A81).mono ?_;rintro e W ⟨rfl,hb⟩;replace S:=S.go hb;clear F hb;have F:=S.fc) | ((with_reducible refine gs (t:=31) rfl (L ?_));(first | refine sb (.agg #[_,_,_,_,_]) S sz31 ?_ | refine ro (.agg #[_,_,_,_,_]) S sz31 ?_ (ho:=rfl) (hx:=rfl) (hy:=rfl));(clear S F;intro W S;have F:=S.fc)))
              go_meet
              case rel=>exact ⟨_,true,(by first | rfl | (simp;done) | (simp [*];done) | (rw [w6_ (by omega) (by omega)])),(by first | exact H | (simp only [F];exact H)),(by first | omega | exact Nat.le_refl _),S.tl.tl.tl⟩
         case rest =>
          clear H S F
          obtain ⟨kq,x61_67,rfl,HA,HJ67,S⟩:=hcut
          have F:=S.fc
          cases kq with
          | zero=>exact absurd HA (by simp [laws_FnExactSharpenChallenge.j1])
          | succ kj67 =>
           have H:=HA;clear HA;simp only [laws_FnExactSharpenChallenge.j1,F] at H
           replace H:=sp_ H;rcases H with ⟨c99,H⟩ | ⟨c99,H⟩
           · skip
             subst c99
             exact absurd (H.trans (congrArg some HRT.out)) (by simp)
           · skip
             replace c99:=cbf c99;subst c99
             replace H:=Option.bind_eq_some_iff.mp H;obtain ⟨⟨t918,t919,t920,t921⟩,A100,H⟩:=H;(try dsimp only at H)
             replace H:=Option.bind_eq_some_iff.mp H;obtain ⟨t922,A101,H⟩:=H;(try dsimp only at H)
             replace H:=sp_ H;rcases H with ⟨c102,H⟩ | ⟨c102,H⟩
             · skip
               exact absurd (H.trans (congrArg some HRT.out)) (by simp)
             · skip
               replace H:=sp_ H;rcases H with ⟨c103,H⟩ | ⟨c103,H⟩
               · skip
                 replace c103:=ceq c103
                 replace H:=Option.bind_eq_some_iff.mp H;obtain ⟨⟨t923,t924,t925,t928,t931⟩,A104,H⟩:=H;(try dsimp only at H)
                 replace H:=Option.bind_eq_some_iff.mp H;obtain ⟨⟨t934,t935,t936,t939,t942,t945⟩,A105,H⟩:=H;(try dsimp only at H)
                 go_upto_region 25 with (first | ((with_reducible refine gate_callee (f:=22) rfl (L ?_));obtain ⟨o1_,o2_,o3_,k_⟩:=S.lend3 At889 At892 At895;refine cl (some 64) Try.func22 (laws_markChallenge.calls _ _ _ o1_ _ _ o2_ _ _ o3_ _ _ _ _ _ _ _ _ _ k_.below k_.r1 k_.r2 k_.hp k_.r3 k_.hq A100) (hargs:=by (simp only [ma_,mb_,mc_,F] <;> rfl)) (h:=?_);rintro e W ⟨rfl,h1_,h2_,h3_,hb,hk⟩;refine ⟨_,rfl,?_⟩;clear S F;have S:=k_.back h1_ h2_ h3_ hb hk;simp only [List.set_cons_zero,List.set_cons_succ] at S;clear k_ h1_ h2_ h3_ hb hk o1_ o2_ o3_;have F:=S.fc) | ((with_reducible refine gate_callee (f:=55) rfl (L ?_));refine cl (some 67) Try.func55 (laws_heldChallenge.calls _ _ _ _ _ _ _ _ _ _ _ _ _ _ _ S.c S.n S.c S.n S.c S.n A101) (hargs:=by (simp only [ma_,mb_,mc_,F] <;> rfl)) (h:=?_);rintro e W ⟨rfl,hb⟩;refine ⟨_,rfl,?_⟩;replace S:=S.go hb;clear F hb;have F:=S.fc) | ((with_reducible refine gate_callee (f:=16) rfl (L ?_));refine cl (some 75) Try.func16 (laws_toChallenge.calls _ _ _ _ _ _ _ _ _ _ _ _ _ _ _ _ _ _ S.c S.n S.c S.n S.c S.n A104) (hargs:=by (simp only [ma_,mb_,mc_,F] <;> rfl)) (h:=?_);rintro e W ⟨v926,v929,v932,rfl,ho0,ho1,ho2,hb⟩;refine ⟨_,rfl,?_⟩;replace S:=S.got3i at88 (atI .i64) (atI .i64) hb ho0 ho1 ho2 (by decide);obtain ⟨At925,ct925,At928,ct928,At931,ct931,rfl,rfl,rfl,S⟩:=S;clear F hb ho0 ho1 ho2;have F:=S.fc) | ((with_reducible refine gate_callee (f:=57) rfl (L ?_));refine cl (some 76) Try.func57 (impl_SharpenChallenge.calls _ _ _ _ _ _ _ _ _ _ _ _ _ _ _ _ _ _ _ S.c S.n S.c S.n S.c S.n A105) (hargs:=by (simp only [ma_,mb_,mc_,F] <;> rfl)) (h:=?_);rintro e W ⟨v937,v940,v943,rfl,ho0,ho1,ho2,hb⟩;refine ⟨_,rfl,?_⟩;replace S:=S.got3i at88 (atI .i64) (atI .i64) hb ho0 ho1 ho2 (by decide);obtain ⟨At936,ct936,At939,ct939,At942,ct942,rfl,rfl,rfl,S⟩:=S;clear F hb ho0 ho1 ho2;have F:=S.fc) | ((with_reducible refine gd 12 rfl (L ?_));refine al 12 S zi31 ?_;clear S F;intro gb946 W S;have F:=S.fc) | ((with_reducible refine gs (t:=31) rfl (L ?_));(first | refine sb (.agg #[_,_,_,_,_]) S sz31 ?_ | refine ro (.agg #[_,_,_,_,_]) S sz31 ?_ (ho:=rfl) (hx:=rfl) (hy:=rfl));(clear S F;intro W S;have F:=S.fc)))
                 (try simp only [Act.put,List.setIfInBounds_toArray,List.set_cons_zero,List.set_cons_succ])
                 go_cut [87] (fun v87 wc=>∃ (kq:Nat) (x87_105:Bool),v87 = .bool x87_105∧laws_FnExactSharpenChallenge.j2 kq t918 x87_105 t887 t888 t919 t920 t921 = some r∧kq ≤ kj67∧St w w (fun _=>False) [bor at106 A0_2 c0_2 l0_2,bor (atI .i64) A0_3 c0_3 l0_3,bor (atI .i64) A0_4 c0_4 l0_4] wc  [box gb946 31 [.int .i64 t934,.int .i64 t935,.slice At936 t936.length ct936,.slice At939 t939.length ct939,.slice At942 t942.length ct942],row (atI .i64) 3 At942 t942.length ct942 t942,row (atI .i64) 3 At939 t939.length ct939 t939,row at88 88 At936 t936.length ct936 t936,box gb899 31 [.int .i64 t887,.int .i64 t888,.slice At889 t889.length ct889,.slice At892 t892.length ct892,.slice At895 t895.length ct895],row (atI .i64) 3 At895 t895.length ct895 t921,row (atI .i64) 3 At892 t892.length ct892 t920,row at88 88 At889 t889.length ct889 t919,box gb886 31 [.int .i64 t875,.int .i64 t876,.slice At877 t877.length ct877,.slice At880 t880.length ct880,.slice At883 t883.length ct883],row (atI .i64) 3 At883 t883.length ct883 t916,row (atI .i64) 3 At880 t880.length ct880 t915,row at88 88 At877 t877.length ct877 t914,box gb874 31 [.int .i64 t862,.int .i64 t863,.slice At864 t864.length ct864,.slice At867 t867.length ct867,.slice At870 t870.length ct870],row (atI .i64) 3 At870 t870.length ct870 t870,row (atI .i64) 3 At867 t867.length ct867 t867,row at88 88 At864 t864.length ct864 t864,box gb849 25 [.int .i64 a0_0,.int .i64 a0_1,.slice A0_2 l0_2.length c0_2,.slice A0_3 l0_3.length c0_3,.slice A0_4 l0_4.length c0_4]])
                 case first =>
                  replace H:=Option.bind_eq_some_iff.mp H;obtain ⟨t947,A131,H⟩:=H;(try dsimp only at H)
                  replace H:=sp_ H;rcases H with ⟨c132,H⟩ | ⟨c132,H⟩
                  · skip
                    subst c132
                    go_wp2_with (first | ((with_reducible refine gate_callee (f:=18) rfl (L ?_));refine cl (some 81) Try.func18 (laws_eqChallenge.calls _ _ _ _ _ _ _ _ _ _ _ _ _ _ _ _ _ _ _ _ _ _ _ _ _ S.c S.n S.c S.n S.c S.n S.c S.n S.c S.n S.c S.n A131) (hargs:=by (simp only [ma_,mb_,mc_,F] <;> rfl)) (h:=?_);rintro e W ⟨rfl,hb⟩;refine ⟨_,rfl,?_⟩;replace S:=S.go hb;clear F hb;have F:=S.fc) | ((with_reducible refine gs (t:=31) rfl (L ?_));(first | refine sb (.agg #[_,_,_,_,_]) S sz31 ?_ | refine ro (.agg #[_,_,_,_,_]) S sz31 ?_ (ho:=rfl) (hx:=rfl) (hy:=rfl));(clear S F;intro W S;have F:=S.fc)))
                    go_meet
                    case rel=>exact ⟨_,(t945 != t873),(by first | rfl | (simp;done) | (simp [*];done) | (rw [w6_ (by omega) (by omega)])),(by first | exact H | (simp only [F];exact H)),(by first | omega | exact Nat.le_refl _),(S.ms [1,1,1,1,0,0,0])⟩
                  · skip
                    replace c132:=cbf c132;subst c132
                    go_wp2_with (first | ((with_reducible refine gate_callee (f:=18) rfl (L ?_));refine cl (some 81) Try.func18 (laws_eqChallenge.calls _ _ _ _ _ _ _ _ _ _ _ _ _ _ _ _ _ _ _ _ _ _ _ _ _ S.c S.n S.c S.n S.c S.n S.c S.n S.c S.n S.c S.n A131) (hargs:=by (simp only [ma_,mb_,mc_,F] <;> rfl)) (h:=?_);rintro e W ⟨rfl,hb⟩;refine ⟨_,rfl,?_⟩;replace S:=S.go hb;clear F hb;have F:=S.fc) | ((with_reducible refine gs (t:=31) rfl (L ?_));(first | refine sb (.agg #[_,_,_,_,_]) S sz31 ?_ | refine ro (.agg #[_,_,_,_,_]) S sz31 ?_ (ho:=rfl) (hx:=rfl) (hy:=rfl));(clear S F;intro W S;have F:=S.fc)))
                    go_meet
                    case rel=>exact ⟨_,true,(by first | rfl | (simp;done) | (simp [*];done) | (rw [w6_ (by omega) (by omega)])),(by first | exact H | (simp only [F];exact H)),(by first | omega | exact Nat.le_refl _),(S.ms [1,1,1,1,0,0,0])⟩
                 case rest =>
                  clear H S F
                  obtain ⟨kq,x87_105,rfl,HA,HJ105,S⟩:=hcut
                  have F:=S.fc
                  cases kq with
                  | zero=>exact absurd HA (by simp [laws_FnExactSharpenChallenge.j2])
                  | succ kj105 =>
                   have H:=HA;clear HA;simp only [laws_FnExactSharpenChallenge.j2,F] at H
                   replace H:=sp_ H;rcases H with ⟨c153,H⟩ | ⟨c153,H⟩
                   · skip
                     subst c153
                     exact absurd (H.trans (congrArg some HRT.out)) (by simp)
                   · skip
                     replace c153:=cbf c153;subst c153
                     replace H:=Option.bind_eq_some_iff.mp H;obtain ⟨t948,A154,H⟩:=H;(try dsimp only at H)
                     replace H:=sp_ H;rcases H with ⟨c155,H⟩ | ⟨c155,H⟩
                     · skip
                       exact absurd (H.trans (congrArg some HRT.out)) (by simp)
                     · skip
                       replace H:=sp_ H;rcases H with ⟨c156,H⟩ | ⟨c156,H⟩
                       · skip
                         replace c156:=ceq c156
                         obtain rfl:=Option.some.inj H
                         go_wp2_with (first | ((with_reducible refine gate_callee (f:=55) rfl (L ?_));refine cl (some 90) Try.func55 (laws_heldChallenge.calls _ _ _ _ _ _ _ _ _ _ _ _ _ _ _ S.c S.n S.c S.n S.c S.n A154) (hargs:=by (simp only [ma_,mb_,mc_,F] <;> rfl)) (h:=?_);rintro e W ⟨rfl,hb⟩;refine ⟨_,rfl,?_⟩;replace S:=S.go hb;clear F hb;have F:=S.fc) | ((with_reducible refine gs (t:=31) rfl (L ?_));(first | refine sb (.agg #[_,_,_,_,_]) S sz31 ?_ | refine ro (.agg #[_,_,_,_,_]) S sz31 ?_ (ho:=rfl) (hx:=rfl) (hy:=rfl));(clear S F;intro W S;have F:=S.fc)))
                         go_ret
                         exact ⟨(by first | rfl | (simp [e0_,e1_] <;> rfl) | (simp [*,e0_,e1_] <;> rfl)),S.below⟩
                       · skip
                         replace c156:=cne c156
                         exact absurd (H.trans (congrArg some HRT.out)) (by simp)
               · skip
                 replace c103:=cne c103
                 exact absurd (H.trans (congrArg some HRT.out)) (by simp)
       · skip
         replace c66:=cbf c66;subst c66
         exact absurd (H.trans (congrArg some HRT.out)) (by simp)
end Go.Proofs.Ytipaimgpmgbkiaa.F
